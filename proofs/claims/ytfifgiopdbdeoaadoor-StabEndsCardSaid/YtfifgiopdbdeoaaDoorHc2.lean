/- A part of the proof of: StabEnds: whatever the view, what is told one behind the other: the law is true, and its arguments stay as they were; the card ties stab.phases to the text. No condition but the card own. -/
import Derived.OpenShut
import Derived.ChangeShapes
import Derived.ChangeOld
import Derived.Test.YtfifgiopdbdeoaaDoorHc1
set_option linter.unusedSimpArgs false
set_option linter.unusedVariables false
namespace Go.Proofs.YtfifgiopdbdeoaaDoor.Lite
open Go Go.RowKit

def chkOX : Option Operand → Option X → Bool
  | none, none => true
  | some o, some x => chkX o x
  | _, _ => false

def structField (P : Program) (t : TypeId) (f : Nat) : Option Field :=
  match P.underlying t with
  | some (.struct fs) => fs[f]?
  | _ => none

def chkK (P : Program) (o : Oper) (k : K) : Bool :=
  match o.op, k with
  | _, .nw q => chkN P o q
  | .move x, .mv y => chkX x y
  | .assign x, .mv y => chkX x y
  | .pick c a b, .pick c' a' b' => chkX c c' && chkX a a' && chkX b b'
  | .alloc t, .new zero => (match P.info? t with | some i => (match i.zero with | some z => chkVs z.cells.toList zero | none => false) | none => false)
  | .box _ x, .box y => chkX x y
  | .load t x, .ld y => scalB P t && chkX x y
  | .load t x, .ldn n y => aggB P t && (sz P t == some n) && chkX x y
  | .store t x v, .st n y u => (sz P t == some n) && chkX x y && chkX v u
  | .fieldAddr t x f, .off off y => (match structField P t f with | some fd => fd.offset == off && (match sz P fd.type with | some s => decide (0 < s) | none => false) | none => false) && chkX x y
  | .indexAddr t x i, .ixa n e y j => (match P.underlying t with | some (.array n' el) => n == n' && (sz P el == some e) | _ => false) && chkX x y && chkX i j
  | .indexAddr t x i, .ixs e y j => (match P.underlying t with | some (.slice el) => (sz P el == some e) | _ => false) && chkX x y && chkX i j
  | .field t x f, .fld off y => (match structField P t f with | some fd => fd.offset == off && scalB P fd.type | none => false) && chkX x y
  | .field t x f, .fldn off n y => (match structField P t f with | some fd => fd.offset == off && aggB P fd.type && (sz P fd.type == some n) | none => false) && chkX x y
  | .index t x i, .ixv n y j => (match P.underlying t with | some (.array n' el) => n == n' && scalB P el && (sz P el == some 1) | _ => false) && chkX x y && chkX i j
  | .index t x i, .ixvn n e y j => (match P.underlying t with | some (.array n' el) => n == n' && aggB P el && (sz P el == some e) | _ => false) && chkX x y && chkX i j
  | .index t x i, .ixb y j => (match P.underlying t with | some .string => true | _ => false) && chkX x y && chkX i j
  | .binOp op _ x y _, .bin op' x' y' => decide (op = op') && chkX x x' && chkX y y'
  | .binOp op t x y _, .eqb neg x' y' => decide (op = if neg then .neq else .eql) && (match P.underlying t with | some .bool => true | _ => false) && chkX x x' && chkX y y'
  | .binOp op t x y _, .isn neg isF x' => decide (op = if neg then .neq else .eql) && nilConst P isF t y && chkX x x'
  | .binOp op t x y _, .eqs neg ks x' y' => decide (op = if neg then .neq else .eql) && flatAgg P t ks && chkX x x' && chkX y y'
  | .unOp op _ x, .not y => (match op with | .not => true | _ => false) && chkX x y
  | .convert s t x, .conv k y => (match P.underlying s, P.underlying t with | some (.int _), some (.int k') => k == k' | _, _ => false) && chkX x y
  | .makeFunc (.func f) first caps, .mkf g ys => first.isEmpty && f == g && chkXs caps.toList ys
  | .build t ps, .bld zero qs => chkBld P t ps zero qs
  | .buildSlice t n ps, .bls zero n' e qs => chkBls P t n ps zero n' e qs
  | .slice t x lo hi none, .sla n e y lo' hi' => (match P.underlying t with | some (.array n' el) => n == n' && (sz P el == some e) | _ => false) && chkX x y && chkOX lo lo' && chkOX hi hi'
  | .slice t x lo hi none, .sls e y lo' hi' => (match P.underlying t with | some (.slice el) => (sz P el == some e) | _ => false) && chkX x y && chkOX lo lo' && chkOX hi hi'
  | .slice t x lo (some (.const (.int .i64 0))) (some (.const (.int .i64 0))), .sl0 y => (match P.underlying t with | some (.slice el) => (sz P el).isSome | _ => false) && chkX x y &&
      (match lo with | none => true | some (.const (.int .i64 0)) => true | _ => false)
  | .call { callee := .builtin .len, args, argTypes }, .len isS y => (match args.toList, argTypes.toList with | [x], [t] => (match isS, P.underlying t with | true, some .string => true | false, some (.slice _) => true | _, _ => false) && chkX x y | _, _ => false)
  | .call { callee := .builtin .append, args, argTypes }, .app e x' y' => (match args.toList, argTypes.toList with | [x, y], [t, t'] => chkApp P t t' e && chkX x x' && chkX y y' | _, _ => false)
  | .call { callee := .builtin .min, args, .. }, .mnx false x' y' => (match args.toList with | [x, y] => chkX x x' && chkX y y' | _ => false)
  | .call { callee := .builtin .max, args, .. }, .mnx true x' y' => (match args.toList with | [x, y] => chkX x x' && chkX y y' | _ => false)
  | .extract x i, .ext y j => i == j && chkX x y
  | .nilCheck x, .nilc y => chkX x y
  | .call { callee := .value f, args, .. }, .call f' args' => chkX f f' && chkXs args.toList args'
  | _, _ => false

section
variable {P : Program} {o : Oper} {a : Act} {c : Cx} {h : Heap} {wp : Nat} {env : Env}

theorem map_some_inv {α β : Type} {x : Option α} {f : α → β} {y : β} (h : x.map f = some y) : ∃ z, x = some z ∧ y = f z := by
  cases x with
  | none => cases h
  | some z => simp at h; exact ⟨z, rfl, h.symm⟩

theorem bound_lo {lo : Option Operand} {lo' : Option X} (hc : chkOX lo lo' = true) (he : EnvRel c env a.tmps) {l : Int} (hb : bound? env 0 lo' = some l) (h0 : 0 ≤ l) : (lo.map a.eval = none ∧ l.toNat = 0) ∨ ∃ k, lo.map a.eval = some (.int k l.toNat) := by
  unfold chkOX at hc
  split at hc
  · simp only [bound?, Option.some.injEq] at hb; subst hb; exact .inl ⟨rfl, rfl⟩
  · simp only [bound?] at hb
    split at hb
    · rename_i k i hv
      injection hb with hb; subst hb
      have := (chkX_sound hc he hv).inv_int
      exact .inr ⟨k, by simp only [Option.map_some, this, Int.toNat_of_nonneg h0]⟩
    · cases hb
  · cases hc

theorem bound_hi {hi : Option Operand} {hi' : Option X} (hc : chkOX hi hi' = true) (he : EnvRel c env a.tmps) {n : Nat} {l : Int} (hb : bound? env n hi' = some l) (h0 : 0 ≤ l) : (hi.map a.eval = none ∧ l.toNat = n) ∨ ∃ k, hi.map a.eval = some (.int k l.toNat) := by
  unfold chkOX at hc
  split at hc
  · simp only [bound?, Option.some.injEq] at hb; subst hb; exact .inl ⟨rfl, by simp⟩
  · simp only [bound?] at hb
    split at hb
    · rename_i k i hv
      injection hb with hb; subst hb
      have := (chkX_sound hc he hv).inv_int
      exact .inr ⟨k, by simp only [Option.map_some, this, Int.toNat_of_nonneg h0]⟩
    · cases hb
  · cases hc

theorem lenA_sound {v : AV} {u : Value} {n : Int} (hv : VRel c v u) (hn : stepK.lenA v = some n) : ∃ base cap, u = .slice base n.toNat cap ∧ 0 ≤ n := by
  unfold stepK.lenA at hn
  split at hn
  · injection hn with hn; subst hn
    obtain ⟨b, cap, rfl⟩ := hv.inv_sl.slice_len
    exact ⟨b, cap, by simp, by omega⟩
  · injection hn with hn; subst hn
    obtain ⟨b, rfl⟩ := hv.inv_nils
    exact ⟨b, 0, rfl, by omega⟩
  · injection hn with hn; subst hn
    obtain ⟨b, cap, rfl⟩ := hv.inv_ws.1.slice_len
    exact ⟨b, cap, by simp, by omega⟩
  · injection hn with hn; subst hn
    obtain ⟨b, cap, rfl, _⟩ := hv.inv_slr
    exact ⟨_, cap, by rw [Int.toNat_natCast], by omega⟩
  · injection hn with hn; subst hn
    obtain ⟨b, cap, rfl, _⟩ := hv.inv_emp
    exact ⟨b, cap, rfl, by omega⟩
  · cases hn

theorem arr2 {α : Type} {xs : Array α} {a b : α} (h : xs.toList = [a, b]) : xs = #[a, b] := by
  apply Array.ext'; simpa using h
theorem arr1 {α : Type} {xs : Array α} {a : α} (h : xs.toList = [a]) : xs = #[a] := by
  apply Array.ext'; simpa using h

theorem stepK_sound {k : K} (hk : chkK P o k = true) (hr : HRel c h) (hl : h.length ≤ c.N) (he : EnvRel c env a.tmps) {hh : Heap} (hsub : ∀ l cs, getO hh l = some (.cells cs) → getO h l = some (.cells cs))
    {id : Nat} (hwp : wp ≤ id) (hid : getO h id = none) (hN : id < c.N → c.ρ id = .no) {x : AV} {h' : Heap} (hs : stepK env hh h id wp k = some (x, h')) : OpRes P o a c h h' wp x := by
  unfold chkK at hk
  split at hk
  · -- slices written in place
    rename_i q
    exact stepN_sound hk hr hl he hsub hwp hid hN hs
  · -- move
    rename_i y z ho
    obtain ⟨v, hv, e⟩ := map_some_inv hs; cases e
    exact ok_mv hr hl (.inl ho) (chkX_sound hk he hv)
  · rename_i y z ho
    obtain ⟨v, hv, e⟩ := map_some_inv hs; cases e
    exact ok_mv hr hl (.inr ho) (chkX_sound hk he hv)
  · -- pick
    rename_i q y z q' y' z' ho
    simp only [Bool.and_eq_true] at hk
    simp only [stepK] at hs
    split at hs
    · rename_i t ht
      obtain ⟨v, hv, e⟩ := map_some_inv hs; cases e
      refine ok_pick hr hl ho (chkX_sound hk.1.1 he ht) ?_
      cases t
      · exact chkX_sound hk.2 he hv
      · exact chkX_sound hk.1.2 he hv
    · cases hs
  · -- alloc
    rename_i t zero ho
    simp only [stepK, Option.some.injEq, Prod.mk.injEq] at hs
    obtain ⟨rfl, rfl⟩ := hs
    split at hk
    · rename_i i hi
      split at hk
      · rename_i z hz
        exact ok_new hr hl ho hi hz hk hwp hid hN
      · cases hk
    · cases hk
  · -- box
    rename_i t y z ho
    obtain ⟨v, hv, e⟩ := map_some_inv hs; cases e
    exact ok_box hr hl ho (chkX_sound hk he hv) hwp hid hN
  · -- load
    rename_i t y z ho
    simp only [Bool.and_eq_true] at hk
    simp only [stepK] at hs
    split at hs
    · rename_i l off hv
      split at hs
      · rename_i cs hg
        obtain ⟨v, hv', e⟩ := map_some_inv hs; cases e
        exact ok_ld_ptr hr hl ho hk.1 (chkX_sound hk.2 he hv) (hsub _ _ hg) hv'
      · cases hs
    · rename_i cells hv
      obtain ⟨v, hv', e⟩ := map_some_inv hs; cases e
      exact ok_ld_iptr hr hl ho hk.1 (chkX_sound hk.2 he hv) hv'
    · cases hs
  · -- load of an aggregate
    rename_i t y n z ho
    simp only [Bool.and_eq_true, beq_iff_eq] at hk
    simp only [stepK] at hs
    split at hs
    · rename_i l off hv
      split at hs
      · rename_i cs hg
        split at hs
        · rename_i hle
          simp only [Option.some.injEq, Prod.mk.injEq] at hs
          obtain ⟨rfl, rfl⟩ := hs
          exact ok_ldn_ptr hr hl ho hk.1.1 hk.1.2 (chkX_sound hk.2 he hv) (hsub _ _ hg) hle
        · cases hs
      · cases hs
    · rename_i cells hv
      split at hs
      · rename_i hle
        simp only [Option.some.injEq, Prod.mk.injEq] at hs
        obtain ⟨rfl, rfl⟩ := hs
        exact ok_ldn_iptr hr hl ho hk.1.1 hk.1.2 (chkX_sound hk.2 he hv) hle
      · cases hs
    · cases hs
  · -- store
    rename_i t y u n z w ho
    simp only [Bool.and_eq_true, beq_iff_eq] at hk
    simp only [stepK] at hs
    split at hs
    · rename_i l off v hv hw
      split at hs
      · rename_i cs hg
        split at hs
        · rename_i hcond
          simp only [Option.some.injEq, Prod.mk.injEq] at hs
          obtain ⟨rfl, rfl⟩ := hs
          obtain ⟨q1, q2, q3, q4⟩ := hcond
          exact ok_st hr hl ho hk.1.1 (chkX_sound hk.1.2 he hv) (chkX_sound hk.2 he hw) hg q1 q2 q3 q4
        · cases hs
      · cases hs
    · cases hs
  · -- the address of a field
    rename_i t y f off z ho
    simp only [Bool.and_eq_true] at hk
    obtain ⟨hk1, hk2⟩ := hk
    split at hk1
    · rename_i fd hf
      simp only [Bool.and_eq_true, beq_iff_eq] at hk1
      obtain ⟨rfl, hk3⟩ := hk1
      split at hk3
      · rename_i s hs'
        simp only [decide_eq_true_eq] at hk3
        unfold structField at hf
        split at hf
        · rename_i fs hu
          simp only [stepK] at hs
          split at hs
          · rename_i l p hv
            simp only [Option.some.injEq, Prod.mk.injEq] at hs
            obtain ⟨rfl, rfl⟩ := hs
            exact ok_off_ptr hr hl ho hu hf hs' hk3 (chkX_sound hk2 he hv)
          · rename_i cells hv
            simp only [Option.some.injEq, Prod.mk.injEq] at hs
            obtain ⟨rfl, rfl⟩ := hs
            exact ok_off_iptr hr hl ho hu hf hs' hk3 (chkX_sound hk2 he hv)
          · cases hs
        · cases hf
      · cases hk3
    · cases hk1
  · -- the address of an element of an array
    rename_i t y i n e z j ho
    simp only [Bool.and_eq_true] at hk
    obtain ⟨⟨hk1, hk2⟩, hk3⟩ := hk
    split at hk1
    · rename_i n' el hu
      simp only [Bool.and_eq_true, beq_iff_eq] at hk1
      obtain ⟨rfl, hsz⟩ := hk1
      simp only [stepK] at hs
      split at hs
      · rename_i l p k i' hv hw
        split at hs
        · rename_i hb
          simp only [Option.some.injEq, Prod.mk.injEq] at hs
          obtain ⟨rfl, rfl⟩ := hs
          exact ok_ixa_ptr hr hl ho hu hsz (chkX_sound hk2 he hv) (chkX_sound hk3 he hw) hb.1 hb.2
        · cases hs
      · rename_i cells k i' hv hw
        split at hs
        · rename_i hb
          simp only [Option.some.injEq, Prod.mk.injEq] at hs
          obtain ⟨rfl, rfl⟩ := hs
          exact ok_ixa_iptr hr hl ho hu hsz (chkX_sound hk2 he hv) (chkX_sound hk3 he hw) hb.1 hb.2
        · cases hs
      · cases hs
    · cases hk1
  · -- of a slice
    rename_i t y i e z j ho
    simp only [Bool.and_eq_true] at hk
    obtain ⟨⟨hk1, hk2⟩, hk3⟩ := hk
    split at hk1
    · rename_i el hu
      simp only [beq_iff_eq] at hk1
      simp only [stepK] at hs
      split at hs
      · rename_i rows k i' hv hw
        split at hs
        · rename_i h0
          split at hs
          · rename_i row hrow
            split at hs
            · rename_i hre
              simp only [Option.some.injEq, Prod.mk.injEq] at hs
              obtain ⟨rfl, rfl⟩ := hs
              exact ok_ixs_sl hr hl ho hu hk1 (chkX_sound hk2 he hv).inv_sl (chkX_sound hk3 he hw) h0 hrow hre
            · cases hs
          · cases hs
        · cases hs
      · rename_i rows t' k i' hv hw
        split at hs
        · rename_i h0
          split at hs
          · rename_i row hrow
            split at hs
            · rename_i hre
              simp only [Option.some.injEq, Prod.mk.injEq] at hs
              obtain ⟨rfl, rfl⟩ := hs
              exact ok_ixs_sl hr hl ho hu hk1 (chkX_sound hk2 he hv).inv_ws.1 (chkX_sound hk3 he hw) h0 hrow hre
            · cases hs
          · cases hs
        · cases hs
      · rename_i l off n e' m' k i' hv hw
        split at hs
        · rename_i hb
          simp only [Option.some.injEq, Prod.mk.injEq] at hs
          obtain ⟨rfl, rfl⟩ := hs
          obtain ⟨rfl, h0, h1⟩ := hb
          exact ok_ixs_slr hr hl ho hu hk1 (chkX_sound hk2 he hv) (chkX_sound hk3 he hw) h0 h1
        · cases hs
      · cases hs
    · cases hk1
  · -- a field
    rename_i t y f off z ho
    simp only [Bool.and_eq_true] at hk
    obtain ⟨hk1, hk2⟩ := hk
    split at hk1
    · rename_i fd hf
      simp only [Bool.and_eq_true, beq_iff_eq] at hk1
      obtain ⟨rfl, hsc⟩ := hk1
      unfold structField at hf
      split at hf
      · rename_i fs hu
        simp only [stepK] at hs
        split at hs
        · rename_i cs hv
          obtain ⟨v, hv', e⟩ := map_some_inv hs; cases e
          exact ok_fld hr hl ho hu hf hsc (chkX_sound hk2 he hv) hv'
        · cases hs
      · cases hf
    · cases hk1
  · rename_i t y f off n z ho
    simp only [Bool.and_eq_true] at hk
    obtain ⟨hk1, hk2⟩ := hk
    split at hk1
    · rename_i fd hf
      simp only [Bool.and_eq_true, beq_iff_eq] at hk1
      obtain ⟨⟨rfl, hag⟩, hn⟩ := hk1
      unfold structField at hf
      split at hf
      · rename_i fs hu
        simp only [stepK] at hs
        split at hs
        · rename_i cs hv
          split at hs
          · rename_i hle
            simp only [Option.some.injEq, Prod.mk.injEq] at hs
            obtain ⟨rfl, rfl⟩ := hs
            exact ok_fldn hr hl ho hu hf hag hn (chkX_sound hk2 he hv) hle
          · cases hs
        · cases hs
      · cases hf
    · cases hk1
  · -- an element of an array
    rename_i t y i n z j ho
    simp only [Bool.and_eq_true] at hk
    obtain ⟨⟨hk1, hk2⟩, hk3⟩ := hk
    split at hk1
    · rename_i n' el hu
      simp only [Bool.and_eq_true, beq_iff_eq] at hk1
      obtain ⟨⟨rfl, hsc⟩, hsz⟩ := hk1
      simp only [stepK] at hs
      split at hs
      · rename_i cs k i' hv hw
        split at hs
        · rename_i hb
          obtain ⟨v, hv', e⟩ := map_some_inv hs; cases e
          exact ok_ixv hr hl ho hu hsc hsz (chkX_sound hk2 he hv) (chkX_sound hk3 he hw) hb.1 hb.2 hv'
        · cases hs
      · cases hs
    · cases hk1
  · rename_i t y i n e z j ho
    simp only [Bool.and_eq_true] at hk
    obtain ⟨⟨hk1, hk2⟩, hk3⟩ := hk
    split at hk1
    · rename_i n' el hu
      simp only [Bool.and_eq_true, beq_iff_eq] at hk1
      obtain ⟨⟨rfl, hag⟩, hsz⟩ := hk1
      simp only [stepK] at hs
      split at hs
      · rename_i cs k i' hv hw
        split at hs
        · rename_i hb
          simp only [Option.some.injEq, Prod.mk.injEq] at hs
          obtain ⟨rfl, rfl⟩ := hs
          exact ok_ixvn hr hl ho hu hag hsz (chkX_sound hk2 he hv) (chkX_sound hk3 he hw) hb.1 hb.2.1 hb.2.2
        · cases hs
      · cases hs
    · cases hk1
  · -- a byte of a text
    rename_i t y i z j ho
    simp only [Bool.and_eq_true] at hk
    obtain ⟨⟨hk1, hk2⟩, hk3⟩ := hk
    split at hk1
    · rename_i hu
      simp only [stepK] at hs
      split at hs
      · rename_i s k i' hv hw
        split at hs
        · rename_i h0
          obtain ⟨b, hb, e⟩ := map_some_inv hs; cases e
          exact ok_ixb hr hl ho hu (chkX_sound hk2 he hv) (chkX_sound hk3 he hw) h0 hb
        · cases hs
      · cases hs
    · cases hk1
  · -- arithmetic
    rename_i op t y z u op' y' z' ho
    simp only [Bool.and_eq_true, decide_eq_true_eq] at hk
    obtain ⟨⟨rfl, hk2⟩, hk3⟩ := hk
    simp only [stepK] at hs
    split at hs
    · rename_i p q hv hw
      obtain ⟨v, hv', e⟩ := map_some_inv hs; cases e
      exact ok_bin hr hl ho (chkX_sound hk2 he hv) (chkX_sound hk3 he hw) hv'
    · cases hs
  · rename_i op t y z u neg y' z' ho
    simp only [Bool.and_eq_true, decide_eq_true_eq] at hk
    obtain ⟨⟨⟨rfl, hk1⟩, hk2⟩, hk3⟩ := hk
    split at hk1
    · rename_i hu
      simp only [stepK] at hs
      split at hs
      · rename_i p q hv hw
        simp only [Option.some.injEq, Prod.mk.injEq] at hs
        obtain ⟨rfl, rfl⟩ := hs
        exact ok_eqb hr hl ho hu (chkX_sound hk2 he hv) (chkX_sound hk3 he hw)
      · cases hs
    · cases hk1
  · rename_i op t y z u neg isF y' ho
    simp only [Bool.and_eq_true, decide_eq_true_eq] at hk
    obtain ⟨⟨rfl, hk1⟩, hk2⟩ := hk
    simp only [stepK] at hs
    split at hs
    · rename_i v hv
      obtain ⟨b, hb, e⟩ := map_some_inv hs; cases e
      exact ok_isn hr hl ho hk1 (chkX_sound hk2 he hv) hb
    · cases hs
  · -- aggregates
    rename_i op t y z u neg ks y' z' ho
    simp only [Bool.and_eq_true, decide_eq_true_eq] at hk
    obtain ⟨⟨⟨rfl, hk1⟩, hk2⟩, hk3⟩ := hk
    simp only [stepK] at hs
    split at hs
    · rename_i xs ys hv hw
      obtain ⟨b, hb, e⟩ := map_some_inv hs; cases e
      exact ok_eqs hr hl ho hk1 (chkX_sound hk2 he hv) (chkX_sound hk3 he hw) hb
    · cases hs
  · -- not
    rename_i op t y z ho
    simp only [Bool.and_eq_true] at hk
    obtain ⟨hk1, hk2⟩ := hk
    split at hk1
    · simp only [stepK] at hs
      split at hs
      · rename_i b hv
        simp only [Option.some.injEq, Prod.mk.injEq] at hs
        obtain ⟨rfl, rfl⟩ := hs
        exact ok_not hr hl ho (chkX_sound hk2 he hv)
      · cases hs
    · cases hk1
  · -- conversions
    rename_i s t y k z ho
    simp only [Bool.and_eq_true] at hk
    obtain ⟨hk1, hk2⟩ := hk
    split at hk1
    · rename_i k1 k2 hu1 hu2
      simp only [beq_iff_eq] at hk1; subst hk1
      simp only [stepK] at hs
      split at hs
      · rename_i q n hv
        simp only [Option.some.injEq, Prod.mk.injEq] at hs
        obtain ⟨rfl, rfl⟩ := hs
        exact ok_conv hr hl ho hu1 hu2 (chkX_sound hk2 he hv)
      · cases hs
    · cases hk1
  · -- closures
    rename_i f first caps g ys ho
    simp only [Bool.and_eq_true, beq_iff_eq] at hk
    obtain ⟨⟨hk1, rfl⟩, hk3⟩ := hk
    obtain ⟨vs, hv, e⟩ := map_some_inv hs; cases e
    obtain ⟨h1, h2⟩ := chkXs_sound hk3 he hv
    have hfirst : first = #[] := by simpa using hk1
    subst hfirst
    exact ok_mkf hr hl ho (by simpa using h1) (fun j x v hx hv' => h2 j x v hx (by simpa using hv'))
  · -- aggregates out of parts
    rename_i t ps zero qs ho
    obtain ⟨cs, hf, e⟩ := map_some_inv hs; cases e
    exact ok_bld hr hl ho hk he hf
  · -- slices out of parts
    rename_i t n ps zero n' e qs ho
    simp only [stepK] at hs
    split at hs
    · rename_i cs hf
      split at hs
      · rename_i ds hd
        split at hs
        · rename_i hn
          simp only [Option.some.injEq, Prod.mk.injEq] at hs
          obtain ⟨rfl, rfl⟩ := hs
          exact ok_bls hr hl ho hk he hf hd hn hwp hid hN
        · cases hs
      · cases hs
    · cases hs
  · -- a slice of an array
    rename_i t y lo hi n e z lo' hi' ho
    simp only [Bool.and_eq_true] at hk
    obtain ⟨⟨⟨hk1, hk2⟩, hk3⟩, hk4⟩ := hk
    split at hk1
    · rename_i n' el hu
      simp only [Bool.and_eq_true, beq_iff_eq] at hk1
      obtain ⟨rfl, hsz⟩ := hk1
      simp only [stepK] at hs
      split at hs
      · rename_i l0 off l r hv hlo hhi
        split at hs
        · rename_i hb
          obtain ⟨b1, b2, b3⟩ := hb
          have := ok_sla (wp := wp) hr hl ho hu hsz (chkX_sound hk2 he hv) (bound_lo hk3 he hlo b1) (bound_hi hk4 he hhi (by omega)) (by omega) (by omega)
          have e1 : (r - l).toNat = r.toNat - l.toNat := by omega
          split at hs
          · rename_i hlr
            simp only [Option.some.injEq, Prod.mk.injEq] at hs
            obtain ⟨rfl, rfl⟩ := hs
            rw [if_pos (by omega)] at this; exact this
          · rename_i hlr
            simp only [Option.some.injEq, Prod.mk.injEq] at hs
            obtain ⟨rfl, rfl⟩ := hs
            rw [if_neg (by omega)] at this; rw [e1]; exact this
        · cases hs
      · cases hs
    · cases hk1
  · -- a slice of a slice
    rename_i t y lo hi e z lo' hi' ho
    simp only [Bool.and_eq_true] at hk
    obtain ⟨⟨⟨hk1, hk2⟩, hk3⟩, hk4⟩ := hk
    split at hk1
    · rename_i el hu
      simp only [beq_iff_eq] at hk1
      simp only [stepK] at hs
      split at hs
      · rename_i v hv
        have hvr := chkX_sound hk2 he hv
        split at hs
        · rename_i l r hlo hhi
          split at hs
          · rename_i hb
            obtain ⟨b1, b2⟩ := hb
            obtain ⟨v', hv', e'⟩ := map_some_inv hs; cases e'
            have hlo' := bound_lo hk3 he hlo b1
            have hhi' : ∀ n : Nat, stepK.lenA v = some (n : Int) → (hi.map a.eval = none ∧ r.toNat = n) ∨ ∃ k, hi.map a.eval = some (.int k r.toNat) := by
              intro n hn
              cases hi' with
              | none => simp only [hn, Option.some.injEq] at hhi; exact bound_hi (hi' := none) hk4 he (n := n) (l := r) (by simp only [bound?, hhi]) (by omega)
              | some q => exact bound_hi (hi' := some q) hk4 he (n := n) (l := r) (by simpa [bound?] using hhi) (by omega)
            unfold sliceA at hv'
            split at hv'
            · rename_i rows
              split at hv'
              · rename_i hc
                injection hv' with hv'; subst hv'
                exact ok_sls_rows hr hl ho hu hk1 hvr.inv_sl hc.1 hlo' (hhi' _ rfl) (by omega) hc.2
              · cases hv'
            · split at hv'
              · rename_i hc
                injection hv' with hv'; subst hv'
                have hl0 : l.toNat = 0 := by omega
                rw [hl0] at hlo'
                have := hhi' 0 rfl
                rw [hc] at this
                exact ok_sls_nils hr hl ho hu hk1 hvr (hlo'.imp (fun h => h.1) fun h => h) (this.imp (fun h => h.1) fun h => h)
              · cases hv'
            · rename_i rows tk
              split at hv'
              · rename_i hc
                injection hv' with hv'; subst hv'
                exact ok_sls_rows hr hl ho hu hk1 hvr.inv_ws.1 hc.1 hlo' (hhi' _ rfl) (by omega) hc.2
              · cases hv'
            · rename_i l0 off n e' m'
              split at hv'
              · rename_i hc
                obtain ⟨rfl, hc2⟩ := hc
                have := ok_sls_slr (wp := wp) hr hl ho hu hk1 hvr hlo' (hhi' _ rfl) (by omega) hc2
                split at hv'
                · rename_i hlr
                  injection hv' with hv'; subst hv'
                  rw [if_pos hlr] at this; exact this
                · rename_i hlr
                  injection hv' with hv'; subst hv'
                  rw [if_neg hlr] at this; exact this
              · cases hv'
            · cases hv'
          · cases hs
        · cases hs
      · cases hs
    · cases hk1
  · -- an empty slice
    rename_i t y lo z ho
    simp only [Bool.and_eq_true] at hk
    obtain ⟨⟨hk1, hk2⟩, hk3⟩ := hk
    split at hk1
    · rename_i el hu
      obtain ⟨e, hsz⟩ := Option.isSome_iff_exists.1 hk1
      simp only [stepK] at hs
      split at hs
      · rename_i v hv
        obtain ⟨n, hn, e'⟩ := map_some_inv hs; cases e'
        obtain ⟨base, cap, hve, _⟩ := lenA_sound (chkX_sound hk2 he hv) hn
        refine ok_sl0 hr hl ho hu hsz hve ?_ rfl rfl
        split at hk3
        · exact .inl rfl
        · exact .inr rfl
        · cases hk3
      · cases hs
    · cases hk1
  · -- len
    rename_i args ts isS y ho
    split at hk
    · rename_i x t hx ht
      simp only [Bool.and_eq_true] at hk
      obtain ⟨hk1, hk2⟩ := hk
      rw [arr1 hx, arr1 ht] at ho
      simp only [stepK] at hs
      split at hs
      · rename_i v hv
        have hvr := chkX_sound hk2 he hv
        split at hk1
        · rename_i hu
          split at hs
          · simp only [Option.some.injEq, Prod.mk.injEq] at hs
            obtain ⟨rfl, rfl⟩ := hs
            exact ok_len_str hr hl ho hu hvr
          · rename_i hf; exact absurd hf (by simp)
          · cases hs
        · rename_i el hu
          obtain ⟨n, hn, e'⟩ := map_some_inv hs; cases e'
          obtain ⟨base, cap, hve, h0⟩ := lenA_sound hvr hn
          have hnn : (n.toNat : Int) = n := Int.toNat_of_nonneg h0
          have := ok_len_sl (wp := wp) hr hl ho hu hve
          rw [hnn] at this; exact this
        · cases hk1
      · cases hs
    · cases hk
  · -- append
    rename_i args ts e x' y' ho
    split at hk
    · rename_i x y t t' hx ht
      simp only [Bool.and_eq_true] at hk
      rw [arr2 hx, arr2 ht] at ho
      simp only [stepK] at hs
      split at hs
      · rename_i p q hv hw
        split at hs
        · rename_i r hrr
          obtain ⟨news, hnews⟩ := rows_sound hr hsub (chkX_sound hk.2 he hw) hrr
          split at hs
          · split at hs
            · rename_i hlim
              simp only [Option.some.injEq, Prod.mk.injEq] at hs
              obtain ⟨rfl, rfl⟩ := hs
              exact ok_app_nils (ty := 0) hr hl ho hk.1.1 (chkX_sound hk.1.2 he hv) hnews hlim hwp hid hN
            · cases hs
          · rename_i rows tk
            split at hs
            · rename_i hcond
              simp only [Option.some.injEq, Prod.mk.injEq] at hs
              obtain ⟨rfl, rfl⟩ := hs
              obtain ⟨q1, q2, q3, q4⟩ := hcond
              have hg : getO h tk = some (.tok e rows.length) := by
                unfold stepK.getTok at q3
                split at q3
                · rename_i e1 n1 hg
                  simp only [Option.some.injEq, Prod.mk.injEq] at q3
                  obtain ⟨rfl, rfl⟩ := q3; exact hg
                · cases q3
              exact ok_app_ws (ty := 0) hr hl ho hk.1.1 (chkX_sound hk.1.2 he hv) q2 hg hnews q4 q1
            · cases hs
          · cases hs
        · cases hs
      · cases hs
    · cases hk
  · -- min
    rename_i args ts x' y' ho
    split at hk
    · rename_i x y hx
      simp only [Bool.and_eq_true] at hk
      rw [arr2 hx] at ho
      simp only [stepK] at hs
      split at hs
      · rename_i k p k' q hv hw
        simp only [Option.some.injEq, Prod.mk.injEq] at hs
        obtain ⟨rfl, rfl⟩ := hs
        exact ok_mnx (mx := false) hr hl ho (chkX_sound hk.1 he hv) (chkX_sound hk.2 he hw)
      · cases hs
    · cases hk
  · rename_i args ts x' y' ho
    split at hk
    · rename_i x y hx
      simp only [Bool.and_eq_true] at hk
      rw [arr2 hx] at ho
      simp only [stepK] at hs
      split at hs
      · rename_i k p k' q hv hw
        simp only [Option.some.injEq, Prod.mk.injEq] at hs
        obtain ⟨rfl, rfl⟩ := hs
        exact ok_mnx (mx := true) hr hl ho (chkX_sound hk.1 he hv) (chkX_sound hk.2 he hw)
      · cases hs
    · cases hk
  · -- extract
    rename_i y i z j ho
    simp only [Bool.and_eq_true, beq_iff_eq] at hk
    obtain ⟨rfl, hk2⟩ := hk
    simp only [stepK] at hs
    split at hs
    · rename_i vs hv
      obtain ⟨v, hv', e⟩ := map_some_inv hs; cases e
      exact ok_ext hr hl ho (chkX_sound hk2 he hv) hv'
    · cases hs
  · -- nil checks
    rename_i y z ho
    simp only [stepK] at hs
    split at hs
    all_goals first
      | (rename_i hv
         simp only [Option.some.injEq, Prod.mk.injEq] at hs
         obtain ⟨rfl, rfl⟩ := hs
         exact ok_nilc hr hl ho (chkX_sound hk he hv) trivial)
      | cases hs
  · -- calls are met elsewhere
    simp only [stepK] at hs; cases hs
  · cases hk
end
end Go.Proofs.YtfifgiopdbdeoaaDoor.Lite
namespace Go.Proofs.YtfifgiopdbdeoaaDoor.Lite
open Go Go.RowKit

def chkG (ops : Array Oper) : Option (Nat × Bool) → Option (Nat × Bool) → Bool
  | none, none => true
  | some (j, b), some (t, b') => b == b' && ((ops[j]?).bind (·.dst)) == some t
  | _, _ => false

def chkOp (P : Program) (nt : Nat) (ops : Array Oper) (o : Oper) (co : COp) : Bool :=
  o.dst == co.dst && (match o.dst with | some d => decide (d < nt) | none => true) && chkG ops o.guard co.g && chkK P o co.k

def chkOps (P : Program) (nt : Nat) (ops : Array Oper) : List Oper → List COp → Bool
  | [], [] => true
  | o :: os, c :: cs => chkOp P nt ops o c && chkOps P nt ops os cs
  | _, _ => false

/-- the numbers of the operations that bind one -/
def deps (o : Oper) : List Nat := (o.after.toList.filter (Region.binds .any)).map (·.on)

def NK.temps : NK → List Nat
  | .appb _ x y | .apps _ x y | .slw _ x y => tX x ++ tX y
  | .mks _ _ x | .capn x | .clr _ _ x | .nlc _ x => tX x
  | .emp0 _ => []
  | .appz _ _ x y => tX x ++ tX y
where tX : X → List Nat
  | .t n => [n]
  | .c _ => []

def K.temps : K → List Nat
  | .nw k => k.temps
  | .mv x | .box x | .ld x | .ldn _ x | .off _ x | .fld _ x | .fldn _ _ x | .isn _ _ x | .not x | .conv _ x | .sl0 x | .len _ x | .ext x _ | .nilc x => tX x
  | .pick a b c => tX a ++ tX b ++ tX c
  | .new _ => []
  | .st _ x y | .ixa _ _ x y | .ixs _ x y | .ixv _ x y | .ixvn _ _ x y | .ixb x y | .bin _ x y | .eqb _ x y | .eqs _ _ x y | .app _ x y | .mnx _ x y => tX x ++ tX y
  | .mkf _ xs => xs.flatMap tX
  | .bld _ ps => ps.flatMap fun p => tX p.2.2
  | .bls _ _ _ ps => ps.flatMap fun p => tX p.2.2
  | .sla _ _ x lo hi | .sls _ x lo hi => tX x ++ (lo.toList.flatMap tX) ++ (hi.toList.flatMap tX)
  | .call f xs => tX f ++ xs.flatMap tX
where tX : X → List Nat
  | .t n => [n]
  | .c _ => []

def COp.temps (o : COp) : List Nat := o.k.temps ++ (match o.g with | some (t, _) => [t] | none => [])
def K.isNew : K → Bool
  | .new _ | .box _ => true
  | _ => false
def K.isTok : K → Bool
  | .bls _ _ _ _ | .app _ _ _ | .st _ _ _ => true
  | _ => false

/-- is p waited for by i, at once or through one between? -/
def waitsD (os : List Oper) : Nat → Nat → Nat → Bool
  | 0, _, _ => false
  | n + 1, i, p => match os[i]? with
    | some o => (deps o).contains p || (deps o).any fun q => waitsD os n q p
    | none => false
def waits (os : List Oper) (i p : Nat) : Bool := waitsD os 5 i p

/-- A region that draws its order: the part in any order, and the part behind it. -/
def chkPair (os : List Oper) (i p : Nat) (o : Oper) (co cp : COp) : Bool :=
  -- what is read of an earlier one is waited for; nothing is read of a later one; targets differ
  (match cp.dst with
   | some t => p == i || ((!co.temps.contains t || (p < i && (deps o).contains p)) && cp.dst != co.dst)
   | none => true) &&
  -- slices grow in the text's order
  (!(co.k.isTok && cp.k.isTok && decide (p < i)) || waits os i p)

def chkPre (os : List Oper) (pre : List COp) : Bool :=
  (List.range pre.length).all fun i =>
    match os[i]?, pre[i]? with
    | some o, some co =>
      (deps o).all (decide <| · < i) &&
      (List.range pre.length).all fun p =>
        match pre[p]? with
        | some cp => chkPair os i p o co cp
        | none => false
    | _, _ => false

def chkSuf (m : Nat) (os : List Oper) (n : Nat) : Bool :=
  (List.range n).all fun i => decide (i < m) || (match os[i]? with | some o => (List.range i).all (fun p => waits os i p) && (deps o).all (decide <| · < i) | none => false)

/-- what writes waits for the first one -/
def chkF (os : List Oper) (pre : List COp) : Bool :=
  (List.range pre.length).all fun p => match pre[p]? with | some cp => !cp.k.isTok || waits os p 0 | none => false

def chkCode (P : Program) (nt : Nat) : Code → CCode → Bool
  | .region _ _ _, .bad => true
  | .skip, .skip => true
  | .label l, .label l' => l == l'
  | .exit l, .exit l' => l == l'
  | .goto l, .goto l' => l == l'
  | .ret, .ret => true
  | .seq a b, .seq a' b' => chkCode P nt a a' && chkCode P nt b b'
  | .cond c a b, .cond x a' b' => chkX c x && chkCode P nt a a' && chkCode P nt b b'
  | .block id b, .block id' b' => id == id' && chkCode P nt b b'
  | .loop b, .loop _ b' => chkCode P nt b b'
  | .scope b, .scope _ b' => chkCode P nt b b'
  | .rangeFunc f ps asg b, .range x ps' asg' b' => chkX f x && ps.toList == ps' && ps'.all (decide <| · < nt) && chkCode P nt asg asg' && chkCode P nt b b'
  | .region _ ops false, .reg cops => chkOps P nt ops ops.toList cops
  | .region _ ops true, .dreg pre suf => P.follows .mixedOrders && chkOps P nt ops ops.toList (pre ++ suf) && chkPre ops.toList pre && chkSuf pre.length ops.toList ops.size
  | .region _ ops true, .sreg _ f pre suf => P.follows .mixedOrders && chkOps P nt ops ops.toList (pre ++ suf) && chkPre ops.toList pre && chkSuf pre.length ops.toList ops.size && (!f || chkF ops.toList pre)
  | _, _ => false

def exCode : Ex → Code
  | .nm => .skip
  | .ex id => .exit id
  | .gt l => .goto l
  | .rt => .ret

structure LoopIs (P : Program) (c : Cx) (r : LRec) (L : Loop) : Prop where
  ps : L.params.toList = r.ps
  psb : ∀ t ∈ r.ps, t < L.tmps.size
  asg : chkCode P L.tmps.size L.assign r.asg = true
  body : chkCode P L.tmps.size L.body r.body = true
  env : EnvRel c r.env L.tmps

def loopAt (L : Loop) (p : Option Ex) : Loop := { L with state := if p.isNone then .ready else .done, pending := p.map exCode }

structure StRel (P : Program) (c : Cx) (st : St) (lp : List (Option LRec)) : Prop where
  h : HRel c st.h
  m : lp.length = c.M
  pd : st.pd.length = c.M
  rcd : ∀ i r, lp[i]? = some (some r) → ∃ p, st.pd[i]? = some p ∧ c.w.heap[c.lm i]? = some (.loop (loopAt (c.lc i) p)) ∧ LoopIs P c r (c.lc i)
  all : ∀ i, i < c.M → ∃ L, c.w.heap[c.lm i]? = some (.loop L)
  inj : ∀ i j, i < c.M → j < c.M → c.lm i = c.lm j → i = j

def Own (c : Cx) (h : Heap) (lp : List (Option LRec)) (b : Nat) : Prop := OwnH c h b ∨ ∃ i r, lp[i]? = some (some r) ∧ c.lm i = b

structure Ext (c c' : Cx) (st st' : St) (lp : List (Option LRec)) (wp : Nat) : Prop where
  keeps : Keeps c.S c'.S c.w c'.w
  gh : ∀ l, l < c.N → (c.ρ l).le (c'.ρ l)
  n : c.N ≤ c'.N
  m : c'.M = c.M
  lm : ∀ i, i < c.M → c'.lm i = c.lm i
  lc : ∀ i, i < c.M → c'.lc i = c.lc i
  blk : ∀ b, b < c.w.heap.size → ¬ Own c st.h lp b → c'.w.heap[b]? = c.w.heap[b]?
  size : c.w.heap.size ≤ c'.w.heap.size
  own : ∀ b, Own c' st'.h lp b → Own c st.h lp b ∨ c.w.heap.size ≤ b
  os : c'.w.os = c.w.os
  tape : c'.w.tape = c.w.tape
  output : c'.w.output = c.w.output
  pre : ∀ l, l < wp → l < st.h.length → getO st'.h l = getO st.h l
  len : st.h.length ≤ st'.h.length
  dead : ∀ l, l < c.N → getO st.h l = none → c.ρ l ≠ .no → c'.ρ l = c.ρ l ∧ getO st'.h l = none
  sx : ∀ b x, c'.S b x → c.S b x ∨ Own c st.h lp b ∨ c.w.heap.size ≤ b
  pdx : ∀ i : Nat, lp[i]? = some none → st'.pd[i]? = st.pd[i]?

theorem Ext.refl (c : Cx) (st : St) (lp : List (Option LRec)) (wp : Nat) : Ext c c st st lp wp :=
  ⟨.refl _ _, fun _ _ => Gh.le_refl _, Nat.le_refl _, rfl, fun _ _ => rfl, fun _ _ => rfl, fun _ _ _ => rfl, Nat.le_refl _, fun _ h => .inl h, rfl, rfl, rfl, fun _ _ _ => rfl, Nat.le_refl _, fun _ _ h _ => ⟨rfl, h⟩, fun _ _ h => .inl h, fun _ _ => rfl⟩

theorem Ext.cx {c c' : Cx} {st st' : St} {lp : List (Option LRec)} {wp : Nat} (x : Ext c c' st st' lp wp) : c.le c' :=
  ⟨x.n, by rw [x.m]; exact Nat.le_refl _, x.keeps, x.gh, x.lm, x.lc⟩

theorem Ext.trans {a b c : Cx} {s1 s2 s3 : St} {lp : List (Option LRec)} {wp : Nat} (x : Ext a b s1 s2 lp wp) (y : Ext b c s2 s3 lp wp) : Ext a c s1 s3 lp wp where
  keeps := x.keeps.trans y.keeps
  gh := fun l hl => Gh.le_trans (x.gh l hl) (y.gh l (Nat.lt_of_lt_of_le hl x.n))
  n := Nat.le_trans x.n y.n
  m := y.m.trans x.m
  lm := fun i hi => (y.lm i (by rw [x.m]; exact hi)).trans (x.lm i hi)
  lc := fun i hi => (y.lc i (by rw [x.m]; exact hi)).trans (x.lc i hi)
  blk := fun k hk ho => (y.blk k (Nat.lt_of_lt_of_le hk x.size) (fun h' => by rcases x.own k h' with h1 | h1; exact ho h1; omega)).trans (x.blk k hk ho)
  size := Nat.le_trans x.size y.size
  own := fun k hk => by
    rcases y.own k hk with h1 | h1
    · exact x.own k h1
    · exact .inr (Nat.le_trans x.size h1)
  os := y.os.trans x.os
  tape := y.tape.trans x.tape
  output := y.output.trans x.output
  pre := fun l hl hh => (y.pre l hl (Nat.lt_of_lt_of_le hh x.len)).trans (x.pre l hl hh)
  len := Nat.le_trans x.len y.len
  dead := fun l hl h0 hn => by
    obtain ⟨e1, e2⟩ := x.dead l hl h0 hn
    obtain ⟨e3, e4⟩ := y.dead l (Nat.lt_of_lt_of_le hl x.n) e2 (by rw [e1]; exact hn)
    exact ⟨e3.trans e1, e4⟩
  sx := fun k z hs => by
    rcases y.sx k z hs with h1 | h1 | h1
    · exact x.sx k z h1
    · rcases x.own k h1 with h2 | h2
      · exact .inr (.inl h2)
      · exact .inr (.inr h2)
    · exact .inr (.inr (Nat.le_trans x.size h1))
  pdx := fun i hi => (y.pdx i hi).trans (x.pdx i hi)

theorem ownH_cells {c : Cx} {h : Heap} (hr : HRel c h) {b : Nat} (ho : OwnH c h b) : ∃ arr T fr, c.w.heap[b]? = some (.cells arr T fr) := by
  obtain ⟨l, o, h1, h2⟩ := ho
  cases o with
  | cells cs =>
    obtain ⟨_, b', arr, T, g1, g2, _⟩ := hr.box l cs h1
    rw [g1] at h2; simp [Gh.own] at h2; subst h2
    exact ⟨arr, T, _, g2⟩
  | tok e n =>
    obtain ⟨_, base, cap, g1, g2, g3⟩ := hr.tok l e n h1
    rw [g1] at h2
    simp only [Gh.own] at h2
    split at h2
    · rename_i hlt
      obtain ⟨b', o', arr, T, g4, g5, _⟩ := g3 hlt
      rw [g4] at h2; simp at h2; subst h2
      exact ⟨arr, T, _, g5⟩
    · simp at h2
  | map es => exact absurd h1 (hr.nomap l es)

theorem loop_notOwn {c : Cx} {h : Heap} (hr : HRel c h) {b : Nat} {L : Loop} (hb : c.w.heap[b]? = some (.loop L)) : ¬ OwnH c h b := fun ho => by
  obtain ⟨arr, T, fr, h1⟩ := ownH_cells hr ho
  rw [hb] at h1; cases h1

theorem HExt.loop {c c' : Cx} {h h' : Heap} {wp : Nat} (x : HExt c c' h h' wp) (hr : HRel c h) {b : Nat} {L : Loop} (hb : c.w.heap[b]? = some (.loop L)) : c'.w.heap[b]? = some (.loop L) :=
  (x.blk b (Array.getElem?_eq_some_iff.1 hb).1 (loop_notOwn hr hb)).trans hb

theorem LoopIs.mono {P : Program} {c c' : Cx} (hc : c.le c') {r : LRec} {L : Loop} (h : LoopIs P c r L) : LoopIs P c' r L := { h with env := h.env.mono hc }

theorem StRel.of_h {P : Program} {c c' : Cx} {st : St} {lp : List (Option LRec)} {h' : Heap} {wp : Nat} (s : StRel P c st lp) (x : HExt c c' st.h h' wp) (hr : HRel c' h') : StRel P c' { st with h := h' } lp where
  h := hr
  m := by rw [x.m]; exact s.m
  pd := by rw [x.m]; exact s.pd
  rcd := fun i r hi => by
    obtain ⟨p, h1, h2, h3⟩ := s.rcd i r hi
    refine ⟨p, h1, ?_, ?_⟩
    · rw [x.lm, x.lc]; exact x.loop s.h h2
    · rw [x.lc]; exact h3.mono x.cx
  all := fun i hi => by
    rw [x.m] at hi
    obtain ⟨L, h1⟩ := s.all i hi
    exact ⟨L, by rw [x.lm]; exact x.loop s.h h1⟩
  inj := fun i j hi hj => by rw [x.m] at hi hj; rw [x.lm]; exact s.inj i j hi hj

theorem Ext.of_h {c c' : Cx} {st : St} {lp : List (Option LRec)} {h' : Heap} {wp : Nat} (x : HExt c c' st.h h' wp) : Ext c c' st { st with h := h' } lp wp where
  keeps := x.keeps
  gh := x.gh
  n := x.n
  m := x.m
  lm := fun i _ => by rw [x.lm]
  lc := fun i _ => by rw [x.lc]
  blk := fun b hb ho => x.blk b hb fun h => ho (.inl h)
  size := x.size
  own := fun b hb => by
    rcases hb with h1 | ⟨i, r, h1, h2⟩
    · exact (x.own b h1).imp .inl id
    · exact .inl (.inr ⟨i, r, h1, by rw [← h2, x.lm]⟩)
  os := x.os
  tape := x.tape
  output := x.output
  pre := x.pre
  len := x.len
  dead := x.dead
  sx := fun b z hs => by
    rcases x.sx b z hs with h1 | h1 | h1
    · exact .inl h1
    · exact .inr (.inl (.inl h1))
    · exact .inr (.inr h1)
  pdx := fun _ _ => rfl

/-! ### Letting go -/
theorem getO_take {h : Heap} {N l : Nat} {o : AObj} (hg : getO (h.take N) l = some o) : l < N ∧ getO h l = some o := by
  unfold getO at *
  rw [List.getElem?_take] at hg
  split at hg
  · rename_i hl; exact ⟨hl, hg⟩
  · simp at hg

theorem getO_take_lt {h : Heap} {N l : Nat} (hl : l < N) : getO (h.take N) l = getO h l := by
  unfold getO; rw [List.getElem?_take, if_pos hl]

theorem lows_cells {N M : Nat} {h : Heap} (hl : (h.take N).all (lowObj N M) = true) {l : Nat} {cs : List AV} (hg : getO (h.take N) l = some (.cells cs)) : ∀ x ∈ cs, x.lows N M = true := by
  unfold getO at hg
  cases hx : (h.take N)[l]? with
  | none => rw [hx] at hg; simp at hg
  | some o =>
    rw [hx] at hg; simp at hg; subst hg
    rw [List.all_eq_true] at hl
    have := hl _ (List.mem_of_getElem? hx)
    simp only [lowObj, AObj.lows, List.all_eq_true] at this
    exact this

theorem HRel.shrink {c : Cx} {h : Heap} {N M : Nat} (hr : HRel c h) (hN : N ≤ c.N) (hl : (h.take N).all (lowObj N M) = true) : HRel { c with N := N, M := M } (h.take N) where
  box := fun l cs hg => by
    obtain ⟨h1, h2⟩ := getO_take hg
    obtain ⟨_, b, arr, T, g1, g2, g3, g4, g5⟩ := hr.box l cs h2
    exact ⟨h1, b, arr, T, g1, g2, g3, fun j x v hx hv => (g4 j x v hx hv).shrink (lows_cells hl hg x (List.mem_of_getElem? hx)), g5⟩
  tok := fun t e n hg => by
    obtain ⟨h1, h2⟩ := getO_take hg
    obtain ⟨_, g⟩ := hr.tok t e n h2
    exact ⟨h1, g⟩
  nomap := fun l es hg => hr.nomap l es (getO_take hg).2
  sep := fun l l' o o' b h1 h2 => hr.sep l l' o o' b (getO_take h1).2 (getO_take h2).2
  stb := hr.stb
  gi := hr.gi

/-- Behind a step: what was made since is let go. -/
theorem gc_sound {P : Program} {c c1 : Cx} {st st1 : St} {lp : List (Option LRec)} {wp : Nat} (s0 : StRel P c st lp) (hN : c.N = st.h.length) (x : Ext c c1 st st1 lp wp) (s1 : StRel P c1 st1 lp) (hN1 : c1.N = st1.h.length) (vs : List AV) :
    ∃ c2, c2.w = c1.w ∧ c2.N = (gc st.h.length lp.length vs st1.h).length ∧ StRel P c2 { st1 with h := gc st.h.length lp.length vs st1.h } lp ∧ Ext c c2 st { st1 with h := gc st.h.length lp.length vs st1.h } lp wp ∧
      (∀ v ∈ vs, ∀ u, VRel c1 v u → VRel c2 v u) := by
  unfold gc
  split
  · rename_i hc
    simp only [Bool.and_eq_true, List.all_eq_true] at hc
    obtain ⟨h1, h2⟩ := hc
    have hm : lp.length = c1.M := s1.m
    have hlen : (st1.h.take st.h.length).length = st.h.length := by simp; have := x.len; omega
    have hr := s1.h.shrink (N := st.h.length) (M := lp.length) (by rw [hN1]; exact x.len) (by rw [List.all_eq_true]; exact h2)
    have hcle : c.le { c1 with N := st.h.length, M := lp.length } := ⟨by show c.N ≤ st.h.length; omega, by show c.M ≤ lp.length; rw [s0.m]; exact Nat.le_refl _, x.keeps, x.gh, x.lm, x.lc⟩
    refine ⟨{ c1 with N := st.h.length, M := lp.length }, rfl, hlen.symm, ?_, ?_, fun v hv u hu => hu.shrink (h1 v hv)⟩
    · refine ⟨hr, rfl, by show st1.pd.length = lp.length; rw [hm]; exact s1.pd, fun i r hi => ?_, fun i hi => s1.all i (by rw [← hm]; exact hi), fun i j hi hj => s1.inj i j (by rw [← hm]; exact hi) (by rw [← hm]; exact hj)⟩
      obtain ⟨p, g1, g2, g3⟩ := s1.rcd i r hi
      obtain ⟨_, _, _, g4⟩ := s0.rcd i r hi
      have hi' : i < c.M := by rw [← s0.m]; exact (List.getElem?_eq_some_iff.1 hi).1
      refine ⟨p, g1, g2, ?_⟩
      show LoopIs P _ r (c1.lc i)
      rw [x.lc i hi']; exact g4.mono hcle
    · refine ⟨x.keeps, x.gh, by show c.N ≤ st.h.length; omega, by show lp.length = c.M; exact s0.m, x.lm, x.lc, x.blk, x.size, fun b hb => ?_, x.os, x.tape, x.output, fun l hl hh => ?_, by rw [hlen]; exact Nat.le_refl _, fun l hl h0 hn => ?_, x.sx, x.pdx⟩
      · rcases hb with ⟨l, o, g1, g2⟩ | g1
        · exact x.own b (.inl ⟨l, o, (getO_take g1).2, g2⟩)
        · exact x.own b (.inr g1)
      · show getO (st1.h.take st.h.length) l = _
        rw [getO_take_lt hh]; exact x.pre l hl hh
      · obtain ⟨g1, g2⟩ := x.dead l hl h0 hn
        refine ⟨g1, ?_⟩
        show getO (st1.h.take st.h.length) l = none
        rw [getO_take_lt (by omega)]; exact g2
  · exact ⟨c1, rfl, hN1, s1, x, fun v _ u hu => hu⟩
end Go.Proofs.YtfifgiopdbdeoaaDoor.Lite
namespace Go.Proofs.YtfifgiopdbdeoaaDoor.Lite
open Go Go.RowKit

def FW (ro : Option Nat) : Fence := { Fence.wide with round := ro }
theorem FW_fn (ro : Option Nat) (f : FuncId) : (FW ro).fn f := trivial
theorem FW_depth (ro : Option Nat) : (FW ro).depth.isSome = true → 1 ≤ 0 := fun h => by cases h

def Goes (P : Program) (w : World) (fv : Value) (vs : Array Value) (R : Value → World → Prop) : Prop :=
  (∃ (f : Nat) (arr : Array Value), fv = .func (.func f) #[] arr ∧ (∀ args w, (callFunc f args).run P w = .ok (.enter f args) w) ∧
    CallsIn Fence.wide 0 P f (vs ++ arr) w (fun e w' => ∃ v, e = .returned v ∧ R v w')) ∨
  (∃ (l fn : Nat) (tmps : Array Value) (asg body : Code), fv = .func (.yield l) #[] #[] ∧ (Instr.yield l vs).run P w = .ok (.round l fn tmps asg body) w ∧
    RoundIn Fence.wide 0 P l fn tmps asg body w (fun e w' => ∃ v, e = .returned v ∧ R v w'))

def Res (P : Program) (c : Cx) (st st' : St) (lp : List (Option LRec)) (wp : Nat) (x : AV) (v : Value) (w' : World) : Prop :=
  ∃ c', c'.w = w' ∧ c'.N = st'.h.length ∧ StRel P c' st' lp ∧ Ext c c' st st' lp wp ∧ VRel c' x v

def CallOK (P : Program) (T : Tbl) (n : Nat) : Prop := ∀ (rd : Rd) (fv : AV) (args : List AV) (st : St) (x : AV) (st' : St), evCall T n rd fv args st = some (x, st') →
  ∀ (c : Cx) (fvv : Value) (vs : Array Value), StRel P c st rd.lp → c.N = st.h.length → rd.wp ≤ st.h.length → VRel c fv fvv → vs.size = args.length →
    (∀ (j : Nat) y v, args[j]? = some y → vs[j]? = some v → VRel c y v) → Goes P c.w fvv vs (fun v w' => Res P c st st' rd.lp rd.wp x v w')

section
variable {P : Program} {T : Tbl} {n : Nat}

theorem chkK_defer {o : Oper} {k : K} (hk : chkK P o k = true) : ∀ c, o.op ≠ .defer c := by
  intro c ho
  cases k with
  | nw q =>
    simp only [chkK] at hk
    unfold chkN at hk
    rw [ho] at hk
    cases q <;> simp at hk
  | _ =>
    unfold chkK at hk
    rw [ho] at hk
    simp at hk

theorem wants_sound {ops : Array Oper} {o : Oper} {g : Option (Nat × Bool)} (hg : chkG ops o.guard g = true) {c : Cx} {env : Env} {a : Act} (he : EnvRel c env a.tmps) {b : Bool} (hw : wants env g = some b) : Region.wanted o (yielded ops a.tmps) = b := by
  unfold chkG at hg
  split at hg
  · rename_i h1
    simp only [wants, Option.some.injEq] at hw; subst hw
    unfold Region.wanted; rw [h1]
  · rename_i j q t q' h1
    simp only [Bool.and_eq_true, beq_iff_eq] at hg
    obtain ⟨rfl, h2⟩ := hg
    simp only [wants] at hw
    unfold Region.wanted
    rw [h1]
    simp only
    have hy : ∀ v, a.tmps[t]? = some v → yielded ops a.tmps j = (match v with | .bool b => some b | _ => none) := by
      intro v hv
      unfold yielded
      rw [h2]
      simp only [Option.bind_some, hv]
      cases v <;> rfl
    have hget : ∀ x, look env t = some x → ∃ v, a.tmps[t]? = some v ∧ VRel c x v := by
      intro x hx
      obtain ⟨h3, h4⟩ := he t x hx
      refine ⟨a.tmps[t], Array.getElem?_eq_getElem h3, ?_⟩
      simpa [Array.getD, h3] using h4
    split at hw
    · rename_i cb hl
      injection hw with hw; subst hw
      obtain ⟨v, h5, h6⟩ := hget _ hl
      rw [hy v h5, h6.inv_bool]
      simp
    · rename_i hl
      injection hw with hw; subst hw
      obtain ⟨v, h5, h6⟩ := hget _ hl
      obtain ⟨arr, h7, _⟩ := h6.inv_tup
      rw [hy v h5, h7]
      simp
    · cases hw
  · cases hg

theorem resolve_value (ρ : Operand → Value) (f : Operand) (args : Array Operand) (ts : Array TypeId) (ty : TypeId) {fn : Fn} {first cap : Array Value} (hf : ρ f = .func fn first cap) :
    resolve ρ { callee := .value f, args, argTypes := ts } ty = pure { target := .fn fn cap, args := first ++ args.map ρ } := by
  simp [resolve, hf, Deferred.ofValue]

/-- One operation of a region. -/
theorem op_sound (hcall : CallOK P T n) {nt : Nat} {ops : Array Oper} {o : Oper} {co : COp} (hk : chkOp P nt ops o co = true) {rd : Rd} {env env' : Env} {st st' : St}
    (hev : evOp (evCall T n rd) rd.wp co env st = some (env', st')) {c : Cx} {a : Act} (hs : StRel P c st rd.lp) (hN : c.N = st.h.length) (hwp : rd.wp ≤ st.h.length) (he : EnvRel c env a.tmps) (hz : a.tmps.size = nt)
    (ro : Option Nat) (next : Act → World → Prop) (Q : Exit → Act → World → Prop)
    (hnext : ∀ (c' : Cx) (v : Value), StRel P c' st' rd.lp → c'.N = st'.h.length → Ext c c' st st' rd.lp rd.wp → EnvRel c' env' (a.put o.dst v).tmps → next (a.put o.dst v) c'.w) :
    if Region.wanted o (yielded ops a.tmps) then o.wpIn (FW ro) 0 P a c.w next Q else (∀ f, o.about P c.w a.eval = some f → (FW ro).fn f) ∧ next (a.put o.dst undef) c.w := by
  unfold chkOp at hk
  simp only [Bool.and_eq_true, beq_iff_eq] at hk
  obtain ⟨⟨⟨hd, hdl⟩, hg⟩, hkk⟩ := hk
  have hdst : ∀ t, o.dst = some t → t < a.tmps.size := by
    intro t ht
    rw [ht] at hdl
    rw [hz]; simpa using hdl
  unfold evOp at hev
  split at hev
  · rename_i hw
    rw [if_pos (wants_sound hg he hw)]
    refine ⟨fun f _ => trivial, ?_⟩
    rw [Oper.semAt_eq _ _ _ (chkK_defer hkk)]
    split at hev
    · -- a call
      rename_i f args hco
      split at hev
      · rename_i fv vs hfv hvs
        split at hev
        · rename_i v st2 hc
          injection hev with hev; injection hev with e1 e2; subst e1; subst e2
          rw [hco] at hkk
          unfold chkK at hkk
          split at hkk <;> try (cases hkk; done)
          all_goals first | (rename_i hq; cases hq; done) | skip
          rename_i f0 args0 ts f' args' ho hke
          injection hke with q1 q2; subst q1; subst q2
          simp only [Bool.and_eq_true] at hkk
          have hfr := chkX_sound hkk.1 he hfv
          obtain ⟨hal, har⟩ := chkXs_sound hkk.2 he hvs
          have hgo := hcall rd fv vs st v st2 hc c (a.eval f0) (args0.map a.eval) hs hN hwp hfr (by simpa using hal) (fun j y u hy hu => har j y u hy (by simpa using hu))
          have fin : ∀ (u : Value) (w' : World), Res P c st st2 rd.lp rd.wp v u w' → next (a.put o.dst u) w' := by
            rintro u w' ⟨c', rfl, hN', hs', hx', hv'⟩
            refine hnext c' u hs' hN' hx' ?_
            rw [← hd]
            exact (he.mono hx'.cx).put hv' o.dst hdst
          rcases hgo with ⟨g, arr, h1, h2, h3⟩ | ⟨l, fn, tmps, asg, body, h1, h2, h3⟩
          · rw [exec_call ho, resolve_value _ _ _ _ _ h1]
            have e : (do let d ← (pure { target := .fn (.func g) arr, args := #[] ++ args0.map a.eval } : Sem Deferred); invoke d.target d.args : Sem Next).run P c.w = .ok (.enter g (args0.map a.eval ++ arr)) c.w := by
              simp only [Sem.run_bind, Sem.run_pure, Result.andThen_ok, invoke, Array.empty_append]
              exact h2 _ _
            rw [e, Oper.uponIn_enter]
            refine ⟨FW_depth ro, ?_⟩
            have h4 : CallsIn (FW ro) (0 - 1) P g (args0.map a.eval ++ arr) c.w (fun e w' => ∃ v', e = .returned v' ∧ Res P c st st2 rd.lp rd.wp v v' w') := h3
            refine h4.mono ?_
            rintro e' w' ⟨u, rfl, hu⟩
            exact fin u w' hu
          · rw [exec_call ho, resolve_value _ _ _ _ _ h1]
            have e : (do let d ← (pure { target := .fn (.yield l) #[], args := #[] ++ args0.map a.eval } : Sem Deferred); invoke d.target d.args : Sem Next).run P c.w = .ok (.round l fn tmps asg body) c.w := by
              simp only [Sem.run_bind, Sem.run_pure, Result.andThen_ok, invoke, Array.empty_append]
              exact h2
            rw [e, Oper.uponIn_round]
            refine ⟨FW_depth ro, ?_⟩
            have h4 : RoundIn (FW ro) (0 - 1) P l fn tmps asg body c.w (fun e w' => ∃ v', e = .returned v' ∧ Res P c st st2 rd.lp rd.wp v v' w') := h3
            refine h4.mono ?_
            rintro e' w' ⟨u, rfl, hu⟩
            exact fin u w' hu
        · cases hev
      · cases hev
    · -- all else
      split at hev
      · rename_i v h2 hst
        injection hev with hev; injection hev with e1 e2; subst e1; subst e2
        have hlen : ¬ st.h.length < c.N := by omega
        obtain ⟨nx, u, c', hrun, hnx, hvr, hhr, hhx, hN', _⟩ := stepK_sound (o := o) (a := a) (wp := rd.wp) hkk hs.h (by omega) he (hh := st.h) (fun _ _ h => h) hwp
          (by unfold getO; rw [List.getElem?_eq_none (Nat.le_refl _)]; rfl) (fun h => absurd h hlen) hst
        have hN2 : c'.N = h2.length := by rw [hN', hN]; have := hhx.len; omega
        have hfin := hnext c' u (hs.of_h hhx hhr) hN2 (.of_h hhx) (by rw [← hd]; exact (he.mono hhx.cx).put hvr o.dst hdst)
        rw [hrun]
        rcases hnx with rfl | ⟨rfl, rfl⟩
        · rw [Oper.uponIn_value]; exact hfin
        · rw [Oper.uponIn_skip]; exact hfin
      · cases hev
  · rename_i hw
    injection hev with hev; injection hev with e1 e2; subst e1; subst e2
    rw [if_neg (by rw [wants_sound hg he hw]; simp)]
    refine ⟨fun f _ => trivial, ?_⟩
    refine hnext c undef hs hN (.refl _ _ _ _) ?_
    rw [← hd]
    exact he.put (VRel.tup (by simp) (fun j x v hx => by simp at hx)) o.dst hdst
  · cases hev

theorem ops_sound (hcall : CallOK P T n) {nt : Nat} {ops : Array Oper} {rd : Rd} (ro : Option Nat) (Q : Exit → Act → World → Prop) : ∀ (cops : List COp) (k : Nat), chkOps P nt ops (ops.toList.drop k) cops = true →
    ∀ {env env' : Env} {st st' : St}, evOps (evCall T n rd) rd.wp cops env st = some (env', st') → ∀ {c : Cx} {a : Act}, StRel P c st rd.lp → c.N = st.h.length → rd.wp ≤ st.h.length → EnvRel c env a.tmps → a.tmps.size = nt →
    (∀ (c' : Cx) (a' : Act), StRel P c' st' rd.lp → c'.N = st'.h.length → Ext c c' st st' rd.lp rd.wp → EnvRel c' env' a'.tmps → a'.tmps.size = nt → a'.defers = a.defers → Q .normal a' c'.w) →
    wpOpsIn (FW ro) 0 P ops Q (List.range' k cops.length) a c.w
  | [], k, _, env, env', st, st', hev, c, a, hs, hN, _, he, hz, hQ => by
    simp only [evOps, Option.some.injEq, Prod.mk.injEq] at hev
    obtain ⟨rfl, rfl⟩ := hev
    exact hQ c a hs hN (.refl _ _ _ _) he hz rfl
  | co :: cops, k, hk, env, env', st, st', hev, c, a, hs, hN, hwp, he, hz, hQ => by
    cases hdr : ops.toList.drop k with
    | nil => rw [hdr] at hk; simp [chkOps] at hk
    | cons o os =>
      rw [hdr] at hk
      simp only [chkOps, Bool.and_eq_true] at hk
      have ho : ops[k]? = some o := by
        have := congrArg (·[0]?) hdr
        simpa using this
      have hdr2 : ops.toList.drop (k + 1) = os := by rw [← List.drop_drop, hdr]; rfl
      simp only [evOps] at hev
      split at hev
      · rename_i env1 st1 h1
        simp only [List.length_cons, List.range'_succ, wpOpsIn, ho]
        refine op_sound hcall hk.1 h1 hs hN hwp he hz ro _ Q (fun c1 v hs1 hN1 hx1 he1 => ?_)
        have hz1 : (a.put o.dst v).tmps.size = nt := by cases o.dst <;> simp [Act.put, hz]
        have hdf : (a.put o.dst v).defers = a.defers := by cases o.dst <;> rfl
        refine ops_sound hcall ro Q cops (k + 1) (by rw [hdr2]; exact hk.2) hev hs1 hN1 (Nat.le_trans hwp hx1.len) he1 hz1 (fun c2 a2 hs2 hN2 hx2 he2 hz2 hd2 => ?_)
        exact hQ c2 a2 hs2 hN2 (hx1.trans hx2) he2 hz2 (hd2.trans hdf)
      · cases hev
end
end Go.Proofs.YtfifgiopdbdeoaaDoor.Lite
namespace Go.Proofs.YtfifgiopdbdeoaaDoor.Lite
open Go Go.RowKit

def K.isPlain : K → Bool
  | .new _ | .box _ | .bls _ _ _ _ | .app _ _ _ | .st _ _ _ | .call _ _ | .nw _ => false
  | _ => true

theorem stepK_plain (env : Env) (hr h : Heap) (id wp : Nat) {k : K} (hk : k.isPlain = true) : stepK env hr h id wp k = (stepK env hr [] 0 0 k).map fun r => (r.1, h) := by
  cases k
  all_goals first
    | (simp [K.isPlain] at hk; done)
    | (simp only [stepK, Option.map_map, Function.comp_def]; done)
    | (simp only [stepK]; (repeat' split) <;> first | rfl | (simp only [Option.map_map, Function.comp_def, Option.map_some, Option.map_none]; done) | (simp_all; done))

theorem look_restrict : ∀ (keep : List Nat) (env : Env) (t : Nat), look (restrict keep env) t = if keep.contains t then look env t else none
  | [], env, t => by simp [restrict, look]
  | k :: ks, env, t => by
    simp only [restrict]
    by_cases hkt : k = t
    · subst hkt
      cases hl : look env k with
      | none =>
        simp only
        rw [look_restrict ks env k]
        simp [hl]
      | some v => simp [look]
    · cases hl : look env k with
      | none =>
        simp only
        rw [look_restrict ks env t]
        have : (k :: ks).contains t = ks.contains t := by simp [List.contains_cons]; intro h; exact absurd h.symm hkt
        rw [this]
      | some v =>
        simp only [look, hkt, if_false]
        rw [look_restrict ks env t]
        have : (k :: ks).contains t = ks.contains t := by simp [List.contains_cons]; intro h; exact absurd h.symm hkt
        rw [this]

section congr
variable {env env' : Env}
theorem evX_congr {x : X} (h : ∀ t ∈ K.temps.tX x, look env t = look env' t) : evX env x = evX env' x := by
  cases x with
  | t n => exact h n (by simp [K.temps.tX])
  | c v => rfl
theorem evXs_congr : ∀ {xs : List X}, (∀ t ∈ xs.flatMap K.temps.tX, look env t = look env' t) → evXs env xs = evXs env' xs
  | [], _ => rfl
  | x :: xs, h => by
    simp only [List.flatMap_cons, List.mem_append] at h
    simp only [evXs, evX_congr fun t ht => h t (.inl ht), evXs_congr fun t ht => h t (.inr ht)]
theorem fillA_congr : ∀ {ps : List (Nat × Nat × X)} {cells : List AV}, (∀ t ∈ ps.flatMap (fun p => K.temps.tX p.2.2), look env t = look env' t) → fillA env cells ps = fillA env' cells ps
  | [], _, _ => rfl
  | (off, size, x) :: r, cells, h => by
    simp only [List.flatMap_cons, List.mem_append] at h
    simp only [fillA, evX_congr fun t ht => h t (.inl ht)]
    split
    · split
      · exact fillA_congr fun t ht => h t (.inr ht)
      · rfl
    · rfl
theorem bound_congr {d : Nat} {o : Option X} (h : ∀ t ∈ o.toList.flatMap K.temps.tX, look env t = look env' t) : bound? env d o = bound? env' d o := by
  cases o with
  | none => rfl
  | some x => simp only [bound?, evX_congr fun t ht => h t (by simpa using ht)]

theorem stepK_congr {k : K} (h : ∀ t ∈ k.temps, look env t = look env' t) (hr hh : Heap) (id wp : Nat) : stepK env hr hh id wp k = stepK env' hr hh id wp k := by
  cases k
  all_goals simp only [K.temps, List.mem_append] at h
  case pick a b c =>
    simp only [stepK, evX_congr fun t ht => h t (.inl (.inl ht))]
    split
    · rename_i t _
      cases t
      · simp only [Bool.false_eq_true, if_false, evX_congr fun t ht => h t (.inr ht)]
      · simp only [if_true, evX_congr fun t ht => h t (.inl (.inr ht))]
    · rfl
  case mkf f xs => simp only [stepK, evXs_congr h]
  case bld z ps => simp only [stepK, fillA_congr h]
  case bls z n e ps => simp only [stepK, fillA_congr h]
  case sla n e x lo hi => simp only [stepK, evX_congr fun t ht => h t (.inl (.inl ht)), bound_congr fun t ht => h t (.inl (.inr ht)), bound_congr fun t ht => h t (.inr ht)]
  case sls e x lo hi =>
    have e1 := evX_congr fun t ht => h t (.inl (.inl ht))
    have e2 := bound_congr (d := 0) (o := lo) fun t ht => h t (.inl (.inr ht))
    cases hi with
    | none => simp only [stepK, e1, e2]
    | some y =>
      have e3 := bound_congr (d := 0) (o := some y) fun t ht => h t (.inr ht)
      simp only [stepK, e1, e2, e3]
  case call f xs => rfl
  case nw k =>
    have tx : ∀ x, NK.temps.tX x = K.temps.tX x := fun x => by cases x <;> rfl
    cases k
    all_goals simp only [NK.temps, List.mem_append, tx] at h
    all_goals first
      | rfl
      | (simp only [stepK, stepN, evX_congr h]; done)
      | (simp only [stepK, stepN, evX_congr fun t ht => h t (.inl ht), evX_congr fun t ht => h t (.inr ht)]; done)
  all_goals first
    | rfl
    | (simp only [stepK, evX_congr h]; done)
    | (simp only [stepK, evX_congr fun t ht => h t (.inl ht), evX_congr fun t ht => h t (.inr ht)]; done)
theorem wants_congr {g : Option (Nat × Bool)} (h : ∀ t b, g = some (t, b) → look env t = look env' t) : wants env g = wants env' g := by
  cases g with
  | none => rfl
  | some p => obtain ⟨t, b⟩ := p; simp only [wants, h t b rfl]
end congr

/-! ### The text's own run of the part that comes in any order -/
theorem evPre_trace (call : Caller) (hP : Nat → Heap) (wp : Nat) (pd : List (Option Ex)) : ∀ (os : List COp) (p : Nat) (env env' : Env) (h h' : Heap), evPre call hP wp p os env h pd = some (env', h') →
    ∃ (es : Nat → Env) (hs : Nat → Heap) (vs : Nat → AV), es 0 = env ∧ hs 0 = h ∧ es os.length = env' ∧ hs os.length = h' ∧
      ∀ (i : Nat) co, os[i]? = some co → preStep call (hP (p + i)) wp (p + i) co (es i) (hs i) pd = some (vs i, hs (i + 1)) ∧ es (i + 1) = putE (es i) co.dst (vs i)
  | [], p, env, env', h, h', he => by
    simp only [evPre, Option.some.injEq, Prod.mk.injEq] at he
    obtain ⟨rfl, rfl⟩ := he
    exact ⟨fun _ => env, fun _ => h, fun _ => .nilp, rfl, rfl, rfl, rfl, fun i co hi => by simp at hi⟩
  | o :: os, p, env, env', h, h', he => by
    simp only [evPre] at he
    split at he
    · rename_i v h1 hst
      obtain ⟨es, hs, vs, k1, k2, k3, k4, k5⟩ := evPre_trace call hP wp pd os (p + 1) _ _ _ _ he
      refine ⟨fun i => match i with | 0 => env | i + 1 => es i, fun i => match i with | 0 => h | i + 1 => hs i, fun i => match i with | 0 => v | i + 1 => vs i, rfl, rfl, k3, k4, fun i co hi => ?_⟩
      cases i with
      | zero =>
        simp at hi; subst hi
        exact ⟨by simp only [Nat.add_zero, k2]; exact hst, by simp only [k1]⟩
      | succ i =>
        simp at hi
        obtain ⟨g1, g2⟩ := k5 i co hi
        exact ⟨by rw [show p + (i + 1) = p + 1 + i by omega]; exact g1, g2⟩
    · cases he

theorem VRel.lows {c : Cx} {x : AV} {v : Value} (h : VRel c x v) : x.lows c.N c.M = true := by
  have all : ∀ (l : List AV), (∀ (j : Nat) x, l[j]? = some x → x.lows c.N c.M = true) → AV.lows.go c.N c.M l = true := by
    intro l
    induction l with
    | nil => intro _; rfl
    | cons y ys ih =>
      intro hl
      simp only [AV.lows.go, Bool.and_eq_true]
      exact ⟨hl 0 y rfl, ih fun j x hx => hl (j + 1) x (by simpa using hx)⟩
  have pt : ∀ (l : List AV) (arr : Array Value), arr.size = l.length → (∀ (j : Nat) x v, l[j]? = some x → arr[j]? = some v → x.lows c.N c.M = true) → AV.lows.go c.N c.M l = true := by
    intro l arr hz hl
    refine all l fun j x hx => ?_
    have hlt : j < arr.size := by rw [hz]; exact (List.getElem?_eq_some_iff.1 hx).1
    exact hl j x arr[j] hx (Array.getElem?_eq_getElem hlt)
  induction h with
  | d _ => rfl
  | nils => rfl
  | ws h1 => simpa [AV.lows] using h1
  | slr h1 => simpa [AV.lows] using h1
  | ptr h1 => simpa [AV.lows] using h1
  | nilp => rfl
  | iptr => rfl
  | fn hz _ ih => exact pt _ _ hz ih
  | yld h1 => simpa [AV.lows] using h1
  | nilf => rfl
  | agg hz _ ih => exact pt _ _ hz ih
  | tup hz _ ih => exact pt _ _ hz ih
  | mp h1 => simpa [AV.lows] using h1
  | emp => rfl

theorem HExt.congr {c c' : Cx} {h h' h'' : Heap} {wp : Nat} (x : HExt c c' h h' wp) (hg : ∀ l, getO h'' l = getO h' l) (hl : h'.length ≤ h''.length) : HExt c c' h h'' wp :=
  { x with
    own := fun b ⟨l, o, h1, h2⟩ => x.own b ⟨l, o, by rw [← hg]; exact h1, h2⟩
    pre := fun l h1 h2 => by rw [hg]; exact x.pre l h1 h2
    len := Nat.le_trans x.len hl
    dead := fun l h1 h2 h3 => by obtain ⟨g1, g2⟩ := x.dead l h1 h2 h3; exact ⟨g1, by rw [hg]; exact g2⟩ }

theorem HRel.congr {c : Cx} {h h' : Heap} (x : HRel c h) (hg : ∀ l, getO h' l = getO h l) : HRel c h' where
  box := fun l cs h1 => x.box l cs (by rw [← hg]; exact h1)
  tok := fun l e n h1 => x.tok l e n (by rw [← hg]; exact h1)
  nomap := fun l es h1 => x.nomap l es (by rw [← hg]; exact h1)
  sep := fun l l' o o' b h1 h2 => x.sep l l' o o' b (by rw [← hg]; exact h1) (by rw [← hg]; exact h2)
  stb := x.stb
  gi := x.gi

theorem getO_padH (h : Heap) (n l : Nat) : getO (padH h n) l = getO h l := by
  unfold getO padH
  by_cases hl : l < h.length
  · rw [List.getElem?_append_left hl]
  · rw [List.getElem?_append_right (by omega), List.getElem?_replicate]
    have : h[l]? = none := by simp; omega
    rw [this]
    split <;> rfl

theorem length_padH (h : Heap) (n : Nat) : (padH h n).length = max h.length n := by
  unfold padH; simp; omega

theorem getO_hide (h : Heap) (l : Nat) : getO (h.map hideT) l = match getO h l with | some (.tok _ _) => none | o => o := by
  unfold getO
  rw [List.getElem?_map]
  cases h[l]? with
  | none => rfl
  | some o =>
    cases o with
    | none => rfl
    | some ob => cases ob <;> rfl
end Go.Proofs.YtfifgiopdbdeoaaDoor.Lite
namespace Go.Proofs.YtfifgiopdbdeoaaDoor.Lite
open Go Go.RowKit

section pics
variable {α : Type} (wr : Nat → Option (Nat × α)) (f0 : Nat → Option α)
def pic (D : Nat → Bool) : Nat → Nat → Option α
  | 0, l => f0 l
  | k + 1, l => match D k, wr k with
    | true, some (l', x) => if l' = l then some x else pic D k l
    | _, _ => pic D k l

variable {wr f0} {D D' : Nat → Bool}
theorem pic_skip {k l : Nat} (h : ∀ x, D k = true → wr k ≠ some (l, x)) : pic wr f0 D (k + 1) l = pic wr f0 D k l := by
  simp only [pic]
  split
  · rename_i l' x h1 h2
    split
    · rename_i e; subst e; exact absurd h2 (h x h1)
    · rfl
  · rfl
theorem pic_hit {k l : Nat} {x : α} (h1 : D k = true) (h2 : wr k = some (l, x)) : pic wr f0 D (k + 1) l = some x := by
  simp [pic, h1, h2]
theorem pic_congr : ∀ {k l : Nat}, (∀ p x, p < k → wr p = some (l, x) → D p = D' p) → pic wr f0 D k l = pic wr f0 D' k l
  | 0, _, _ => rfl
  | k + 1, l, h => by
    have ih := pic_congr (k := k) (l := l) fun p x hp => h p x (by omega)
    by_cases hw : ∃ x, wr k = some (l, x)
    · obtain ⟨x, hx⟩ := hw
      have e := h k x (by omega) hx
      cases hd : D k with
      | true => rw [pic_hit hd hx, pic_hit (by rw [← e]; exact hd) hx]
      | false => rw [pic_skip (fun y hy => by rw [hd] at hy; cases hy), pic_skip (fun y hy => by rw [← e, hd] at hy; cases hy), ih]
    · rw [pic_skip (fun y _ hy => hw ⟨y, hy⟩), pic_skip (fun y _ hy => hw ⟨y, hy⟩), ih]
theorem pic_stop {i l : Nat} : ∀ {k : Nat}, i ≤ k → (∀ p x, i ≤ p → p < k → D p = true → wr p ≠ some (l, x)) → pic wr f0 D k l = pic wr f0 D i l
  | 0, h, _ => by have : i = 0 := by omega
                  subst this; rfl
  | k + 1, h, hh => by
    rcases Nat.lt_or_ge k i with h1 | h1
    · have : i = k + 1 := by omega
      subst this; rfl
    · rw [pic_skip fun x hx => hh k x h1 (by omega) hx, pic_stop h1 fun p x hp hk => hh p x hp (by omega)]
theorem pic_none : ∀ {k l : Nat}, pic wr f0 D k l = none → f0 l = none
  | 0, _, h => h
  | k + 1, l, h => by
    simp only [pic] at h
    split at h
    · split at h
      · cases h
      · exact pic_none h
    · exact pic_none h

def setD (D : Nat → Bool) (i : Nat) : Nat → Bool := fun p => p == i || D p
theorem setD_same (D : Nat → Bool) (i : Nat) : setD D i i = true := by simp [setD]
theorem setD_other (D : Nat → Bool) {i p : Nat} (h : p ≠ i) : setD D i p = D p := by simp [setD, h]

theorem pic_set {i k l : Nat} {x : α} (hi : i < k) (hw : wr i = some (l, x)) (hh : ∀ p y, i < p → p < k → D p = true → wr p ≠ some (l, y)) : pic wr f0 (setD D i) k l = some x := by
  rw [pic_stop (i := i + 1) (by omega) (fun p y hp hk hd => hh p y (by omega) hk (by rw [setD_other D (by omega : p ≠ i)] at hd; exact hd)), pic_hit (setD_same D i) hw]
theorem pic_set_other {i k l : Nat} (hw : ∀ x, wr i ≠ some (l, x)) : pic wr f0 (setD D i) k l = pic wr f0 D k l :=
  pic_congr fun p x _ hp => by
    by_cases e : p = i
    · subst e; exact absurd hp (hw x)
    · exact setD_other D e
end pics

def app1 : Option (Nat × AObj) → Heap → Heap
  | none, h => h
  | some (l, o), h => putO h l o

/-- The object that a step writes to. -/
def K.needs (env : Env) : K → Nat → Prop
  | .st _ x _, t => ∃ z, evX env x = some (.ptr t z)
  | .app _ x _, t => ∃ rows, evX env x = some (.ws rows t)
  | _, _ => False
theorem K.needs_tok {env : Env} {k : K} {t : Nat} (h : k.needs env t) : k.isTok = true := by
  cases k <;> first | rfl | exact h.elim

/-- What one step writes. -/
structure Eff (env : Env) (hr h : Heap) (id wp : Nat) (k : K) (v : AV) (h' : Heap) (w : Option (Nat × AObj)) : Prop where
  eff : h' = app1 w h
  also : ∀ h2, (∀ t, k.needs env t → ∀ o, getO h t = some o → getO h2 t = some o) → stepK env hr h2 id wp k = some (v, app1 w h2)
  nd : ∀ l o, w = some (l, o) → l = id ∨ k.needs env l
  wr : ∀ l o, w = some (l, o) → (l = id ∧ ((k.isNew = true ∧ ∃ cs, o = .cells cs) ∨ (k.isTok = true ∧ ∃ e n, o = .tok e n))) ∨
    (k.isTok = true ∧ ∃ e n e' n', getO h l = some (.tok e n) ∧ o = .tok e' n') ∨ (k.isTok = true ∧ getO hr l = none ∧ ∃ cs cs', getO h l = some (.cells cs) ∧ o = .cells cs')

theorem stepK_eff {env : Env} {hr h : Heap} {id wp : Nat} {k : K} {v : AV} {h' : Heap} (hst : ∀ n x y, k = .st n x y → ∀ l z, evX env x = some (.ptr l z) → getO hr l = none) (hca : ∀ f xs, k ≠ .call f xs) (hnw : ∀ q, k ≠ .nw q) (hs : stepK env hr h id wp k = some (v, h')) :
    ∃ w, Eff env hr h id wp k v h' w := by
  cases hp : k.isPlain with
  | true =>
    rw [stepK_plain env hr h id wp hp] at hs
    cases h1 : stepK env hr [] 0 0 k with
    | none => rw [h1] at hs; simp at hs
    | some r =>
      rw [h1] at hs
      simp only [Option.map_some, Option.some.injEq, Prod.mk.injEq] at hs
      obtain ⟨rfl, rfl⟩ := hs
      exact ⟨none, rfl, fun h2 _ => by rw [stepK_plain env hr h2 id wp hp, h1]; rfl, fun l o hw => (by cases hw), fun l o hw => (by cases hw)⟩
  | false =>
    cases k
    case st n x y =>
      simp only [stepK] at hs
      split at hs
      · rename_i l o u hx hy
        split at hs
        · rename_i cs hcs
          split at hs
          · rename_i hl
            cases hs
            refine ⟨some (l, .cells (lay cs o u.cellsOf)), rfl, fun h2 h3 => ?_, fun l' ob hw => (by cases hw; exact .inr ⟨o, hx⟩), fun l' ob hw => by cases hw; exact .inr (.inr ⟨rfl, hst n x y rfl l o hx, _, _, hcs, rfl⟩)⟩
            have h4 := h3 l ⟨o, hx⟩ _ hcs
            simp only [stepK, hx, hy, h4]
            rw [if_pos hl]; rfl
          · cases hs
        · cases hs
      · cases hs
    case call f xs => exact absurd rfl (hca f xs)
    case nw q => exact absurd rfl (hnw q)
    case new zero =>
      simp only [stepK, Option.some.injEq, Prod.mk.injEq] at hs
      obtain ⟨rfl, rfl⟩ := hs
      exact ⟨some (id, .cells zero), rfl, fun h2 _ => rfl, fun l o hw => (by cases hw; exact .inl rfl), fun l o hw => by cases hw; exact .inl ⟨rfl, .inl ⟨rfl, _, rfl⟩⟩⟩
    case box x =>
      simp only [stepK] at hs
      cases hu : evX env x with
      | none => rw [hu] at hs; simp at hs
      | some u =>
        rw [hu] at hs
        simp only [Option.map_some, Option.some.injEq, Prod.mk.injEq] at hs
        obtain ⟨rfl, rfl⟩ := hs
        refine ⟨some (id, .cells u.cellsOf), rfl, fun h2 _ => by simp only [stepK, hu]; rfl, fun l o hw => (by cases hw; exact .inl rfl), fun l o hw => by cases hw; exact .inl ⟨rfl, .inl ⟨rfl, _, rfl⟩⟩⟩
    case bls zero n e parts =>
      simp only [stepK] at hs ⊢
      split at hs
      · rename_i cs hcs
        split at hs
        · rename_i ds hds
          split at hs
          · rename_i hl
            cases hs
            refine ⟨some (id, .tok e n), rfl, fun h2 _ => by simp only [stepK, hcs, hds, if_pos hl]; rfl, fun l o hw => (by cases hw; exact .inl rfl), fun l o hw => by cases hw; exact .inl ⟨rfl, .inr ⟨rfl, _, _, rfl⟩⟩⟩
          · cases hs
        · cases hs
      · cases hs
    case app e x y =>
      simp only [stepK] at hs
      split at hs
      · rename_i xv yv hx hy
        split at hs
        · rename_i r hrr
          split at hs
          · split at hs
            · rename_i hl
              cases hs
              refine ⟨some (id, .tok e r.length), rfl, fun h2 _ => by simp only [stepK, hx, hy, hrr, if_pos hl]; rfl, fun l o hw => (by cases hw; exact .inl rfl), fun l o hw => by cases hw; exact .inl ⟨rfl, .inr ⟨rfl, _, _, rfl⟩⟩⟩
            · cases hs
          · rename_i rows t
            split at hs
            · rename_i hl
              cases hs
              have htk : getO h t = some (.tok e rows.length) := by
                have := hl.2.2.1
                unfold stepK.getTok at this
                split at this
                · rename_i e' n' hg
                  cases this; exact hg
                · cases this
              refine ⟨some (t, .tok e (rows.length + r.length)), rfl, fun h2 h3 => ?_, fun l o hw => (by cases hw; exact .inr ⟨rows, hx⟩), fun l o hw => by cases hw; exact .inr (.inl ⟨rfl, _, _, _, _, htk, rfl⟩)⟩
              have h4 := h3 t ⟨rows, hx⟩ _ htk
              have h5 : stepK.getTok h2 t = some (e, rows.length) := by unfold stepK.getTok; rw [h4]
              simp only [stepK, hx, hy, hrr]
              rw [if_pos ⟨hl.1, hl.2.1, h5, hl.2.2.2⟩]; rfl
            · cases hs
          · cases hs
        · cases hs
      · cases hs
    all_goals (simp [K.isPlain] at hp)
end Go.Proofs.YtfifgiopdbdeoaaDoor.Lite
namespace Go.Proofs.YtfifgiopdbdeoaaDoor.Lite
open Go Go.RowKit

inductive OpCase (call : Caller) (h0 : Heap) (wp i : Nat) (co : COp) (env : Env) (h : Heap) (pd : List (Option Ex)) (v : AV) (h' : Heap) (w : Option (Nat × AObj)) : Prop
  | off (hw : wants env co.g = some false) (hv : v = .tup []) (h1 : h' = h) (h2 : w = none)
  | call {f args fv us vs v0 st'} (hw : wants env co.g = some true) (hk : co.k = .call f args) (hf : evX env f = some fv) (ha : evXs env args = some us) (hz : vs = us.map (frz h0.length))
      (hl : ∀ x ∈ fv :: vs, x.lows h0.length pd.length = true) (hc : call fv vs { h := h0.map hideT, pd := pd } = some (v0, st')) (hn : cutR h0.length pd.length v0 st'.h = some v) (h1 : h' = h) (h2 : w = none)
  | step (hw : wants env co.g = some true) (hk : ∀ f args, co.k ≠ .call f args) (he : Eff env h0 h (h0.length + i) wp co.k v h' w)

theorem preStep_case {call : Caller} {h0 : Heap} {wp i : Nat} {co : COp} {env : Env} {h : Heap} {pd : List (Option Ex)} {v : AV} {h' : Heap} (hs : preStep call h0 wp i co env h pd = some (v, h')) :
    ∃ w, OpCase call h0 wp i co env h pd v h' w := by
  unfold preStep at hs
  split at hs
  · rename_i hw
    split at hs
    · rename_i f args hk
      split at hs
      · rename_i fv vs hf ha
        split at hs
        · rename_i hl
          split at hs
          · rename_i v' st' hc
            split at hs
            · rename_i hn
              cases hs
              exact ⟨none, .call hw hk hf ha rfl (List.all_eq_true.1 hl) hc hn rfl rfl⟩
            · cases hs
          · cases hs
        · cases hs
      · cases hs
    · rename_i n x y hk
      unfold preSt at hs
      split at hs
      · rename_i l z hx
        split at hs
        · rename_i hn
          rw [← hk] at hs
          obtain ⟨w, he⟩ := stepK_eff (fun n' x' y' e l' z' hx' => by rw [hk] at e; cases e; rw [hx] at hx'; cases hx'; exact hn) (fun f xs e => by rw [hk] at e; cases e) (fun q e => by rw [hk] at e; cases e) hs
          exact ⟨w, .step hw (fun f xs e => by rw [hk] at e; cases e) he⟩
        · cases hs
      · cases hs
    · cases hs
    · rename_i k hnc hns hnn
      obtain ⟨w, he⟩ := stepK_eff (fun n x y e => absurd e (by simpa using hns n x y)) (fun f xs e => hnc f xs (by simpa using e)) (fun q e => hnn q (by simpa using e)) hs
      exact ⟨w, .step hw (fun f xs e => hnc f xs (by simpa using e)) he⟩
  · rename_i hw
    cases hs
    exact ⟨none, .off hw rfl rfl rfl⟩
  · cases hs

structure Tr (call : Caller) (hP : Nat → Heap) (hB : Heap) (wp : Nat) (pd : List (Option Ex)) (pre : List COp) (es : Nat → Env) (hs : Nat → Heap) (vs : Nat → AV) (wr : Nat → Option (Nat × AObj)) : Prop where
  z : hs 0 = hB
  ln : ∀ i, (hP i).length = hB.length
  sub : ∀ i l o, getO (hP i) l = some o → getO hB l = some o
  en : ∀ i co, pre[i]? = some co → es (i + 1) = putE (es i) co.dst (vs i)
  op : ∀ i co, pre[i]? = some co → OpCase call (hP i) wp i co (es i) (hs i) pd (vs i) (hs (i + 1)) (wr i)

theorem evPre_tr {call : Caller} {hP : Nat → Heap} {hB : Heap} (hln : ∀ i, (hP i).length = hB.length) (hsub : ∀ i l o, getO (hP i) l = some o → getO hB l = some o) {wp : Nat} {pd : List (Option Ex)} {pre : List COp} {env env' : Env} {h' : Heap} (he : evPre call hP wp 0 pre env hB pd = some (env', h')) :
    ∃ es hs vs wr, Tr call hP hB wp pd pre es hs vs wr ∧ es 0 = env ∧ es pre.length = env' ∧ hs pre.length = h' := by
  obtain ⟨es, hs, vs, k1, k2, k3, k4, k5⟩ := evPre_trace call hP wp pd pre 0 env env' hB h' he
  have : ∀ i, ∃ w, ∀ co, pre[i]? = some co → OpCase call (hP i) wp i co (es i) (hs i) pd (vs i) (hs (i + 1)) w := by
    intro i
    cases hp : pre[i]? with
    | none => exact ⟨none, fun co h => by cases h⟩
    | some co =>
      have := (k5 i co hp).1
      rw [Nat.zero_add] at this
      obtain ⟨w, hw⟩ := preStep_case this
      exact ⟨w, fun co' h => by cases h; exact hw⟩
  obtain ⟨wr, hwr⟩ := Classical.axiomOfChoice this
  exact ⟨es, hs, vs, wr, ⟨k2, hln, hsub, fun i co hi => (k5 i co hi).2, hwr⟩, k1, k3, k4⟩

section
variable {call : Caller} {h0 hB : Heap} {wp : Nat} {pd : List (Option Ex)} {pre : List COp} {es : Nat → Env} {hs : Nat → Heap} {vs : Nat → AV} {wr : Nat → Option (Nat × AObj)}

theorem OpCase.eff {i : Nat} {co : COp} {env : Env} {h h' : Heap} {v : AV} {w : Option (Nat × AObj)} (o : OpCase call h0 wp i co env h pd v h' w) : h' = app1 w h := by
  cases o with
  | off _ _ h1 h2 => subst h1; subst h2; rfl
  | call _ _ _ _ _ _ _ _ h1 h2 => subst h1; subst h2; rfl
  | step _ _ he => exact he.eff

theorem OpCase.writes {i : Nat} {co : COp} {env : Env} {h h' : Heap} {v : AV} {l : Nat} {o : AObj} (oc : OpCase call h0 wp i co env h pd v h' (some (l, o))) :
    (l = h0.length + i ∧ ((co.k.isNew = true ∧ ∃ cs, o = .cells cs) ∨ (co.k.isTok = true ∧ ∃ e n, o = .tok e n))) ∨ (co.k.isTok = true ∧ ∃ e n e' n', getO h l = some (.tok e n) ∧ o = .tok e' n') ∨ (co.k.isTok = true ∧ getO h0 l = none ∧ ∃ cs cs', getO h l = some (.cells cs) ∧ o = .cells cs') := by
  cases oc with
  | off _ _ _ h2 => cases h2
  | call _ _ _ _ _ _ _ _ _ h2 => cases h2
  | step _ _ he => exact he.wr l o rfl

theorem OpCase.nd {i : Nat} {co : COp} {env : Env} {h h' : Heap} {v : AV} {l : Nat} {o : AObj} (oc : OpCase call h0 wp i co env h pd v h' (some (l, o))) : l = h0.length + i ∨ co.k.needs env l := by
  cases oc with
  | off _ _ _ h2 => cases h2
  | call _ _ _ _ _ _ _ _ _ h2 => cases h2
  | step _ _ he => exact he.nd l o rfl

theorem app1_len {w : Option (Nat × AObj)} {h : Heap} {n : Nat} (hn : h.length ≤ n) (hw : ∀ l o, w = some (l, o) → l < n) : (app1 w h).length ≤ n := by
  cases w with
  | none => exact hn
  | some p => obtain ⟨l, o⟩ := p; simp only [app1, length_putO]; have := hw l o rfl; omega

theorem getO_app1 (w : Option (Nat × AObj)) (h : Heap) (l : Nat) : getO (app1 w h) l = match w with | some (l', o) => if l' = l then some o else getO h l | none => getO h l := by
  cases w with
  | none => rfl
  | some p =>
    obtain ⟨l', o⟩ := p
    simp only [app1]
    split
    · rename_i e; subst e; exact getO_putO_same _ _ _
    · rename_i e; exact getO_putO_other _ _ (Ne.symm e)

variable {hP : Nat → Heap} (tr : Tr call hP hB wp pd pre es hs vs wr)
include tr

theorem Tr.wr_lt {i l : Nat} {o : AObj} {co : COp} (hi : pre[i]? = some co) (hb : (hs i).length ≤ hB.length + i) (hw : wr i = some (l, o)) : l < hB.length + i + 1 := by
  have := tr.op i co hi
  have hl := tr.ln i
  rw [hw] at this
  rcases this.writes with ⟨rfl, _⟩ | ⟨_, e, n, e', n', h1, _⟩ | ⟨_, _, cs, cs', h1, _⟩
  · omega
  · have := getO_lt h1; omega
  · have := getO_lt h1; omega

theorem Tr.bound : ∀ {j : Nat}, j ≤ pre.length → (hs j).length ≤ hB.length + j
  | 0, _ => by rw [tr.z]; omega
  | j + 1, hj => by
    have ih := Tr.bound (j := j) (by omega)
    obtain ⟨co, hco⟩ : ∃ co, pre[j]? = some co := ⟨_, List.getElem?_eq_getElem (by omega)⟩
    rw [(tr.op j co hco).eff]
    exact app1_len (by omega) fun l o hw => by have := tr.wr_lt hco ih hw; omega

theorem Tr.picT : ∀ {j : Nat}, j ≤ pre.length → ∀ l, getO (hs j) l = pic wr (getO hB) (fun _ => true) j l
  | 0, _, l => by rw [tr.z]; rfl
  | j + 1, hj, l => by
    have ih := Tr.picT (j := j) (by omega)
    obtain ⟨co, hco⟩ : ∃ co, pre[j]? = some co := ⟨_, List.getElem?_eq_getElem (by omega)⟩
    rw [(tr.op j co hco).eff, getO_app1]
    simp only [pic]
    cases hw : wr j with
    | none => exact ih l
    | some p =>
      obtain ⟨l', o⟩ := p
      simp only [ih l]

def wrE (pre : List COp) (vs : Nat → AV) (i : Nat) : Option (Nat × AV) := (pre[i]?).bind fun co => co.dst.map fun t => (t, vs i)

theorem Tr.picE : ∀ {j : Nat}, j ≤ pre.length → ∀ t, look (es j) t = pic (wrE pre vs) (look (es 0)) (fun _ => true) j t
  | 0, _, l => rfl
  | j + 1, hj, t => by
    have ih := Tr.picE (j := j) (by omega)
    obtain ⟨co, hco⟩ : ∃ co, pre[j]? = some co := ⟨_, List.getElem?_eq_getElem (by omega)⟩
    rw [tr.en j co hco]
    simp only [pic, wrE, hco, Option.bind_some]
    cases hd : co.dst with
    | none => exact ih t
    | some d =>
      simp only [putE, look, Option.map_some, ih t]

/-- cells that were there stay cells -/
theorem Tr.cellsT {l : Nat} {cs : List AV} (h : getO hB l = some (.cells cs)) : ∀ {j : Nat}, j ≤ pre.length → ∃ cs', getO (hs j) l = some (.cells cs')
  | 0, _ => by rw [tr.z]; exact ⟨cs, h⟩
  | j + 1, hj => by
    obtain ⟨cs', ih⟩ := Tr.cellsT h (j := j) (by omega)
    obtain ⟨co, hco⟩ : ∃ co, pre[j]? = some co := ⟨_, List.getElem?_eq_getElem (by omega)⟩
    have hop := tr.op j co hco
    rw [hop.eff, getO_app1]
    split
    · rename_i l' o hw
      split
      · rename_i e
        subst e
        rw [hw] at hop
        have hlt := getO_lt h
        have hl := tr.ln j
        rcases hop.writes with ⟨h1, _⟩ | ⟨_, e, n, e', n', h1, _⟩ | ⟨_, h1, c1, c2, _, h2⟩
        · omega
        · rw [ih] at h1; cases h1
        · exact ⟨c2, by rw [h2]⟩
      · exact ⟨cs', ih⟩
    · exact ⟨cs', ih⟩

theorem Tr.nowr {l : Nat} {cs : List AV} (h : getO hB l = some (.cells cs)) {p : Nat} (hp : p < pre.length) (hv : ∀ cp, pre[p]? = some cp → cp.k.isTok = true → getO (hP p) l = some (.cells cs)) (o : AObj) : wr p ≠ some (l, o) := by
  intro hw
  obtain ⟨co, hco⟩ : ∃ co, pre[p]? = some co := ⟨_, List.getElem?_eq_getElem hp⟩
  have hop := tr.op p co hco
  rw [hw] at hop
  have hlt := getO_lt h
  have hl := tr.ln p
  rcases hop.writes with ⟨h1, _⟩ | ⟨_, e, n, e', n', h1, _⟩ | ⟨h0, h1, _⟩
  · omega
  · obtain ⟨cs', h2⟩ := tr.cellsT h (j := p) (by omega)
    rw [h2] at h1; cases h1
  · rw [hv co hco h0] at h1; cases h1

theorem Tr.cellsD {l : Nat} {cs : List AV} (h : getO hB l = some (.cells cs)) (D : Nat → Bool) {k : Nat} (hk : k ≤ pre.length) (hv : ∀ p cp, D p = true → pre[p]? = some cp → cp.k.isTok = true → getO (hP p) l = some (.cells cs)) : pic wr (getO hB) D k l = some (.cells cs) := by
  rw [pic_stop (i := 0) (Nat.zero_le k) (fun p x _ hp hD => tr.nowr h (by omega) (fun cp => hv p cp hD) x)]
  exact h

end
end Go.Proofs.YtfifgiopdbdeoaaDoor.Lite
namespace Go.Proofs.YtfifgiopdbdeoaaDoor.Lite
open Go Go.RowKit

theorem call_wp {P : Program} {o : Oper} {f0 : Operand} {args0 : Array Operand} {ts : Array TypeId} (ho : o.op = .call { callee := .value f0, args := args0, argTypes := ts }) {a : Act} {w : World} {R : Value → World → Prop}
    (hgo : Goes P w (a.eval f0) (args0.map a.eval) R) (ro : Option Nat) {next : Act → World → Prop} {Q : Exit → Act → World → Prop} (fin : ∀ u w', R u w' → next (a.put o.dst u) w') : o.wpIn (FW ro) 0 P a w next Q := by
  refine ⟨fun f _ => trivial, ?_⟩
  rw [Oper.semAt_eq _ _ _ (by intro c h; rw [ho] at h; cases h)]
  rcases hgo with ⟨g, arr, h1, h2, h3⟩ | ⟨l, fn, tmps, asg, body, h1, h2, h3⟩
  · rw [exec_call ho, resolve_value _ _ _ _ _ h1]
    have e : (do let d ← (pure { target := .fn (.func g) arr, args := #[] ++ args0.map a.eval } : Sem Deferred); invoke d.target d.args : Sem Next).run P w = .ok (.enter g (args0.map a.eval ++ arr)) w := by
      simp only [Sem.run_bind, Sem.run_pure, Result.andThen_ok, invoke, Array.empty_append]
      exact h2 _ _
    rw [e, Oper.uponIn_enter]
    refine ⟨FW_depth ro, ?_⟩
    have h4 : CallsIn (FW ro) (0 - 1) P g (args0.map a.eval ++ arr) w (fun e w' => ∃ v', e = .returned v' ∧ R v' w') := h3
    refine h4.mono ?_
    rintro e' w' ⟨u, rfl, hu⟩
    exact fin u w' hu
  · rw [exec_call ho, resolve_value _ _ _ _ _ h1]
    have e : (do let d ← (pure { target := .fn (.yield l) #[], args := #[] ++ args0.map a.eval } : Sem Deferred); invoke d.target d.args : Sem Next).run P w = .ok (.round l fn tmps asg body) w := by
      simp only [Sem.run_bind, Sem.run_pure, Result.andThen_ok, invoke, Array.empty_append]
      exact h2
    rw [e, Oper.uponIn_round]
    refine ⟨FW_depth ro, ?_⟩
    have h4 : RoundIn (FW ro) (0 - 1) P l fn tmps asg body w (fun e w' => ∃ v', e = .returned v' ∧ R v' w') := h3
    refine h4.mono ?_
    rintro e' w' ⟨u, rfl, hu⟩
    exact fin u w' hu

theorem chkOps_get {P : Program} {nt : Nat} {ops : Array Oper} : ∀ {os : List Oper} {cs : List COp}, chkOps P nt ops os cs = true → os.length = cs.length ∧ ∀ (i : Nat) o co, os[i]? = some o → cs[i]? = some co → chkOp P nt ops o co = true
  | [], [], _ => ⟨rfl, fun i o co h => by simp at h⟩
  | o :: os, c :: cs, h => by
    simp only [chkOps, Bool.and_eq_true] at h
    obtain ⟨h1, h2⟩ := chkOps_get h.2
    refine ⟨by simp [h1], fun i o' co' ho hc => ?_⟩
    cases i with
    | zero => simp at ho hc; subst ho; subst hc; exact h.1
    | succ i => simp at ho hc; exact h2 i o' co' ho hc
  | [], _ :: _, h => by simp [chkOps] at h
  | _ :: _, [], h => by simp [chkOps] at h

/-- places for what is new -/
def Cx.room (c : Cx) (b m : Nat) : Cx := { c with N := b + m, ρ := fun l => if l < b then c.ρ l else .no }

theorem room_le {c : Cx} {m : Nat} : c.le (c.room c.N m) :=
  ⟨Nat.le_add_right _ _, Nat.le_refl _, .refl _ _, fun l hl => by simp only [Cx.room, if_pos hl]; exact Gh.le_refl _, fun _ _ => rfl, fun _ _ => rfl⟩

theorem HRel.room {c : Cx} {h : Heap} (hr : HRel c h) (m : Nat) : HRel (c.room c.N m) h where
  box := fun l cs hl => by
    obtain ⟨h0, b, arr, T, h1, h2, h3, h4, h5⟩ := hr.box l cs hl
    exact ⟨Nat.lt_of_lt_of_le h0 (Nat.le_add_right _ _), b, arr, T, by simp only [Cx.room, if_pos h0]; exact h1, h2, h3, fun j x v hx hv => (h4 j x v hx hv).mono room_le, h5⟩
  tok := fun t e n ht => by
    obtain ⟨h0, base, cap, h1, h2, h3⟩ := hr.tok t e n ht
    exact ⟨Nat.lt_of_lt_of_le h0 (Nat.le_add_right _ _), base, cap, by simp only [Cx.room, if_pos h0]; exact h1, h2, h3⟩
  nomap := hr.nomap
  sep := fun l l' o o' b h1 h2 h3 h4 => by
    have lt : ∀ {k ob}, getO h k = some ob → k < c.N := fun {k ob} hk => by
      cases ob with
      | cells cs => exact (hr.box k cs hk).1
      | tok e n => exact (hr.tok k e n hk).1
      | map es => exact absurd hk (hr.nomap k es)
    simp only [Cx.room, if_pos (lt h1)] at h3
    simp only [Cx.room, if_pos (lt h2)] at h4
    exact hr.sep l l' o o' b h1 h2 h3 h4
  stb := hr.stb
  gi := hr.gi

theorem HRel.lt {c : Cx} {h : Heap} (hr : HRel c h) {l : Nat} {o : AObj} (hl : getO h l = some o) : l < c.N := by
  cases o with
  | cells cs => exact (hr.box l cs hl).1
  | tok e n => exact (hr.tok l e n hl).1
  | map es => exact absurd hl (hr.nomap l es)

theorem OwnH.room {c : Cx} {h : Heap} (hr : HRel c h) {m b : Nat} : OwnH (c.room c.N m) h b ↔ OwnH c h b := by
  constructor
  · rintro ⟨l, o, h1, h2⟩
    simp only [Cx.room, if_pos (hr.lt h1)] at h2
    exact ⟨l, o, h1, h2⟩
  · rintro ⟨l, o, h1, h2⟩
    exact ⟨l, o, h1, by simp only [Cx.room, if_pos (hr.lt h1)]; exact h2⟩

theorem HExt.of_room {c c' : Cx} {h h' : Heap} {wp m : Nat} (hr : HRel c h) (x : HExt (c.room c.N m) c' h h' wp) : HExt c c' h h' wp where
  keeps := x.keeps
  gh := fun l hl => by
    have := x.gh l (Nat.lt_of_lt_of_le hl (Nat.le_add_right _ _))
    simp only [Cx.room, if_pos hl] at this
    exact this
  n := Nat.le_trans (Nat.le_add_right _ _) x.n
  m := x.m
  lm := x.lm
  lc := x.lc
  blk := fun b hb ho => x.blk b hb fun h => ho ((OwnH.room hr).1 h)
  size := x.size
  own := fun b hb => (x.own b hb).imp (OwnH.room hr).1 id
  os := x.os
  tape := x.tape
  output := x.output
  pre := x.pre
  len := x.len
  dead := fun l hl h0 hn => by
    have := x.dead l (Nat.lt_of_lt_of_le hl (Nat.le_add_right _ _)) h0 (by simp only [Cx.room, if_pos hl]; exact hn)
    simp only [Cx.room, if_pos hl] at this
    exact this
  sx := fun b z hs => by
    rcases x.sx b z hs with h1 | h1 | h1
    · exact .inl h1
    · exact .inr (.inl ((OwnH.room hr).1 h1))
    · exact .inr (.inr h1)

structure PInv (nt m : Nat) (c0 : Cx) (h0 : Heap) (wp : Nat) (env : Env) (pre : List COp) (vs : Nat → AV) (wr : Nat → Option (Nat × AObj)) (df : List Deferred) (D : Nat → Bool) (c : Cx) (a : Act) (hD : Heap) : Prop where
  hr : HRel c hD
  hx : HExt (c0.room c0.N m) c h0 hD wp
  n : c.N = h0.length + m
  len : hD.length ≤ h0.length + m
  pic : ∀ l, getO hD l = pic wr (getO h0) D m l
  idle : ∀ p, p < m → D p = false → c.ρ (h0.length + p) = .no
  env : ∀ t x, Lite.pic (wrE pre vs) (look env) D m t = some x → t < a.tmps.size ∧ VRel c x (a.tmps.getD t undef)
  tgt : ∀ p l o q cq, D p = true → wr p = some (l, o) → l = h0.length + q → pre[q]? = some cq → cq.k.isNew = true → D q = true
  sz : a.tmps.size = nt
  df : a.defers = df

theorem cutA_sound {c1 : Cx} {H : Heap} (hr : HRel c1 H) {N M : Nat} (hM : c1.M = M) {S2 : Stb} (k : Keeps c1.S S2 c1.w c1.w)
    (hS : ∀ l cs ds b o, N ≤ l → getO H l = some (.cells cs) → dats? cs = some ds → c1.ρ l = .box b → o < cs.length → S2 b o) {y y' : AV} {v : Value} (hv : VRel c1 y v) (hc : cutA H N M y = some y') :
    VRel { c1 with N := N, S := S2 } y' v := by
  have le : Cx.le { c1 with N := N, M := M } { c1 with N := N, S := S2 } := ⟨Nat.le_refl _, by rw [← hM]; exact Nat.le_refl _, k, fun _ _ => Gh.le_refl _, fun _ _ => rfl, fun _ _ => rfl⟩
  unfold cutA at hc
  split at hc
  · rename_i hl
    cases hc
    exact (VRel.shrink hv hl).mono le
  · rename_i hl
    split at hc
    · rename_i l o
      split at hc
      · rename_i cs hg
        obtain ⟨ds, hd, rfl⟩ := Option.map_eq_some_iff.1 hc
        have hl : N ≤ l := by simpa [AV.lows] using hl
        cases hv with
        | ptr hl0 hb =>
          rename_i b
          obtain ⟨_, b', arr, T, g1, g2, g3, g4, _⟩ := hr.box l cs hg
          rw [hb] at g1; injection g1 with g1; subst g1
          obtain ⟨hlen, hget⟩ := dats_get hd
          have ge : ∀ j x, (ds.drop o)[j]? = some x → ∃ y, cs[o + j]? = some y ∧ y.dat? = some x := fun j x hx => hget _ x (by simpa using hx)
          refine VRel.iptr (vals := fun j => arr.getD (o + j) undef) (fun j x hx => ?_) (fun j x hx => ?_)
          · obtain ⟨y, h1, h2⟩ := ge j x hx
            have hlt := (List.getElem?_eq_some_iff.1 h1).1
            refine ⟨hS l cs ds b (o + j) hl hg hd hb hlt, ?_⟩
            show c1.w.cell? _ = _
            rw [cell_of_heap g2]
            have : o + j < arr.size := by omega
            simp [Array.getD, this]
          · obtain ⟨y, h1, h2⟩ := ge j x hx
            have hlt := (List.getElem?_eq_some_iff.1 h1).1
            have : o + j < arr.size := by omega
            have hv := g4 (o + j) y (arr.getD (o + j) undef) h1 (by simp [Array.getD, this])
            exact (dat_rel h2 hv).mono k
      · cases hc
    · rename_i rows t
      cases hc
      cases hv with
      | ws _ h1 _ _ _ => exact .d (h1.mono k)
    · rename_i l off n e m
      have hl : N ≤ l := by simpa [AV.lows] using hl
      split at hc
      · rename_i cs hg
        split at hc
        · rename_i ds hd
          split at hc
          · rename_i hle
            cases hc
            cases hv with
            | slr hl0 hb hcn hcm =>
              rename_i b cap
              obtain ⟨_, b', arr, T, g1, g2, g3, g4, _⟩ := hr.box l cs hg
              rw [hb] at g1; injection g1 with g1; subst g1
              obtain ⟨hlen, hget⟩ := dats_get hd
              have ge : ∀ i j x, at2 (chunk e n ((ds.drop off).take (n * e))) i j = some x → ∃ y, cs[off + i * e + j]? = some y ∧ y.dat? = some x := fun i j x hx => by
                obtain ⟨h1, h2, h3⟩ := chunk_at2 hx
                rw [List.getElem?_take] at h3
                split at h3
                · rw [List.getElem?_drop, ← Nat.add_assoc] at h3
                  exact hget _ x h3
                · cases h3
              have hq := DRel.sl (S := S2) (w := c1.w) (chunk e n ((ds.drop off).take (n * e))) b off e cap (fun i j => arr.getD (off + i * e + j) undef) (chunk_rows (by simp; omega)) (by rw [chunk_length]; omega) (fun i j x hx => by
                obtain ⟨y, h1, h2⟩ := ge i j x hx
                have hlt := (List.getElem?_eq_some_iff.1 h1).1
                refine ⟨hS l cs ds b _ hl hg hd hb hlt, ?_⟩
                rw [cell_of_heap g2]
                have : off + i * e + j < arr.size := by omega
                simp [Array.getD, this]) (fun i j x hx => by
                obtain ⟨y, h1, h2⟩ := ge i j x hx
                have hlt := (List.getElem?_eq_some_iff.1 h1).1
                have : off + i * e + j < arr.size := by omega
                have hv := g4 (off + i * e + j) y (arr.getD (off + i * e + j) undef) h1 (by simp [Array.getD, this])
                exact (dat_rel h2 hv).mono k)
              rw [chunk_length] at hq
              exact .d hq
          · cases hc
        · cases hc
      · cases hc
    · cases hc
theorem cutAs_get {H : Heap} {N M : Nat} : ∀ {xs ys : List AV}, cutAs H N M xs = some ys → xs.length = ys.length ∧ ∀ (j : Nat) y, ys[j]? = some y → ∃ x, xs[j]? = some x ∧ cutA H N M x = some y
  | [], ys, h => by cases h; exact ⟨rfl, fun j y hy => by simp at hy⟩
  | x :: xs, ys, h => by
    simp only [cutAs] at h
    split at h
    · rename_i y ys' h1 h2
      cases h
      obtain ⟨g1, g2⟩ := cutAs_get h2
      refine ⟨by simp [g1], fun j z hz => ?_⟩
      cases j with
      | zero => simp at hz; subst hz; exact ⟨x, rfl, h1⟩
      | succ j => simpa using g2 j z (by simpa using hz)
    · cases h

theorem cutB_sound {c1 : Cx} {H : Heap} (hr : HRel c1 H) {N M : Nat} (hM : c1.M = M) {S2 : Stb} (k : Keeps c1.S S2 c1.w c1.w)
    (hS : ∀ l cs ds b o, N ≤ l → getO H l = some (.cells cs) → dats? cs = some ds → c1.ρ l = .box b → o < cs.length → S2 b o) {y y' : AV} {v : Value} (hv : VRel c1 y v) (hc : cutB H N M y = some y') :
    VRel { c1 with N := N, S := S2 } y' v := by
  unfold cutB at hc
  split at hc
  · obtain ⟨ys, h1, rfl⟩ := Option.map_eq_some_iff.1 hc
    obtain ⟨g1, g2⟩ := cutAs_get h1
    cases hv with
    | fn hz ha =>
      refine VRel.fn (by rw [hz, g1]) (fun j y u hy hu => ?_)
      obtain ⟨x0, h2, h3⟩ := g2 j y hy
      exact cutA_sound hr hM k hS (ha j x0 u h2 hu) h3
  · obtain ⟨ys, h1, rfl⟩ := Option.map_eq_some_iff.1 hc
    obtain ⟨g1, g2⟩ := cutAs_get h1
    cases hv with
    | agg hz ha =>
      refine VRel.agg (by rw [hz, g1]) (fun j y u hy hu => ?_)
      obtain ⟨x0, h2, h3⟩ := g2 j y hy
      exact cutA_sound hr hM k hS (ha j x0 u h2 hu) h3
  · exact cutA_sound hr hM k hS hv hc
theorem cutBs_get {H : Heap} {N M : Nat} : ∀ {xs ys : List AV}, cutBs H N M xs = some ys → xs.length = ys.length ∧ ∀ (j : Nat) y, ys[j]? = some y → ∃ x, xs[j]? = some x ∧ cutB H N M x = some y
  | [], ys, h => by cases h; exact ⟨rfl, fun j y hy => by simp at hy⟩
  | x :: xs, ys, h => by
    simp only [cutBs] at h
    split at h
    · rename_i y ys' h1 h2
      cases h
      obtain ⟨g1, g2⟩ := cutBs_get h2
      refine ⟨by simp [g1], fun j z hz => ?_⟩
      cases j with
      | zero => simp at hz; subst hz; exact ⟨x, rfl, h1⟩
      | succ j => simpa using g2 j z (by simpa using hz)
    · cases h

theorem cut_res {P : Program} {c : Cx} {st st' : St} {lp : List (Option LRec)} {x x' : AV} {v : Value} {w' : World} (hs : StRel P c st (lp.map fun _ => none)) (hN : c.N = st.h.length) (hpd : st.pd.length = c.M)
    (h : Res P c st st' (lp.map fun _ => none) st.h.length x v w') (hc : cutR st.h.length st.pd.length x st'.h = some x') : Res P c st { h := st'.h.take st.h.length, pd := st'.pd } (lp.map fun _ => none) st.h.length x' v w' := by
  unfold cutR at hc
  split at hc
  · rename_i e
    cases hc
    have e2 : st'.h.take st.h.length = st'.h := List.take_of_length_le (Nat.le_of_eq e)
    rw [e2]; exact h
  · split at hc
    · rename_i hne hle
      obtain ⟨c1, rfl, n1, s1, x1, hv⟩ := h
      let S2 : Stb := fun b o => c1.S b o ∨ ∃ l cs ds, st.h.length ≤ l ∧ getO st'.h l = some (.cells cs) ∧ dats? cs = some ds ∧ c1.ρ l = .box b ∧ o < cs.length
      have k : Keeps c1.S S2 c1.w c1.w := ⟨fun b o h => .inl h, fun _ _ _ => rfl⟩
      have hM : c1.M = st.pd.length := by rw [x1.m, hpd]
      have notS : ∀ {l o b z}, l < st.h.length → getO st'.h l = some o → (c1.ρ l).own = some b → ¬ c1.S b z → ¬ S2 b z := by
        rintro l o b z hl ho hb hn (h1 | ⟨l', cs, ds, h1, h2, _, h3, _⟩)
        · exact hn h1
        · have := s1.h.sep l l' _ _ b ho h2 hb (by rw [h3]; rfl)
          omega
      have le1 : Cx.le { c1 with N := st.h.length, M := c1.M } { c1 with N := st.h.length, S := S2 } := ⟨Nat.le_refl _, Nat.le_refl _, k, fun _ _ => Gh.le_refl _, fun _ _ => rfl, fun _ _ => rfl⟩
      have hr2 : HRel { c1 with N := st.h.length, S := S2 } (st'.h.take st.h.length) := by
        refine ⟨fun l cs ho => ?_, fun t e n ho => ?_, fun l es ho => ?_, fun l l' o o' b h1 h2 h3 h4 => ?_, fun b o hb => ?_, s1.h.gi.keep k⟩
        · obtain ⟨hl, h1⟩ := getO_take ho
          obtain ⟨_, b, arr, T, g1, g2, g3, g4, g5⟩ := s1.h.box l cs h1
          refine ⟨hl, b, arr, T, g1, g2, g3, fun j y u hy hu => ?_, fun o => notS hl h1 (by rw [g1]; rfl) (g5 o)⟩
          have h0 : getO st.h l = some (.cells cs) := by rw [← x1.pre l hl hl]; exact h1
          obtain ⟨_, b0, arr0, T0, k1, k2, k3, k4, k5⟩ := hs.h.box l cs h0
          have hj : j < arr0.size := Nat.lt_of_lt_of_le (List.getElem?_eq_some_iff.1 hy).1 k3
          have := (k4 j y arr0[j] hy (Array.getElem?_eq_getElem hj)).lows
          exact (VRel.shrink (N := st.h.length) (M := c1.M) (g4 j y u hy hu) (by rw [x1.m, ← hN]; exact this)).mono le1
        · obtain ⟨hl, h1⟩ := getO_take ho
          obtain ⟨_, base, cap, g1, g2, g3⟩ := s1.h.tok t e n h1
          refine ⟨hl, base, cap, g1, g2, fun hlt => ?_⟩
          obtain ⟨b, o, arr, T, g4, g5, g6, g7⟩ := g3 hlt
          exact ⟨b, o, arr, T, g4, g5, g6, fun z hz => notS hl h1 (by rw [g1, g4]; simp [Gh.own, hlt]) (g7 z hz)⟩
        · exact s1.h.nomap l es (getO_take ho).2
        · exact s1.h.sep l l' o o' b (getO_take h1).2 (getO_take h2).2 h3 h4
        · rcases hb with hb | ⟨l, cs, ds, h1, h2, _, h3, h4⟩
          · exact s1.h.stb b o hb
          · obtain ⟨_, b', arr, T, g1, g2, g3, _⟩ := s1.h.box l cs h2
            rw [h3] at g1; injection g1 with g1; subst g1
            have : o < arr.size := by omega
            exact ⟨arr[o], by show c1.w.cell? _ = _; rw [cell_of_heap g2, Array.getElem?_eq_getElem this]⟩
      have hown : ∀ b, Own { c1 with N := st.h.length, S := S2 } (st'.h.take st.h.length) (lp.map fun _ => none) b → Own c1 st'.h (lp.map fun _ => none) b := by
        rintro b (⟨l, o, h1, h2⟩ | h1)
        · exact .inl ⟨l, o, (getO_take h1).2, h2⟩
        · exact .inr h1
      refine ⟨{ c1 with N := st.h.length, S := S2 }, rfl, ?_, ⟨hr2, s1.m, s1.pd, fun i r hi => ?_, s1.all, s1.inj⟩, ⟨x1.keeps.trans k, x1.gh, ?_, x1.m, x1.lm, x1.lc, x1.blk, x1.size, fun b hb => x1.own b (hown b hb), x1.os, x1.tape, x1.output, fun l h1 h2 => ?_, ?_, fun l h1 h2 h3 => ?_, fun b z hz => ?_, x1.pdx⟩, ?_⟩
      · show st.h.length = _
        rw [List.length_take]; omega
      · rw [List.getElem?_map] at hi
        cases hli : lp[i]? with
        | none => rw [hli] at hi; simp at hi
        | some o => rw [hli] at hi; simp at hi
      · show c.N ≤ st.h.length
        omega
      · show getO (st'.h.take _) l = _
        rw [getO_take_lt h1]; exact x1.pre l h1 h2
      · show _ ≤ (st'.h.take _).length
        rw [List.length_take]; omega
      · obtain ⟨e1, e2⟩ := x1.dead l h1 h2 h3
        refine ⟨e1, ?_⟩
        show getO (st'.h.take _) l = none
        rw [getO_take_lt (by omega)]; exact e2
      · rcases hz with hz | ⟨l, cs, ds, h1, h2, _, h3, h4⟩
        · exact x1.sx b z hz
        · exact .inr (x1.own b (.inl ⟨l, _, h2, by rw [h3]; rfl⟩))
      · have hS : ∀ l cs ds b o, st.h.length ≤ l → getO st'.h l = some (.cells cs) → dats? cs = some ds → c1.ρ l = .box b → o < cs.length → S2 b o := fun l cs ds b o h1 h2 h3 h4 h5 => .inr ⟨l, cs, ds, h1, h2, h3, h4, h5⟩
        split at hc
        · rename_i us
          obtain ⟨ys, h1, rfl⟩ := Option.map_eq_some_iff.1 hc
          obtain ⟨g1, g2⟩ := cutBs_get h1
          cases hv with
          | tup hz ha =>
            refine VRel.tup (by rw [hz, g1]) (fun j y u hy hu => ?_)
            obtain ⟨x0, h2, h3⟩ := g2 j y hy
            exact cutB_sound s1.h hM k hS (ha j x0 u h2 hu) h3
        · exact cutB_sound s1.h hM k hS hv hc
    · cases hc

/-- A call among the operations in any order: it is made in what there was, and keeps it. -/
theorem pre_call {P : Program} {T : Tbl} {n : Nat} (hcall : CallOK P T n) {c0 c : Cx} {st : St} {lp : List (Option LRec)} (s0 : StRel P c0 st lp) (hN0 : c0.N = st.h.length) {m wp : Nat} {hD : Heap} (hr : HRel c hD)
    (hx : HExt (c0.room c0.N m) c st.h hD wp) (hN : c.N = st.h.length + m) {hE : Heap} (hEn : hE.length = st.h.length) (hEs : ∀ l o, getO hE l = some o → getO st.h l = some o) (hcells : ∀ l cs, getO hE l = some (.cells cs) → getO hD l = some (.cells cs))
    (hnone : ∀ l, getO hD l = none → getO hE l = none)
    {fv : AV} {args : List AV} {x x0 : AV} {st0 : St} (hev : evCall T n { lp := lp.map fun _ => none, wp := st.h.length } fv args { h := hE.map hideT, pd := st.pd } = some (x0, st0)) (hcut : cutR st.h.length st.pd.length x0 st0.h = some x)
    (hl : ∀ y ∈ fv :: args, y.lows st.h.length st.pd.length = true) {fvv : Value} {vs : Array Value} (hf : VRel c fv fvv) (hz : vs.size = args.length) (ha : ∀ (j : Nat) y v, args[j]? = some y → vs[j]? = some v → VRel c y v) :
    Goes P c.w fvv vs (fun v w' => ∃ c', c'.w = w' ∧ HRel c' hD ∧ HExt c c' hD hD wp ∧ c'.N = c.N ∧ (∀ l, st.h.length ≤ l → c'.ρ l = c.ρ l) ∧ VRel c' x v) := by
  have hM : c.M = c0.M := hx.m
  have hpd : st.pd.length = c.M := by rw [hM]; exact s0.pd
  -- the context without the new places
  have hr1 : HRel { c with N := st.h.length } (hE.map hideT) := by
    have back : ∀ {l o}, getO (hE.map hideT) l = some o → ∃ cs, o = .cells cs ∧ getO hE l = some (.cells cs) := by
      intro l o h
      rw [getO_hide] at h
      cases ho : getO hE l with
      | none => rw [ho] at h; cases h
      | some ob =>
        rw [ho] at h
        cases ob with
        | cells cs => cases h; exact ⟨cs, rfl, rfl⟩
        | tok e n => cases h
        | map es => exact absurd (hEs _ _ ho) (s0.h.nomap l es)
    refine ⟨fun l cs h => ?_, fun t e k h => ?_, fun l es h => ?_, fun l l' o o' b h1 h2 h3 h4 => ?_, hr.stb, hr.gi⟩
    · obtain ⟨cs', e, h1⟩ := back h
      cases e
      obtain ⟨_, b, arr, T', g1, g2, g3, g4, g5⟩ := hr.box l cs (hcells l cs h1)
      refine ⟨by have := getO_lt h1; show l < st.h.length; omega, b, arr, T', g1, g2, g3, fun j y v hy hv => ?_, g5⟩
      obtain ⟨_, b0, arr0, T0, k1, k2, k3, k4, k5⟩ := s0.h.box l cs (hEs _ _ h1)
      have hj : j < arr0.size := Nat.lt_of_lt_of_le (List.getElem?_eq_some_iff.1 hy).1 k3
      have := (k4 j y arr0[j] hy (Array.getElem?_eq_getElem hj)).lows
      exact VRel.shrink (N := st.h.length) (M := c.M) (g4 j y v hy hv) (by rw [hM, ← hN0]; exact this)
    · obtain ⟨cs', e', _⟩ := back h; cases e'
    · obtain ⟨cs', e', _⟩ := back h; cases e'
    · obtain ⟨cs1, rfl, k1⟩ := back h1
      obtain ⟨cs2, rfl, k2⟩ := back h2
      exact hr.sep l l' _ _ b (hcells _ _ k1) (hcells _ _ k2) h3 h4
  have hs1 : StRel P { c with N := st.h.length } { h := hE.map hideT, pd := st.pd } (lp.map fun _ => none) := by
    refine ⟨hr1, ?_, hpd, fun i r hi => ?_, fun i hi => ?_, fun i j hi hj h => ?_⟩
    · rw [List.length_map, s0.m, ← hM]
    · rw [List.getElem?_map] at hi
      cases hli : lp[i]? with
      | none => rw [hli] at hi; simp at hi
      | some o => rw [hli] at hi; simp at hi
    · obtain ⟨L, hL⟩ := s0.all i (by rw [← hM]; exact hi)
      refine ⟨L, ?_⟩
      show c.w.heap[c.lm i]? = _
      rw [hx.lm]
      exact hx.loop (s0.h.room m) hL
    · have e : ∀ k, c.lm k = c0.lm k := fun k => by rw [hx.lm]; rfl
      exact s0.inj i j (by rw [← hM]; exact hi) (by rw [← hM]; exact hj) (by rw [← e, ← e]; exact h)
  obtain ⟨st', hst'⟩ : ∃ st' : St, st' = { h := st0.h.take st.h.length, pd := st0.pd } := ⟨_, rfl⟩
  have hgo := hcall _ fv args _ x0 st0 hev { c with N := st.h.length } fvv vs hs1 (by simp [hEn]) (by simp [hEn])
    (VRel.shrink (N := st.h.length) (M := c.M) hf (by rw [← hpd]; exact hl fv (by simp))) hz
    (fun j y v hy hv => VRel.shrink (N := st.h.length) (M := c.M) (ha j y v hy hv) (by rw [← hpd]; exact hl y (by simp [List.mem_of_getElem? hy])))
  have key : ∀ v w', Res P { c with N := st.h.length } { h := hE.map hideT, pd := st.pd } st0 (lp.map fun _ => none) st.h.length x0 v w' →
      ∃ c', c'.w = w' ∧ HRel c' hD ∧ HExt c c' hD hD wp ∧ c'.N = c.N ∧ (∀ l, st.h.length ≤ l → c'.ρ l = c.ρ l) ∧ VRel c' x v := by
    rintro v w' hres
    have hlen : st'.h.length = st.h.length := by
      have hle : st.h.length ≤ st0.h.length := by
        obtain ⟨c1, _, _, _, x1, _⟩ := hres
        have := x1.len
        simpa [hEn] using this
      rw [hst']; simp; omega
    have hres' : Res P { c with N := st.h.length } { h := hE.map hideT, pd := st.pd } st' (lp.map fun _ => none) st.h.length x v w' := by
      have hq : ({ h := hE.map hideT, pd := st.pd } : St).h.length = st.h.length := by simp [hEn]
      have := cut_res (x' := x) hs1 (by rw [hq]) hpd (by rw [hq]; exact hres) (by rw [hq]; exact hcut)
      rw [hq] at this
      rw [hst']; exact this
    obtain ⟨c1, rfl, n1, s1, x1, hv⟩ := hres'
    have hown1 : ∀ b, Own { c with N := st.h.length } (hE.map hideT) (lp.map fun _ => none) b → ∃ l cs, getO hE l = some (.cells cs) ∧ (c.ρ l).own = some b := by
      rintro b (⟨l, o, h1, h2⟩ | ⟨i, r, h1, _⟩)
      · rw [getO_hide] at h1
        cases ho : getO hE l with
        | none => rw [ho] at h1; cases h1
        | some ob =>
          cases ob with
          | cells cs => exact ⟨l, cs, ho, h2⟩
          | tok e n => rw [ho] at h1; cases h1
          | map es => exact absurd (hEs _ _ ho) (s0.h.nomap l es)
      · rw [List.getElem?_map] at h1
        cases hli : lp[i]? with
        | none => rw [hli] at h1; simp at h1
        | some o => rw [hli] at h1; simp at h1
    have hb0 : c.N ≥ st.h.length := by omega
    let c' : Cx := { N := c.N, M := c.M, S := c1.S, ρ := fun l => if l < st.h.length then c1.ρ l else c.ρ l, lm := c.lm, lc := c.lc, w := c1.w }
    have hρlow : ∀ l, l < st.h.length → c'.ρ l = c1.ρ l := fun l hl => by simp only [c', if_pos hl]
    have hρhigh : ∀ l, st.h.length ≤ l → c'.ρ l = c.ρ l := fun l hl => by simp only [c', if_neg (Nat.not_lt.2 hl)]
    have le0 : c.le c' := ⟨Nat.le_refl _, Nat.le_refl _, x1.keeps, fun l _ => by
      rcases Nat.lt_or_ge l st.h.length with h1 | h1
      · rw [hρlow l h1]; exact x1.gh l h1
      · rw [hρhigh l h1]; exact Gh.le_refl _, fun _ _ => rfl, fun _ _ => rfl⟩
    have le1 : c1.le c' := ⟨by rw [n1, hlen]; exact hb0, by rw [x1.m]; exact Nat.le_refl _, .refl _ _, fun l hl => by
      rw [n1, hlen] at hl
      rw [hρlow l hl]; exact Gh.le_refl _, fun i hi => (x1.lm i (by rw [x1.m] at hi; exact hi)).symm, fun i hi => (x1.lc i (by rw [x1.m] at hi; exact hi)).symm⟩
    -- what stands for the objects of hD is what stood
    have hsame : ∀ {l o}, getO hD l = some o → c'.ρ l = c.ρ l := by
      intro l o ho
      rcases Nat.lt_or_ge l st.h.length with h1 | h1
      · rw [hρlow l h1]
        cases o with
        | cells cs =>
          obtain ⟨_, b, arr, T', g1, _⟩ := hr.box l cs ho
          have := x1.gh l h1
          rw [show Cx.ρ { c with N := st.h.length } l = c.ρ l from rfl, g1] at this
          rw [g1]; exact this
        | map es => exact absurd ho (hr.nomap l es)
        | tok e k =>
          obtain ⟨_, base, cap, g1, _⟩ := hr.tok l e k ho
          have hd : getO (hE.map hideT) l = none := by
            rw [getO_hide]
            cases hq : getO hE l with
            | none => rfl
            | some ob =>
              cases ob with
              | tok _ _ => rfl
              | cells cs => have := hcells l cs hq; rw [ho] at this; cases this
              | map es => exact absurd (hEs _ _ hq) (s0.h.nomap l es)
          exact (x1.dead l h1 hd (by rw [show Cx.ρ { c with N := st.h.length } l = c.ρ l from rfl, g1]; intro h; cases h)).1
      · exact hρhigh l h1
    -- blocks of all objects but the cells of before stay
    have hblk : ∀ {l o b}, getO hD l = some o → (c.ρ l).own = some b → (∀ cs, getO hE l ≠ some (.cells cs)) → b < c.w.heap.size → c1.w.heap[b]? = c.w.heap[b]? := by
      intro l o b ho hb hn hlt
      refine x1.blk b hlt fun h => ?_
      obtain ⟨l', cs, h1, h2⟩ := hown1 b h
      have := hr.sep l l' _ _ b ho (hcells _ _ h1) hb h2
      subst this
      exact hn cs h1
    have hS : ∀ {l o b}, getO hD l = some o → (c.ρ l).own = some b → (∀ cs, getO hE l ≠ some (.cells cs)) → b < c.w.heap.size → ∀ z, c1.S b z → c.S b z := by
      intro l o b ho hb hn hlt z hz
      rcases x1.sx b z hz with h1 | h1 | h1
      · exact h1
      · obtain ⟨l', cs, h2, h3⟩ := hown1 b h1
        have := hr.sep l l' _ _ b ho (hcells _ _ h2) hb h3
        subst this
        exact absurd h2 (hn cs)
      · have : c.w.heap.size ≤ b := h1
        omega
    refine ⟨c', rfl, ⟨fun l cs ho => ?_, fun t e k ho => ?_, hr.nomap, fun l l' o o' b h1 h2 h3 h4 => ?_, s1.h.stb, s1.h.gi⟩, ?_, rfl, hρhigh, hv.mono le1⟩
    · by_cases hq : ∃ cs', getO hE l = some (.cells cs')
      · obtain ⟨cs', hq⟩ := hq
        have e := hcells l cs' hq
        rw [ho] at e; cases e
        have hl : l < st.h.length := by rw [← hEn]; exact getO_lt hq
        have h1 : getO st'.h l = some (.cells cs) := by
          rw [x1.pre l hl (by simpa [hEn] using hl)]
          show getO (hE.map hideT) l = _
          rw [getO_hide, hq]
        obtain ⟨_, b, arr, T', g1, g2, g3, g4, g5⟩ := s1.h.box l cs h1
        exact ⟨by show l < c.N; omega, b, arr, T', by rw [hρlow l hl]; exact g1, g2, g3, fun j y u hy hu => (g4 j y u hy hu).mono le1, g5⟩
      · obtain ⟨hl, b, arr, T', g1, g2, g3, g4, g5⟩ := hr.box l cs ho
        have hn : ∀ cs', getO hE l ≠ some (.cells cs') := fun cs' h => hq ⟨cs', h⟩
        have hb : (c.ρ l).own = some b := by rw [g1]; rfl
        have hlt := (Array.getElem?_eq_some_iff.1 g2).1
        exact ⟨hl, b, arr, T', by rw [hsame ho]; exact g1, by rw [← g2]; exact hblk ho hb hn hlt, g3, fun j y u hy hu => (g4 j y u hy hu).mono le0, fun z hz => g5 z (hS ho hb hn hlt z hz)⟩
    · obtain ⟨hl, base, cap, g1, g2, g3⟩ := hr.tok t e k ho
      refine ⟨hl, base, cap, by rw [hsame ho]; exact g1, g2, fun hlt => ?_⟩
      obtain ⟨b, o, arr, T', g4, g5, g6, g7⟩ := g3 hlt
      have hn : ∀ cs', getO hE t ≠ some (.cells cs') := fun cs' h => by have := hcells t cs' h; rw [ho] at this; cases this
      have hb : (c.ρ t).own = some b := by rw [g1, g4]; simp [Gh.own, hlt]
      have hsz := (Array.getElem?_eq_some_iff.1 g5).1
      exact ⟨b, o, arr, T', g4, by rw [← g5]; exact hblk ho hb hn hsz, g6, fun z hz hs => g7 z hz (hS ho hb hn hsz z hs)⟩
    · rw [hsame h1] at h3
      rw [hsame h2] at h4
      exact hr.sep l l' o o' b h1 h2 h3 h4
    · have hO : ∀ b, OwnH c' hD b → OwnH c hD b := by
        rintro b ⟨l, o, h1, h2⟩
        exact ⟨l, o, h1, by rw [← hsame h1]; exact h2⟩
      have hO1 : ∀ b, Own { c with N := st.h.length } (hE.map hideT) (lp.map fun _ => none) b → OwnH c hD b := by
        intro b hb
        obtain ⟨l, cs, h1, h2⟩ := hown1 b hb
        exact ⟨l, _, hcells l cs h1, h2⟩
      refine ⟨x1.keeps, le0.gh, Nat.le_refl _, rfl, rfl, rfl, fun b hb ho => x1.blk b hb fun h => ho (hO1 b h), x1.size, fun b hb => .inl (hO b hb), x1.os, x1.tape, x1.output, fun _ _ _ => rfl, Nat.le_refl _, fun l hl h0 hn => ?_, fun b z hz => ?_⟩
      · refine ⟨?_, h0⟩
        rcases Nat.lt_or_ge l st.h.length with h1 | h1
        · rw [hρlow l h1]
          refine (x1.dead l h1 ?_ hn).1
          show getO (hE.map hideT) l = none
          rw [getO_hide, hnone l h0]
        · exact hρhigh l h1
      · rcases x1.sx b z hz with h1 | h1 | h1
        · exact .inl h1
        · exact .inr (.inl (hO1 b h1))
        · exact .inr (.inr h1)
  rcases hgo with ⟨g, arr, h1, h2, h3⟩ | ⟨l, fn, tmps, asg, body, h1, h2, h3⟩
  · exact .inl ⟨g, arr, h1, h2, h3.mono (by rintro e w' ⟨u, rfl, hu⟩; exact ⟨u, rfl, key u w' hu⟩)⟩
  · exact .inr ⟨l, fn, tmps, asg, body, h1, h2, h3.mono (by rintro e w' ⟨u, rfl, hu⟩; exact ⟨u, rfl, key u w' hu⟩)⟩
end Go.Proofs.YtfifgiopdbdeoaaDoor.Lite
namespace Go.Proofs.YtfifgiopdbdeoaaDoor.Lite
open Go Go.RowKit

section
variable {P : Program} {T : Tbl} {n : Nat} {nt : Nat} {ops : Array Oper} {pre : List COp}

theorem chkPre_get {os : List Oper} (h : chkPre os pre = true) {i : Nat} {o : Oper} {co : COp} (ho : os[i]? = some o) (hc : pre[i]? = some co) :
    (∀ p ∈ deps o, p < i) ∧ ∀ p cp, pre[p]? = some cp → chkPair os i p o co cp = true := by
  unfold chkPre at h
  rw [List.all_eq_true] at h
  have hi : i < pre.length := (List.getElem?_eq_some_iff.1 hc).1
  have := h i (List.mem_range.2 hi)
  rw [ho, hc] at this
  simp only [Bool.and_eq_true, List.all_eq_true] at this
  refine ⟨fun p hp => by simpa using this.1 p hp, fun p cp hp => ?_⟩
  have h2 := this.2 p (List.mem_range.2 (List.getElem?_eq_some_iff.1 hp).1)
  rw [hp] at h2
  exact h2

def Closed (ops : Array Oper) (m : Nat) (D : Nat → Bool) : Prop := ∀ i o, i < m → D i = true → ops[i]? = some o → ∀ p ∈ deps o, D p = true

theorem waits_gen {os : List Oper} {G : Nat → Prop} (hcl : ∀ q oq, G q → os[q]? = some oq → ∀ p ∈ deps oq, G p) : ∀ (n : Nat) {i p : Nat} {o : Oper}, os[i]? = some o → (∀ q ∈ deps o, G q) → waitsD os n i p = true → G p
  | 0, i, p, o, ho, hd, hw => by simp [waitsD] at hw
  | n + 1, i, p, o, ho, hd, hw => by
    unfold waitsD at hw
    rw [ho] at hw
    simp only [Bool.or_eq_true, List.contains_iff_mem, List.any_eq_true] at hw
    rcases hw with h | ⟨q, hq, h⟩
    · exact hd p h
    · cases hoq : os[q]? with
      | none =>
        cases n with
        | zero => simp [waitsD] at h
        | succ n => simp [waitsD, hoq] at h
      | some oq => exact waits_gen hcl n hoq (hcl q oq (hd q hq) hoq) h
theorem waits_in {D : Nat → Bool} {m i p : Nat} {o : Oper} (hcl : Closed ops m D) (hall : ∀ j oj, j < m → ops[j]? = some oj → ∀ q ∈ deps oj, q < j) (him : i < m) (ho : ops[i]? = some o) (hlt : ∀ q ∈ deps o, q < i) (hd : ∀ q ∈ deps o, D q = true) (hw : waits ops.toList i p = true) : D p = true :=
  (waits_gen (G := fun q => q < m ∧ D q = true) (fun q oq hq hoq p hp => ⟨Nat.lt_trans (hall q oq hq.1 (by simpa using hoq) p hp) hq.1, hcl q oq hq.1 hq.2 (by simpa using hoq) p hp⟩) _ (by simpa using ho : ops.toList[i]? = some o) (fun q hq => ⟨Nat.lt_trans (hlt q hq) him, hd q hq⟩) hw).2

variable {call : Caller} {hP : Nat → Heap} {hB : Heap} {wp : Nat} {pd : List (Option Ex)} {es : Nat → Env} {hs : Nat → Heap} {vs : Nat → AV} {wr : Nat → Option (Nat × AObj)}

/-- What one operation finds, and what the picture is behind it. -/
structure Finds (ops : Array Oper) (pre : List COp) (hB : Heap) (env : Env) (es : Nat → Env) (hs : Nat → Heap) (vs : Nat → AV) (wr : Nat → Option (Nat × AObj)) (D : Nat → Bool) (i : Nat) (co : COp) : Prop where
  ev : ∀ t ∈ co.temps, look (es i) t = pic (wrE pre vs) (look env) D pre.length t
  tok : co.k.isTok = true → ∀ t o, getO (hs i) t = some o → (∀ q cq, t = hB.length + q → pre[q]? = some cq → cq.k.isNew = true → D q = true) → pic wr (getO hB) D pre.length t = some o
  out : ∀ t, pic (wrE pre vs) (look env) (setD D i) pre.length t = if co.dst = some t then some (vs i) else pic (wrE pre vs) (look env) D pre.length t
  outH : ∀ l, pic wr (getO hB) (setD D i) pre.length l = match wr i with | some (l', o) => if l' = l then some o else pic wr (getO hB) D pre.length l | none => pic wr (getO hB) D pre.length l
  free : pic wr (getO hB) D pre.length (hB.length + i) = none
  wlt : ∀ l o, wr i = some (l, o) → l < hB.length + pre.length

theorem finds (hchk : chkPre ops.toList pre = true) (tr : Tr call hP hB wp pd pre es hs vs wr) {env : Env} (he0 : es 0 = env) {D : Nat → Bool} (hcl : Closed ops pre.length D) {i : Nat} {o : Oper} {co : COp} (ho : ops[i]? = some o) (hc : pre[i]? = some co)
    (hD : D i = false) (hd : ∀ p ∈ deps o, D p = true) (htg : ∀ p l o q cq, D p = true → wr p = some (l, o) → l = hB.length + q → pre[q]? = some cq → cq.k.isNew = true → D q = true) : Finds ops pre hB env es hs vs wr D i co := by
  have hln : hB.length = hB.length := rfl
  have hi : i < pre.length := (List.getElem?_eq_some_iff.1 hc).1
  have hoL : ops.toList[i]? = some o := by simpa using ho
  obtain ⟨hlt, hpair⟩ := chkPre_get hchk hoL hc
  have getc : ∀ {p : Nat}, p < pre.length → ∃ cp, pre[p]? = some cp := fun hp => ⟨_, List.getElem?_eq_getElem hp⟩
  have wrE_inv : ∀ {p t x}, wrE pre vs p = some (t, x) → ∃ cp, pre[p]? = some cp ∧ cp.dst = some t ∧ x = vs p := by
    intro p t x h
    unfold wrE at h
    cases hp : pre[p]? with
    | none => rw [hp] at h; cases h
    | some cp =>
      rw [hp] at h
      simp only [Option.bind_some] at h
      cases hdst : cp.dst with
      | none => rw [hdst] at h; cases h
      | some t' => rw [hdst] at h; cases h; exact ⟨cp, rfl, hdst, rfl⟩
  have pair_dst : ∀ {p cp t}, pre[p]? = some cp → cp.dst = some t → p ≠ i → (t ∉ co.temps ∨ (p < i ∧ p ∈ deps o)) ∧ co.dst ≠ some t := by
    intro p cp t hp hdst hne
    have := hpair p cp hp
    unfold chkPair at this
    rw [hdst] at this
    simp only [Bool.and_eq_true, Bool.or_eq_true, beq_iff_eq, hne, false_or, Bool.not_eq_true', decide_eq_true_eq, bne_iff_ne, ne_eq] at this
    refine ⟨?_, fun e => this.1.2 e.symm⟩
    rcases this.1.1 with h | ⟨h1, h2⟩
    · exact .inl (by simpa using h)
    · exact .inr ⟨h1, by simpa using h2⟩
  -- tokens: those before are all taken, none behind is
  have tok_before : ∀ {p cp}, co.k.isTok = true → pre[p]? = some cp → cp.k.isTok = true → p < i → D p = true := by
    intro p cp ht hp htp hpi
    have := hpair p cp hp
    unfold chkPair at this
    simp only [Bool.and_eq_true, ht, htp, decide_eq_true hpi, Bool.and_self, Bool.not_true, Bool.false_or] at this
    exact waits_in hcl (fun j oj hj hoj => (chkPre_get hchk (by simpa using hoj : ops.toList[j]? = some oj) (List.getElem?_eq_getElem hj)).1) hi ho hlt hd this.2
  have tok_behind : ∀ {p cp}, co.k.isTok = true → pre[p]? = some cp → cp.k.isTok = true → i < p → D p = true → False := by
    intro p cp ht hp htp hpi hDp
    obtain ⟨op, hop⟩ : ∃ op, ops[p]? = some op := by
      unfold chkPre at hchk
      rw [List.all_eq_true] at hchk
      have := hchk p (List.mem_range.2 (List.getElem?_eq_some_iff.1 hp).1)
      cases hq : ops.toList[p]? with
      | none => rw [hq] at this; simp at this
      | some op => exact ⟨op, by simpa using hq⟩
    have hpm : p < pre.length := (List.getElem?_eq_some_iff.1 hp).1
    obtain ⟨hlt2, hpair2⟩ := chkPre_get hchk (by simpa using hop : ops.toList[p]? = some op) hp
    have := hpair2 i co hc
    unfold chkPair at this
    simp only [Bool.and_eq_true, ht, htp, decide_eq_true hpi, Bool.and_self, Bool.not_true, Bool.false_or] at this
    have := waits_in hcl (fun j oj hj hoj => (chkPre_get hchk (by simpa using hoj : ops.toList[j]? = some oj) (List.getElem?_eq_getElem hj)).1) hpm hop hlt2 (hcl p op hpm hDp hop) this.2
    rw [hD] at this; cases this
  have wrs : ∀ {p : Nat} {cp : COp} {l : Nat} {ob : AObj}, pre[p]? = some cp → wr p = some (l, ob) → (l = hB.length + p ∧ (cp.k.isNew = true ∨ cp.k.isTok = true)) ∨ (cp.k.isTok = true ∧ ∃ o, getO (hs p) l = some o) := by
    intro p cp l ob hp hw
    have := tr.op p cp hp
    rw [hw] at this
    rcases this.writes with ⟨h1, h2⟩ | ⟨h1, e, n, _, _, h2, _⟩ | ⟨h1, _, cs, _, h2, _⟩
    · exact .inl ⟨by rw [h1, tr.ln p], by rcases h2 with ⟨h2, _⟩ | ⟨h2, _⟩; exact .inl h2; exact .inr h2⟩
    · exact .inr ⟨h1, _, h2⟩
    · exact .inr ⟨h1, _, h2⟩
  have bnd : ∀ {p l : Nat} {ob : AObj}, p ≤ pre.length → getO (hs p) l = some ob → l < hB.length + p := fun hp h => Nat.lt_of_lt_of_le (getO_lt h) (tr.bound hp)
  refine ⟨fun t ht => ?_, fun ht t ob hg hnw => ?_, fun t => ?_, fun l => ?_, ?_, fun l ob hw => ?_⟩
  · rw [tr.picE (Nat.le_of_lt hi), he0]
    rw [pic_stop (D := D) (i := i) (k := pre.length) (Nat.le_of_lt hi) fun p x hp _ hDp hw => ?_]
    · refine pic_congr fun p x hp hw => ?_
      obtain ⟨cp, h1, h2, _⟩ := wrE_inv hw
      rcases (pair_dst h1 h2 (by omega)).1 with h3 | ⟨_, h3⟩
      · exact absurd ht h3
      · exact (hd p h3).symm
    · obtain ⟨cp, h1, h2, _⟩ := wrE_inv hw
      have hne : p ≠ i := by rintro rfl; rw [hD] at hDp; cases hDp
      rcases (pair_dst h1 h2 hne).1 with h3 | ⟨h3, _⟩
      · exact h3 ht
      · omega
  · have hb := bnd (Nat.le_of_lt hi) hg
    rw [tr.picT (Nat.le_of_lt hi)] at hg
    rw [← hg, pic_stop (D := D) (i := i) (k := pre.length) (Nat.le_of_lt hi) fun p x hp hpm hDp hw => ?_]
    · refine (pic_congr fun p x hp hw => ?_).symm
      obtain ⟨cp, hcp⟩ := getc (Nat.lt_trans hp hi)
      rcases wrs hcp hw with ⟨h1, h2 | h2⟩ | ⟨h2, _⟩
      · exact (hnw p cp (by rw [hln]; exact h1) hcp h2).symm
      · exact (tok_before ht hcp h2 hp).symm
      · exact (tok_before ht hcp h2 hp).symm
    · have hne : p ≠ i := by rintro rfl; rw [hD] at hDp; cases hDp
      obtain ⟨cp, hcp⟩ := getc hpm
      rcases wrs hcp hw with ⟨h1, _⟩ | ⟨h2, _⟩
      · omega
      · exact tok_behind ht hcp h2 (by omega) hDp
  · by_cases hdst : co.dst = some t
    · rw [if_pos hdst]
      refine pic_set hi (by unfold wrE; rw [hc]; simp [hdst]) fun p y hp hpm hDp hw => ?_
      obtain ⟨cp, h1, h2, _⟩ := wrE_inv hw
      exact (pair_dst h1 h2 (by omega)).2 hdst
    · rw [if_neg hdst]
      refine pic_set_other fun x hw => ?_
      obtain ⟨cp, h1, h2, _⟩ := wrE_inv hw
      rw [hc] at h1; cases h1
      exact hdst h2
  · cases hw : wr i with
    | none => exact pic_set_other fun x h => by rw [hw] at h; cases h
    | some q =>
      obtain ⟨l', ob⟩ := q
      simp only
      split
      · rename_i e
        subst e
        refine pic_set hi hw fun p y hp hpm hDp hwp => ?_
        obtain ⟨cp, hcp⟩ := getc hpm
        rcases wrs hcp hwp with ⟨h1, _⟩ | ⟨h2, o', h3⟩
        · rcases wrs hc hw with ⟨h4, _⟩ | ⟨_, _, h4⟩
          · omega
          · have := bnd (Nat.le_of_lt hi) h4; omega
        · rcases wrs hc hw with ⟨h4, h5 | h5⟩ | ⟨h5, _⟩
          · have := htg p _ _ i co hDp hwp (by rw [hln]; exact h4) hc h5; rw [hD] at this; cases this
          · exact tok_behind h5 hcp h2 hp hDp
          · exact tok_behind h5 hcp h2 hp hDp
      · rename_i e
        exact pic_set_other fun x h => by rw [hw] at h; cases h; exact e rfl
  · rw [hln, pic_stop (i := 0) (Nat.zero_le _) fun p x _ hpm hDp hw => ?_]
    · simp only [pic]
      unfold getO
      rw [List.getElem?_eq_none (by omega)]; rfl
    · have hne : p ≠ i := by rintro rfl; rw [hD] at hDp; cases hDp
      obtain ⟨cp, hcp⟩ := getc hpm
      rcases wrs hcp hw with ⟨h1, _⟩ | ⟨h2, o3, h3⟩
      · omega
      · -- the place of i is written by an earlier growing only
        have hb := bnd (Nat.le_of_lt hpm) h3
        have hip : i < p := by omega
        -- then i itself grows or is new
        rw [tr.picT (Nat.le_of_lt hpm)] at h3
        have h4 : ∃ ob, wr i = some (hB.length + i, ob) := by
          apply Classical.byContradiction
          intro hno
          have hz : pic wr (getO hB) (fun _ => true) p (hB.length + i) = getO hB (hB.length + i) := by
            apply pic_stop (i := 0) (Nat.zero_le _)
            intro q y _ hq _ hwq
            obtain ⟨cq, hcq⟩ := getc (Nat.lt_trans hq hpm)
            rcases wrs hcq hwq with ⟨h5, _⟩ | ⟨_, o5, h5⟩
            · have : q = i := by omega
              subst this
              exact hno ⟨y, hwq⟩
            · exact absurd h5 (by
                have hfree : ∀ q', q' ≤ q → getO (hs q') (hB.length + i) = none := by
                  intro q'
                  induction q' with
                  | zero => intro _; rw [tr.z]; unfold getO; rw [List.getElem?_eq_none (by omega)]; rfl
                  | succ q' ih =>
                    intro hq'
                    obtain ⟨cq', hcq'⟩ := getc (show q' < pre.length by omega)
                    rw [(tr.op q' cq' hcq').eff, getO_app1]
                    split
                    · rename_i l'' o'' hw''
                      split
                      · rename_i e''
                        subst e''
                        rcases wrs hcq' hw'' with ⟨h6, _⟩ | ⟨_, _, h6⟩
                        · have : q' = i := by omega
                          subst this
                          exact absurd ⟨_, hw''⟩ hno
                        · rw [ih (by omega)] at h6; cases h6
                      · exact ih (by omega)
                    · exact ih (by omega)
                rw [hfree q (Nat.le_refl _)]; intro h; cases h)
          rw [hz] at h3
          have := getO_lt h3
          omega
        obtain ⟨ob, h4⟩ := h4
        rcases wrs hc h4 with ⟨_, h5 | h5⟩ | ⟨h5, _⟩
        · have := htg p _ _ i co hDp hw (by rw [hln]) hc h5; rw [hD] at this; cases this
        · exact tok_behind h5 hcp h2 hip hDp
        · exact tok_behind h5 hcp h2 hip hDp
  · rcases wrs hc hw with ⟨h1, _⟩ | ⟨_, _, h1⟩
    · omega
    · have := bnd (Nat.le_of_lt hi) h1; omega
end
end Go.Proofs.YtfifgiopdbdeoaaDoor.Lite
namespace Go.Proofs.YtfifgiopdbdeoaaDoor.Lite
open Go Go.RowKit

section
variable {P : Program} {T : Tbl} {n : Nat} {nt : Nat} {ops : Array Oper} {pre suf : List COp}
variable {es : Nat → Env} {hs : Nat → Heap} {vs : Nat → AV} {wr : Nat → Option (Nat × AObj)}

theorem frz_sound {c : Cx} {N : Nat} {x : AV} {v : Value} (h : VRel c x v) : VRel c (frz N x) v := by
  cases x with
  | ws rows t =>
    simp only [frz]
    split
    · exact h
    · cases h with
      | ws _ h1 _ _ _ => exact .d h1
  | _ => exact h
theorem chkK_st {o : Oper} {n : Nat} {x v : X} (hk : chkK P o (.st n x v) = true) : ∃ y, chkX y x = true := by
  unfold chkK at hk
  split at hk <;> try (cases hk; done)
  all_goals first | (rename_i hq; cases hq; done) | skip
  rename_i t x0 v0 n' y u hoo hke
  cases hke
  simp only [Bool.and_eq_true] at hk
  exact ⟨_, hk.1.2⟩
theorem chkK_app {o : Oper} {e : Nat} {x y : X} (hk : chkK P o (.app e x y) = true) : ∃ z, chkX z x = true := by
  unfold chkK at hk
  split at hk <;> try (cases hk; done)
  all_goals first | (rename_i hq; cases hq; done) | skip
  rename_i args ts e' x' y' hoo hke
  cases hke
  split at hk
  · simp only [Bool.and_eq_true] at hk
    exact ⟨_, hk.1.2⟩
  · cases hk

theorem pre_op (hcall : CallOK P T n) (hchk : chkPre ops.toList pre = true) (hops : chkOps P nt ops ops.toList (pre ++ suf) = true) {rd : Rd} {c0 : Cx} {st : St} (s0 : StRel P c0 st rd.lp) (hN0 : c0.N = st.h.length) (hwp : rd.wp ≤ st.h.length)
    {hP : Nat → Heap} (hvis : ∀ i p l cs cp, i < pre.length → pre[p]? = some cp → cp.k.isTok = true → getO (hP i) l = some (.cells cs) → getO (hP p) l = some (.cells cs) ∨ waits ops.toList p i = true) (tr : Tr (evCall T n { lp := rd.lp.map fun _ => none, wp := st.h.length }) hP st.h rd.wp st.pd pre es hs vs wr) {env : Env} (he0 : es 0 = env) {D : Nat → Bool} (hcl : Closed ops pre.length D) {i : Nat} {o : Oper} {co : COp} (ho : ops[i]? = some o) (hc : pre[i]? = some co)
    (hD : D i = false) (hd : ∀ p ∈ deps o, D p = true) {df : List Deferred} {c : Cx} {a : Act} {h : Heap} (inv : PInv nt pre.length c0 st.h rd.wp env pre vs wr df D c a h) (ro : Option Nat) {next : Act → World → Prop} {Q : Exit → Act → World → Prop}
    (hnext : ∀ c' a' h', PInv nt pre.length c0 st.h rd.wp env pre vs wr df (setD D i) c' a' h' → next a' c'.w) : wpOpIn (FW ro) 0 P ops Q i next a c.w := by
  have hi : i < pre.length := (List.getElem?_eq_some_iff.1 hc).1
  have hlnE := tr.ln i
  have hcD : ∀ l cs, getO (hP i) l = some (.cells cs) → pic wr (getO st.h) D pre.length l = some (.cells cs) := fun l cs hq =>
    tr.cellsD (tr.sub i l _ hq) D (Nat.le_refl _) fun p cp hDp hcp ht => by
      rcases hvis i p l cs cp hi hcp ht hq with h1 | h1
      · exact h1
      · exfalso
        have hpm : p < pre.length := (List.getElem?_eq_some_iff.1 hcp).1
        have hops2 : ∃ op, ops[p]? = some op := by
          have := (chkOps_get hops).1
          refine ⟨ops[p]'(by simp at this; omega), Array.getElem?_eq_getElem _⟩
        obtain ⟨op, hop⟩ := hops2
        have := waits_in hcl (fun j oj hj hoj => (chkPre_get hchk (by simpa using hoj : ops.toList[j]? = some oj) (List.getElem?_eq_getElem hj)).1) hpm hop (chkPre_get hchk (by simpa using hop : ops.toList[p]? = some op) hcp).1 (hcl p op hpm hDp hop) h1
        rw [hD] at this; cases this
  have F := finds hchk tr he0 hcl ho hc hD hd inv.tgt
  have hk : chkOp P nt ops o co = true := (chkOps_get hops).2 i o co (by simpa using ho) (by rw [List.getElem?_append_left hi]; exact hc)
  unfold chkOp at hk
  simp only [Bool.and_eq_true, beq_iff_eq] at hk
  obtain ⟨⟨⟨hdd, hdl⟩, hg⟩, hkk⟩ := hk
  have hdst : ∀ t, o.dst = some t → t < a.tmps.size := by
    intro t ht
    rw [ht] at hdl
    rw [inv.sz]; simpa using hdl
  have hel : ∀ t ∈ co.temps, look (restrict co.temps (es i)) t = look (es i) t := fun t ht => by
    rw [look_restrict, if_pos (by simpa using ht)]
  have her : EnvRel c (restrict co.temps (es i)) a.tmps := by
    refine ⟨fun t x hx => ?_, inv.hr.gi⟩
    rw [look_restrict] at hx
    split at hx
    · rename_i hm
      have hm : t ∈ co.temps := by simpa using hm
      rw [F.ev t hm] at hx
      exact inv.env t x hx
    · cases hx
  have hwant : wants (restrict co.temps (es i)) co.g = wants (es i) co.g := wants_congr fun t b hgt => hel t (by unfold COp.temps; rw [hgt]; simp)
  have hneed : ∀ t, co.k.needs (es i) t → c.ρ t ≠ .no := by
    intro t hnd hno
    have htm : ∀ t ∈ co.k.temps, look (restrict co.temps (es i)) t = look (es i) t := fun t ht => hel t (List.mem_append_left _ ht)
    revert hnd hkk htm
    cases hcok : co.k <;> intro hkk hnd htm <;> try (exact hnd.elim)
    · obtain ⟨z, hz⟩ := hnd
      obtain ⟨y, hy⟩ := chkK_st hkk
      have := (chkX_sound hy her ((evX_congr fun t ht => htm t (by simp only [K.temps, List.mem_append]; exact .inl ht)).trans hz)).inv_ptr
      obtain ⟨b, _, _, h3⟩ := this
      rw [hno] at h3; cases h3
    · obtain ⟨rows, hz⟩ := hnd
      obtain ⟨y, hy⟩ := chkK_app hkk
      have := (chkX_sound hy her ((evX_congr fun t ht => htm t (by simp only [K.temps, List.mem_append]; exact .inl ht)).trans hz)).inv_ws
      obtain ⟨_, _, _, _, _, _, h3, _⟩ := this
      rw [hno] at h3; cases h3
  have hnewD : ∀ t, co.k.needs (es i) t → ∀ q cq, t = st.h.length + q → pre[q]? = some cq → cq.k.isNew = true → D q = true := by
    intro t hnd q cq ht hq _
    cases hDq : D q with
    | true => rfl
    | false => exact absurd (inv.idle q (List.getElem?_eq_some_iff.1 hq).1 hDq) (by rw [← ht]; exact hneed t hnd)
  have htg2 : ∀ p l o q cq, setD D i p = true → wr p = some (l, o) → l = st.h.length + q → pre[q]? = some cq → cq.k.isNew = true → setD D i q = true := by
    intro p l ob q cq hDp hwp hl hq hn
    by_cases e : p = i
    · subst e
      have hop := tr.op p co hc
      rw [hwp] at hop
      rcases hop.nd with h1 | h1
      · have : q = p := by omega
        subst this; exact setD_same _ _
      · have := hnewD l h1 q cq hl hq hn
        unfold setD; simp [this]
    · rw [setD_other D e] at hDp
      have := inv.tgt p l ob q cq hDp hwp hl hq hn
      unfold setD; simp [this]
  have mk : ∀ (c' : Cx) (v : Value) (h' : Heap), HRel c' h' → HExt c c' h h' rd.wp → c'.N = c.N → h'.length ≤ st.h.length + pre.length → (∀ l, getO h' l = match wr i with | some (l', o) => if l' = l then some o else getO h l | none => getO h l) →
      (∀ p, p < pre.length → p ≠ i → D p = false → c'.ρ (st.h.length + p) = .no) → VRel c' (vs i) v → PInv nt pre.length c0 st.h rd.wp env pre vs wr df (setD D i) c' (a.put o.dst v) h' := by
    intro c' v h' hr hx hN hl hpic hid hv
    refine ⟨hr, inv.hx.trans hx, by rw [hN]; exact inv.n, hl, fun l => ?_, fun p hp hDp => ?_, fun t x hx' => ?_, htg2, ?_, ?_⟩
    · rw [hpic l, F.outH l]
      cases wr i with
      | none => exact inv.pic l
      | some q => obtain ⟨l', ob⟩ := q; simp only [inv.pic l]
    · have hne : p ≠ i := by rintro rfl; rw [setD_same] at hDp; cases hDp
      rw [setD_other D hne] at hDp
      exact hid p hp hne hDp
    · rw [F.out t] at hx'
      split at hx'
      · rename_i e
        cases hx'
        have e' : o.dst = some t := hdd.trans e
        have hlt := hdst t e'
        rw [e']
        simp only [Act.put, Array.size_setIfInBounds]
        exact ⟨hlt, by simpa [Array.getD, hlt] using hv⟩
      · rename_i e
        obtain ⟨h1, h2⟩ := inv.env t x hx'
        cases hod : o.dst with
        | none => exact ⟨h1, h2.mono hx.cx⟩
        | some d =>
          simp only [Act.put, Array.size_setIfInBounds]
          refine ⟨h1, ?_⟩
          have hne : d ≠ t := by rintro rfl; exact e (hdd ▸ hod)
          have : (a.tmps.setIfInBounds d v).getD t undef = a.tmps.getD t undef := by
            simp [Array.getD, h1, Array.getElem_setIfInBounds, hne]
          rw [this]; exact h2.mono hx.cx
    · cases hod : o.dst <;> simp [Act.put, inv.sz]
    · cases hod : o.dst <;> simp only [Act.put] <;> exact inv.df
  unfold wpOpIn
  simp only [ho]
  have hop := tr.op i co hc
  rcases hop with ⟨hw, hv, h1, h2⟩ | ⟨hw, hk, hf, ha, hfz, hl, hcl', hn, h1, h2⟩ | ⟨hw, hk, he⟩
  · rw [if_neg (by rw [wants_sound hg her (hwant.trans hw)]; simp)]
    refine ⟨fun f _ => trivial, hnext c _ h (mk c undef h inv.hr (.refl _ _ _) rfl inv.len (fun l => by rw [h2]) (fun p hp _ hDp => inv.idle p hp hDp) ?_)⟩
    rw [hv]
    exact VRel.tup (by simp) (fun j x v hx => by simp at hx)
  · rw [if_pos (wants_sound hg her (hwant.trans hw))]
    rename_i f args fv us avs v0 st'
    rw [hk] at hkk
    unfold chkK at hkk
    split at hkk <;> try (cases hkk; done)
    all_goals first | (rename_i hq; cases hq; done) | skip
    rename_i f0 args0 ts f' args' hoo hke
    injection hke with q1 q2; subst q1; subst q2
    simp only [Bool.and_eq_true] at hkk
    have htm : ∀ t ∈ K.temps.tX f ++ args.flatMap K.temps.tX, look (restrict co.temps (es i)) t = look (es i) t := fun t ht => hel t (by unfold COp.temps; rw [hk]; exact List.mem_append_left _ ht)
    have hf' : evX (restrict co.temps (es i)) f = some fv := (evX_congr fun t ht => htm t (List.mem_append_left _ ht)).trans hf
    have ha' : evXs (restrict co.temps (es i)) args = some us := (evXs_congr fun t ht => htm t (List.mem_append_right _ ht)).trans ha
    have hfr := chkX_sound hkk.1 her hf'
    obtain ⟨hal, har⟩ := chkXs_sound hkk.2 her ha'
    have hgo := pre_call hcall s0 hN0 inv.hr inv.hx inv.n hlnE (tr.sub i) (fun l cs hq => by rw [inv.pic l]; exact hcD l cs hq) (fun l hq => by rw [inv.pic l] at hq; have h3 := pic_none hq; cases h4 : getO (hP i) l with | none => rfl | some ob => rw [tr.sub _ _ _ h4] at h3; cases h3) hcl' (by rw [← hlnE]; exact hn) (by rw [← hlnE]; exact hl) (vs := args0.map a.eval) hfr (by rw [hfz]; simpa using hal)
      (fun j y u hy hu => by
        rw [hfz, List.getElem?_map] at hy
        obtain ⟨z, hz, rfl⟩ := Option.map_eq_some_iff.1 hy
        exact frz_sound (har j z u hz (by simpa using hu)))
    refine call_wp hoo hgo ro ?_
    rintro u w' ⟨c', rfl, hr', hx', hN', hid', hv'⟩
    exact hnext c' _ h (mk c' u h hr' hx' hN' inv.len (fun l => by rw [h2]) (fun p hp _ hDp => by rw [hid' _ (Nat.le_add_right _ _)]; exact inv.idle p hp hDp) hv')
  · rw [if_pos (wants_sound hg her (hwant.trans hw))]
    have htm : ∀ t ∈ co.k.temps, look (restrict co.temps (es i)) t = look (es i) t := fun t ht => hel t (List.mem_append_left _ ht)
    have hstep := he.also h (fun t hnd ob hg => by rw [inv.pic t]; exact F.tok (K.needs_tok hnd) t ob hg (hnewD t hnd))
    rw [← stepK_congr htm, hlnE] at hstep
    obtain ⟨nx, u, c', hrun, hnx, hvr, hhr, hhx, hN', hidl⟩ := stepK_sound (o := o) (a := a) (wp := rd.wp) (id := st.h.length + i) hkk inv.hr (by rw [inv.n]; exact inv.len) her (hh := hP i)
      (fun l cs hq => by rw [inv.pic l]; exact hcD l cs hq) (Nat.le_trans hwp (Nat.le_add_right _ _)) (by rw [inv.pic]; exact F.free) (fun _ => inv.idle i hi hD) hstep
    have hlen : (app1 (wr i) h).length ≤ st.h.length + pre.length := app1_len inv.len F.wlt
    have hpic : ∀ l, getO (app1 (wr i) h) l = match wr i with | some (l', o) => if l' = l then some o else getO h l | none => getO h l := fun l => getO_app1 _ _ _
    have hfin := hnext c' _ _ (mk c' u _ hhr hhx (by rw [hN', inv.n]; omega) hlen hpic (fun p hp hne hDp => by
      rw [hidl]
      · exact inv.idle p hp hDp
      · rw [hpic]
        have hnone : getO h (st.h.length + p) = none := by
          cases hq : getO h (st.h.length + p) with
          | none => rfl
          | some ob =>
            exfalso
            have hgh := inv.idle p hp hDp
            cases ob with
            | cells cs => obtain ⟨_, b, _, _, g1, _⟩ := inv.hr.box _ _ hq; rw [hgh] at g1; cases g1
            | tok e k => obtain ⟨_, b, _, g1, _⟩ := inv.hr.tok _ _ _ hq; rw [hgh] at g1; cases g1
            | map m => exact absurd hq (inv.hr.nomap _ _)
        split
        · rename_i l' ob hwi
          split
          · rename_i e
            subst e
            have hop' := tr.op i co hc
            rw [hwi] at hop'
            have hln := tr.ln
            rcases hop'.nd with h5 | h5
            · omega
            · exact absurd (inv.idle p hp hDp) (hneed _ h5)
          · exact hnone
        · exact hnone) hvr)
    refine ⟨fun f _ => trivial, ?_⟩
    rw [Oper.semAt_eq _ _ _ (chkK_defer hkk), hrun]
    rcases hnx with rfl | ⟨rfl, rfl⟩
    · rw [Oper.uponIn_value]; exact hfin
    · rw [Oper.uponIn_skip]; exact hfin

/-- how many are yet to be taken -/
def todo (listed : Array Bool) : Nat := listed.toList.countP (· == false)

theorem todo_set {listed : Array Bool} {i : Nat} (h : listed.getD i true = false) : todo (listed.setIfInBounds i true) + 1 = todo listed := by
  have hlt : i < listed.size := by
    rcases Nat.lt_or_ge i listed.size with h' | h'
    · exact h'
    · simp [Array.getElem?_eq_none h'] at h
  have hv : listed[i] = false := by simpa [Array.getD, hlt] using h
  unfold todo
  rw [Array.toList_setIfInBounds]
  have key : ∀ (l : List Bool) (i : Nat) (hi : i < l.length), l[i] = false → (l.set i true).countP (· == false) + 1 = l.countP (· == false) := by
    intro l
    induction l with
    | nil => intro i hi; simp at hi
    | cons x xs ih =>
      intro i hi hx
      cases i with
      | zero => simp at hx; subst hx; simp
      | succ i =>
        simp only [List.length_cons] at hi
        have := ih i (by omega) (by simpa using hx)
        simp only [List.set_cons_succ, List.countP_cons]
        omega
  exact key listed.toList i (by simpa using hlt) (by simpa using hv)

theorem getD_true_false {listed : Array Bool} {i : Nat} (hlt : i < listed.size) : listed.getD i true = listed.getD i false := by
  simp [Array.getD, hlt]
end
end Go.Proofs.YtfifgiopdbdeoaaDoor.Lite
namespace Go.Proofs.YtfifgiopdbdeoaaDoor.Lite
open Go Go.RowKit

/-! ### A world that differs in what no value looks at -/
def Cx.drew (c : Cx) (w : World) : Cx := { c with w := w }

structure SameW (w w' : World) : Prop where
  heap : w'.heap = w.heap
  os : w'.os = w.os
  tape : w'.tape = w.tape
  output : w'.output = w.output

theorem SameW.cell {w w' : World} (h : SameW w w') (a : Addr) : w'.cell? a = w.cell? a := by unfold World.cell?; rw [h.heap]

theorem drew_le {c : Cx} {w : World} (h : SameW c.w w) : c.le (c.drew w) :=
  ⟨Nat.le_refl _, Nat.le_refl _, ⟨fun _ _ hs => hs, fun _ _ _ => h.cell _⟩, fun _ _ => Gh.le_refl _, fun _ _ => rfl, fun _ _ => rfl⟩

theorem HRel.drew {c : Cx} {hp : Heap} (hr : HRel c hp) {w : World} (h : SameW c.w w) : HRel (c.drew w) hp :=
  hr.mono_same (drew_le h) rfl (fun b o hs => .inl hs) (fun b _ => by show w.heap[b]? = _; rw [h.heap])

theorem HExt.drew {c : Cx} {hp : Heap} {w : World} {wp : Nat} (h : SameW c.w w) : HExt c (c.drew w) hp hp wp where
  keeps := (drew_le h).keeps
  gh := fun _ _ => Gh.le_refl _
  n := Nat.le_refl _
  m := rfl
  lm := rfl
  lc := rfl
  blk := fun b _ _ => by show w.heap[b]? = _; rw [h.heap]
  size := by show c.w.heap.size ≤ w.heap.size; rw [h.heap]; exact Nat.le_refl _
  own := fun b hb => .inl hb
  os := h.os
  tape := h.tape
  output := h.output
  pre := fun _ _ _ => rfl
  len := Nat.le_refl _
  dead := fun _ _ h0 _ => ⟨rfl, h0⟩
  sx := fun _ _ hs => .inl hs

section
variable {P : Program} {T : Tbl} {n : Nat} {nt : Nat} {ops : Array Oper} {pre suf : List COp}

theorem deps_of {o : Oper} {p : Nat} (h : p ∈ deps o) : ∃ e ∈ o.after, Region.binds .any e = true ∧ e.on = p := by
  unfold deps at h
  obtain ⟨e, he, rfl⟩ := List.mem_map.1 h
  rw [List.mem_filter] at he
  exact ⟨e, by simpa using he.1, he.2, rfl⟩
theorem deps_to {o : Oper} {e : Edge} (h : e ∈ o.after) (hb : Region.binds .any e = true) : e.on ∈ deps o := by
  unfold deps
  exact List.mem_map.2 ⟨e, List.mem_filter.2 ⟨by simpa using h, hb⟩, rfl⟩

theorem ready_iff {listed : Array Bool} {i : Nat} : i ∈ Region.ready .any ops listed ↔ listed.getD i true = false ∧ ∃ o, ops[i]? = some o ∧ ∀ p ∈ deps o, listed.getD p false = true := by
  rw [mem_ready]
  constructor
  · rintro ⟨h1, o, h2, h3⟩
    exact ⟨h1, o, h2, fun p hp => by obtain ⟨e, h4, h5, rfl⟩ := deps_of hp; exact h3 e h4 h5⟩
  · rintro ⟨h1, o, h2, h3⟩
    exact ⟨h1, o, h2, fun e he hb => h3 _ (deps_to he hb)⟩

theorem getD_ft {listed : Array Bool} {i : Nat} (hlt : i < listed.size) (d d' : Bool) : listed.getD i d = listed.getD i d' := by simp [Array.getD, hlt]

theorem suf_any (hcall : CallOK P T n) (hsuf : chkSuf pre.length ops.toList ops.size = true) (hpd : ∀ q oq, q < pre.length → ops[q]? = some oq → ∀ p ∈ deps oq, p < q) {rd : Rd} (ro : Option Nat) (Q : Exit → Act → World → Prop) : ∀ (cops : List COp) (k fuel : Nat) (listed : Array Bool), chkOps P nt ops (ops.toList.drop k) cops = true →
    pre.length ≤ k → listed.size = ops.size → (∀ p, p < ops.size → listed.getD p false = decide (p < k)) → todo listed ≤ fuel →
    ∀ {env env' : Env} {st st' : St}, evOps (evCall T n rd) rd.wp cops env st = some (env', st') → ∀ {c : Cx} {a : Act}, StRel P c st rd.lp → c.N = st.h.length → rd.wp ≤ st.h.length → EnvRel c env a.tmps → a.tmps.size = nt →
    (∀ (c' : Cx) (a' : Act), StRel P c' st' rd.lp → c'.N = st'.h.length → Ext c c' st st' rd.lp rd.wp → EnvRel c' env' a'.tmps → a'.tmps.size = nt → a'.defers = a.defers → Q .normal a' c'.w) →
    wpAnyIn (FW ro) 0 P .any ops Q fuel listed a c.w
  | [], k, fuel, listed, hk, hpk, hsz, hli, hfu, env, env', st, st', hev, c, a, hs, hN, _, he, hz, hQ => by
    simp only [evOps, Option.some.injEq, Prod.mk.injEq] at hev
    obtain ⟨rfl, rfl⟩ := hev
    have hq := hQ c a hs hN (.refl _ _ _ _) he hz rfl
    have hkk : ops.size ≤ k := by
      cases hdr : ops.toList.drop k with
      | nil => simpa using hdr
      | cons o os => rw [hdr] at hk; simp [chkOps] at hk
    have hr : Region.ready .any ops listed = [] := by
      rw [List.eq_nil_iff_forall_not_mem]
      intro i hi
      obtain ⟨h1, o, h2, _⟩ := ready_iff.1 hi
      have hlt := (Array.getElem?_eq_some_iff.1 h2).1
      rw [getD_ft (by omega) true false, hli i hlt] at h1
      simp at h1; omega
    cases fuel with
    | zero => exact ⟨hr, hq⟩
    | succ f => exact ⟨fun _ => hq, fun i hi => (by rw [hr] at hi; cases hi)⟩
  | co :: cops, k, fuel, listed, hk, hpk, hsz, hli, hfu, env, env', st, st', hev, c, a, hs, hN, hwp, he, hz, hQ => by
    cases hdr : ops.toList.drop k with
    | nil => rw [hdr] at hk; simp [chkOps] at hk
    | cons o os =>
      rw [hdr] at hk
      simp only [chkOps, Bool.and_eq_true] at hk
      have ho : ops[k]? = some o := by
        have := congrArg (·[0]?) hdr
        simpa using this
      have hkl : k < ops.size := (Array.getElem?_eq_some_iff.1 ho).1
      have hdr2 : ops.toList.drop (k + 1) = os := by rw [← List.drop_drop, hdr]; rfl
      have hun : listed.getD k true = false := by rw [getD_ft (by omega) true false, hli k hkl]; simp
      have hts := todo_set hun
      have suf_get : ∀ i, pre.length ≤ i → ∀ oi, ops[i]? = some oi → (∀ p, p < i → waits ops.toList i p = true) ∧ ∀ p ∈ deps oi, p < i := by
        intro i hi oi hoi
        unfold chkSuf at hsuf
        rw [List.all_eq_true] at hsuf
        have := hsuf i (List.mem_range.2 (Array.getElem?_eq_some_iff.1 hoi).1)
        rw [show ops.toList[i]? = some oi by simpa using hoi] at this
        simp only [Bool.or_eq_true, decide_eq_true_eq, Nat.not_lt.2 hi, false_or, Bool.and_eq_true, List.all_eq_true, List.mem_range] at this
        exact ⟨fun p hp => this.1 p hp, fun p hp => by simpa using this.2 p hp⟩
      have hkr : k ∈ Region.ready .any ops listed := by
        refine ready_iff.2 ⟨hun, o, ho, fun p hp => ?_⟩
        have := (suf_get k hpk o ho).2 p hp
        rw [hli p (by omega)]; simpa using this
      cases fuel with
      | zero => omega
      | succ f =>
        refine ⟨fun h => (by rw [h] at hkr; cases hkr), fun i hi => ?_⟩
        obtain ⟨h1, oi, h2, h3⟩ := ready_iff.1 hi
        have hil := (Array.getElem?_eq_some_iff.1 h2).1
        have hik : i = k := by
          rw [getD_ft (by omega) true false, hli i hil] at h1
          have h1 : k ≤ i := by simpa using h1
          rcases Nat.lt_or_ge k i with h4 | h4
          · have hsi := suf_get i (by omega) oi h2
            have := waits_gen (G := fun q => q < k) (fun q oq hq hoq p hp => by
              have g2' : ops[q]? = some oq := by simpa using hoq
              rcases Nat.lt_or_ge q pre.length with h6 | h6
              · have := hpd q oq h6 g2' p hp; omega
              · have := (suf_get q h6 oq g2').2 p hp; omega) _ (by simpa using h2 : ops.toList[i]? = some oi) (fun q hq => by
              have h5 := h3 q hq
              have := hsi.2 q hq
              rw [hli q (by omega)] at h5
              simpa using h5) (hsi.1 k h4)
            omega
          · omega
        subst hik
        simp only [evOps] at hev
        split at hev
        · rename_i env1 st1 hev1
          unfold wpOpIn
          simp only [ho]
          refine op_sound hcall hk.1 hev1 hs hN hwp he hz ro _ Q (fun c1 v hs1 hN1 hx1 he1 => ?_)
          have hz1 : (a.put o.dst v).tmps.size = nt := by cases o.dst <;> simp [Act.put, hz]
          have hdf : (a.put o.dst v).defers = a.defers := by cases o.dst <;> rfl
          refine suf_any hcall hsuf hpd ro Q cops (i + 1) f _ (by rw [hdr2]; exact hk.2) (by omega) (by simpa using hsz) (fun p hp => ?_) (by omega) hev hs1 hN1 (Nat.le_trans hwp hx1.len) he1 hz1 (fun c2 a2 hs2 hN2 hx2 he2 hz2 hd2 => ?_)
          · by_cases e : i = p
            · subst e
              simp [hsz, hkl]
            · rw [getD_set_ne false e, hli p hp]
              by_cases h5 : p < i
              · simp [h5]; omega
              · simp [h5]; omega
          · exact hQ c2 a2 hs2 hN2 (hx1.trans hx2) he2 hz2 (hd2.trans hdf)
        · cases hev

theorem pre_any (hcall : CallOK P T n) (hchk : chkPre ops.toList pre = true) (hops : chkOps P nt ops ops.toList (pre ++ suf) = true) (hsuf : chkSuf pre.length ops.toList ops.size = true) {rd : Rd} {c0 : Cx} {st : St} (s0 : StRel P c0 st rd.lp) (hN0 : c0.N = st.h.length) (hwp : rd.wp ≤ st.h.length)
    {es : Nat → Env} {hs : Nat → Heap} {vs : Nat → AV} {wr : Nat → Option (Nat × AObj)} {hP : Nat → Heap} (hvis : ∀ i p l cs cp, i < pre.length → pre[p]? = some cp → cp.k.isTok = true → getO (hP i) l = some (.cells cs) → getO (hP p) l = some (.cells cs) ∨ waits ops.toList p i = true) (tr : Tr (evCall T n { lp := rd.lp.map fun _ => none, wp := st.h.length }) hP st.h rd.wp st.pd pre es hs vs wr) {env : Env} (he0 : es 0 = env) (ro : Option Nat) (Q : Exit → Act → World → Prop)
    {env2 : Env} {st2 : St} (hev : evOps (evCall T n rd) rd.wp suf (es pre.length) { st with h := padH (hs pre.length) (st.h.length + pre.length) } = some (env2, st2)) {df : List Deferred}
    (hQ : ∀ (c' : Cx) (a' : Act), StRel P c' st2 rd.lp → c'.N = st2.h.length → Ext c0 c' st st2 rd.lp rd.wp → EnvRel c' env2 a'.tmps → a'.tmps.size = nt → a'.defers = df → Q .normal a' c'.w) :
    ∀ (fuel : Nat) (listed : Array Bool), listed.size = ops.size → todo listed ≤ fuel → (∀ p, pre.length ≤ p → listed.getD p false = false) → Closed ops pre.length (fun p => listed.getD p false) →
    ∀ {c : Cx} {a : Act} {h : Heap}, PInv nt pre.length c0 st.h rd.wp env pre vs wr df (fun p => listed.getD p false) c a h → wpAnyIn (FW ro) 0 P .any ops Q fuel listed a c.w := by
  have hlen := (chkOps_get hops).1
  simp only [Array.length_toList, List.length_append] at hlen
  intro fuel
  induction fuel with
  | zero =>
    intro listed hsz hfu hhi hcl c a h inv
    have hall : ∀ p, p < ops.size → listed.getD p false = true := fun p hp => by
      cases hq : listed.getD p false with
      | true => rfl
      | false => have := todo_set (listed := listed) (i := p) (by rw [getD_ft (by omega) true false]; exact hq); omega
    have hm : ops.size = pre.length := by
      rcases Nat.lt_or_ge pre.length ops.size with h1 | h1
      · have := hall _ h1; rw [hhi _ (Nat.le_refl _)] at this; cases this
      · omega
    exact finish listed hsz (Nat.le_of_eq (by omega)) hhi (fun p hp => hall p (by omega)) inv
  | succ f ih =>
    intro listed hsz hfu hhi hcl c a h inv
    by_cases hall : ∀ p, p < pre.length → listed.getD p false = true
    · exact finish listed hsz hfu hhi hall inv
    · have hex : ∃ p, p < pre.length ∧ listed.getD p false = false ∧ ∀ q, q < p → listed.getD q false = true := by
        have : ∀ k, k ≤ pre.length → (∀ p, p < k → listed.getD p false = true) ∨ ∃ p, p < k ∧ listed.getD p false = false ∧ ∀ q, q < p → listed.getD q false = true := by
          intro k
          induction k with
          | zero => intro _; exact .inl fun p hp => absurd hp (Nat.not_lt_zero _)
          | succ k ihk =>
            intro hk
            rcases ihk (by omega) with h1 | ⟨p, h1, h2⟩
            · cases hq : listed.getD k false with
              | true => exact .inl fun p hp => by rcases Nat.lt_or_ge p k with h3 | h3; exact h1 p h3; have : p = k := by omega
                                                  subst this; exact hq
              | false => exact .inr ⟨k, Nat.lt_succ_self _, hq, h1⟩
            · exact .inr ⟨p, by omega, h2⟩
        rcases this pre.length (Nat.le_refl _) with h1 | h1
        · exact absurd h1 hall
        · exact h1
      obtain ⟨p, hp, hpu, hpl⟩ := hex
      have suf_get : ∀ i, pre.length ≤ i → ∀ oi, ops[i]? = some oi → (∀ p, p < i → waits ops.toList i p = true) := by
        intro i hi oi hoi
        unfold chkSuf at hsuf
        rw [List.all_eq_true] at hsuf
        have := hsuf i (List.mem_range.2 (Array.getElem?_eq_some_iff.1 hoi).1)
        rw [show ops.toList[i]? = some oi by simpa using hoi] at this
        simp only [Bool.or_eq_true, decide_eq_true_eq, Nat.not_lt.2 hi, false_or, Bool.and_eq_true, List.all_eq_true, List.mem_range] at this
        exact fun p hp => this.1 p hp
      have hcpre : ∀ {i}, i < pre.length → ∃ co, pre[i]? = some co := fun hi => ⟨_, List.getElem?_eq_getElem hi⟩
      have hpo : ∃ o, ops[p]? = some o := ⟨_, Array.getElem?_eq_getElem (by omega)⟩
      obtain ⟨op, hop⟩ := hpo
      obtain ⟨cp, hcp⟩ := hcpre hp
      have hready : p ∈ Region.ready .any ops listed := ready_iff.2 ⟨by rw [getD_ft (by omega) true false]; exact hpu, op, hop, fun q hq => hpl q ((chkPre_get hchk (by simpa using hop : ops.toList[p]? = some op) hcp).1 q hq)⟩
      refine ⟨fun h => (by rw [h] at hready; cases hready), fun i hi => ?_⟩
      obtain ⟨h1, oi, h2, h3⟩ := ready_iff.1 hi
      have hil := (Array.getElem?_eq_some_iff.1 h2).1
      have him : i < pre.length := by
        rcases Nat.lt_or_ge i pre.length with h4 | h4
        · exact h4
        · have := waits_gen (G := fun q => q < pre.length ∧ listed.getD q false = true) (fun q oq hq hoq p hp => by
            have g2' : ops[q]? = some oq := by simpa using hoq
            obtain ⟨cq, hcq⟩ := hcpre hq.1
            have := (chkPre_get hchk hoq hcq).1 p hp
            exact ⟨by omega, hcl q oq hq.1 hq.2 g2' p hp⟩) _ (by simpa using h2 : ops.toList[i]? = some oi) (fun q hq => by
            have h5 := h3 q hq
            refine ⟨?_, h5⟩
            rcases Nat.lt_or_ge q pre.length with h7 | h7
            · exact h7
            · rw [hhi q h7] at h5; cases h5) (suf_get i h4 oi h2 p (by omega))
          rw [hpu] at this; cases this.2
      obtain ⟨ci, hci⟩ := hcpre him
      have hDi : listed.getD i false = false := by rw [← getD_ft (by omega : i < listed.size) true false]; exact h1
      have hset : (fun p => (listed.setIfInBounds i true).getD p false) = setD (fun p => listed.getD p false) i := by
        funext q
        by_cases e : i = q
        · subst e
          rw [setD_same]
          simp [hsz, hil]
        · rw [getD_set_ne false e, setD_other _ (Ne.symm e)]
      refine pre_op hcall hchk hops s0 hN0 hwp hvis tr he0 hcl h2 hci hDi h3 inv ro (fun c' a' h' inv' => ?_)
      refine ih _ (by simpa using hsz) (by have := todo_set h1; omega) (fun q hq => ?_) ?_ (by rw [hset]; exact inv')
      · rw [getD_set_ne false (by omega)]; exact hhi q hq
      · rw [hset]
        intro j oj hj hDj hoj q hq
        by_cases e : j = i
        · subst e
          rw [h2] at hoj; cases hoj
          have := h3 q hq
          unfold setD; simp [this]
        · rw [setD_other _ e] at hDj
          have := hcl j oj hj hDj hoj q hq
          unfold setD; simp [this]
where
  finish {fuel : Nat} (listed : Array Bool) (hsz : listed.size = ops.size) (hfu : todo listed ≤ fuel) (hhi : ∀ p, pre.length ≤ p → listed.getD p false = false) (hall : ∀ p, p < pre.length → listed.getD p false = true)
      {c : Cx} {a : Act} {h : Heap} (inv : PInv nt pre.length c0 st.h rd.wp env pre vs wr df (fun p => listed.getD p false) c a h) : wpAnyIn (FW ro) 0 P .any ops Q fuel listed a c.w := by
    have hlen := (chkOps_get hops).1
    simp only [Array.length_toList, List.length_append] at hlen
    have hb := tr.bound (Nat.le_refl pre.length)
    have hln := tr.ln
    have hg : ∀ l, getO (padH (hs pre.length) (st.h.length + pre.length)) l = getO h l := fun l => by
      rw [getO_padH, inv.pic l, tr.picT (Nat.le_refl _)]
      exact pic_congr fun p x hp _ => (hall p hp).symm
    have hlp : (padH (hs pre.length) (st.h.length + pre.length)).length = st.h.length + pre.length := by rw [length_padH]; omega
    have hx : HExt c0 c st.h (padH (hs pre.length) (st.h.length + pre.length)) rd.wp := (inv.hx.of_room s0.h).congr hg (by rw [hlp]; exact inv.len)
    have hs1 := s0.of_h hx (inv.hr.congr hg)
    have hpd : ∀ q oq, q < pre.length → ops[q]? = some oq → ∀ p ∈ deps oq, p < q := fun q oq hq hoq => (chkPre_get hchk (by simpa using hoq : ops.toList[q]? = some oq) (List.getElem?_eq_getElem hq)).1
    refine suf_any hcall hsuf hpd ro Q suf pre.length fuel listed ?_ (Nat.le_refl _) hsz (fun p hp => ?_) hfu hev hs1 (by rw [inv.n, hlp]) (by show rd.wp ≤ (padH _ _).length; rw [hlp]; omega) ⟨fun t x hx' => ?_, inv.hr.gi⟩ inv.sz (fun c' a' g1 g2 g3 g4 g5 g6 => ?_)
    · exact chkOps_drop hops
    · by_cases h1 : p < pre.length
      · rw [hall p h1]; simp [h1]
      · rw [hhi p (by omega)]; simp [h1]
    · refine inv.env t x ?_
      rw [← hx', tr.picE (Nat.le_refl _), he0]
      exact pic_congr fun p x hp _ => hall p hp
    · exact hQ c' a' g1 g2 ((Ext.of_h hx).trans g3) g4 g5 (g6.trans inv.df)
  chkOps_drop : ∀ {os : List Oper} {pre suf : List COp}, chkOps P nt ops os (pre ++ suf) = true → chkOps P nt ops (os.drop pre.length) suf = true
    | os, [], suf, h => h
    | [], _ :: _, _, h => by simp [chkOps] at h
    | o :: os, c :: cs, suf, h => by
      simp only [List.cons_append, chkOps, Bool.and_eq_true] at h
      simpa using chkOps_drop h.2
end
end Go.Proofs.YtfifgiopdbdeoaaDoor.Lite
namespace Go.Proofs.YtfifgiopdbdeoaaDoor.Lite
open Go Go.RowKit

theorem StRel.drew {P : Program} {c : Cx} {st : St} {lp : List (Option LRec)} (s : StRel P c st lp) {w : World} (h : SameW c.w w) : StRel P (c.drew w) st lp :=
  s.of_h (h' := st.h) (wp := 0) (HExt.drew h) (s.h.drew h)

theorem eraseB_length (env : Env) : ∀ (ts : List Nat) (h : Heap), (eraseB env ts h).length = h.length
  | [], h => rfl
  | t :: ts, h => by
    unfold eraseB
    split
    · rw [eraseB_length env ts, List.length_set]
    · exact eraseB_length env ts h
theorem eraseB_sub (env : Env) : ∀ (ts : List Nat) (h : Heap) (l : Nat) (o : AObj), getO (eraseB env ts h) l = some o → getO h l = some o
  | [], h, l, o, hg => hg
  | t :: ts, h, l, o, hg => by
    unfold eraseB at hg
    split at hg
    · rename_i k _ _
      have := eraseB_sub env ts _ l o hg
      unfold getO at this ⊢
      rw [List.getElem?_set] at this
      split at this
      · split at this <;> cases this
      · exact this
    · exact eraseB_sub env ts h l o hg

theorem dreg_sound {P : Program} {T : Tbl} {n nt id : Nat} {ops : Array Oper} {pre suf : List COp} (hcall : CallOK P T n) (hm : P.follows .mixedOrders = true) (hops : chkOps P nt ops ops.toList (pre ++ suf) = true) (hchk : chkPre ops.toList pre = true)
    (hsuf : chkSuf pre.length ops.toList ops.size = true) {rd : Rd} {env env1 env2 : Env} {st st2 : St} {h1 : Heap} {hP : Nat → Heap} (hEn : ∀ i, (hP i).length = st.h.length) (hEs : ∀ i l o, getO (hP i) l = some o → getO st.h l = some o) (hvis : ∀ i p l cs cp, i < pre.length → pre[p]? = some cp → cp.k.isTok = true → getO (hP i) l = some (.cells cs) → getO (hP p) l = some (.cells cs) ∨ waits ops.toList p i = true) (hpre : evPre (evCall T n { lp := rd.lp.map fun _ => none, wp := st.h.length }) hP rd.wp 0 pre env st.h st.pd = some (env1, h1))
    (hev : evOps (evCall T n rd) rd.wp suf env1 { st with h := padH h1 (st.h.length + pre.length) } = some (env2, st2)) {c : Cx} {a : Act} (hs : StRel P c st rd.lp) (hN : c.N = st.h.length) (hwp : rd.wp ≤ st.h.length) (he : EnvRel c env a.tmps) (hz : a.tmps.size = nt) (ro : Option Nat)
    (Q : Exit → Act → World → Prop)
    (hQ : ∀ (c' : Cx) (a' : Act), StRel P c' st2 rd.lp → c'.N = st2.h.length → Ext c c' st st2 rd.lp rd.wp → EnvRel c' env2 a'.tmps → a'.tmps.size = nt → a'.defers = a.defers → Q .normal a' c'.w) :
    (Code.region id ops true).wpIn (FW ro) 0 P Q a c.w := by
  refine wpIn_region_any hm ?_
  have hw : SameW c.w { c.w with drawn := c.w.drawn + 1 } := ⟨rfl, rfl, rfl, rfl⟩
  generalize hwd : { c.w with drawn := c.w.drawn + 1 } = w' at hw
  obtain ⟨es, hs', vs, wr, tr, k1, k2, k3⟩ := evPre_tr hEn hEs hpre
  rw [← k2, ← k3] at hev
  have hD : (fun p => (Array.replicate ops.size false).getD p false) = fun _ => false := by
    funext p
    by_cases h : p < ops.size <;> simp [Array.getD, h]
  refine pre_any (suf := suf) hcall hchk hops hsuf (hs.drew hw) hN hwp hvis tr k1 ro Q hev (df := a.defers) (fun c' a' g1 g2 g3 g4 g5 g6 => ?_) ops.size (Array.replicate ops.size false) (by simp) ?_ (fun p _ => congrFun hD p) ?_ (c := (c.drew w').room c.N pre.length) (a := a) (h := st.h) ?_
  · exact hQ c' a' g1 g2 ((Ext.of_h (h' := st.h) (HExt.drew hw)).trans g3) g4 g5 g6
  · unfold todo
    rw [Array.toList_replicate]
    exact Nat.le_trans List.countP_le_length (by simp)
  · rw [hD]; intro i o _ h; cases h
  · rw [hD]
    have pz : ∀ {α : Type} (wr' : Nat → Option (Nat × α)) (f : Nat → Option α) (k l : Nat), pic wr' f (fun _ => false) k l = f l := by
      intro α wr' f k l
      rw [pic_stop (i := 0) (Nat.zero_le _) fun p x _ _ h => by cases h]; rfl
    refine ⟨(hs.h.drew hw).room pre.length, .refl _ _ _, by show c.N + pre.length = _; omega, Nat.le_add_right _ _, fun l => (pz _ _ _ _).symm, fun p _ _ => ?_, fun t x hx => ?_, fun _ _ _ _ _ h => (by cases h), hz, rfl⟩
    · show (if st.h.length + p < c.N then _ else Gh.no) = _
      rw [if_neg (by omega)]
    · rw [pz] at hx
      obtain ⟨g1, g2⟩ := he t x hx
      exact ⟨g1, (g2.mono (drew_le hw)).mono (room_le (c := c.drew w') (m := pre.length))⟩

theorem reg_sound {P : Program} {T : Tbl} {n nt id : Nat} {ops : Array Oper} {cops : List COp} (hcall : CallOK P T n) (hops : chkOps P nt ops ops.toList cops = true) {rd : Rd} {env env2 : Env} {st st2 : St}
    (hev : evOps (evCall T n rd) rd.wp cops env st = some (env2, st2)) {c : Cx} {a : Act} (hs : StRel P c st rd.lp) (hN : c.N = st.h.length) (hwp : rd.wp ≤ st.h.length) (he : EnvRel c env a.tmps) (hz : a.tmps.size = nt) (ro : Option Nat)
    (Q : Exit → Act → World → Prop)
    (hQ : ∀ (c' : Cx) (a' : Act), StRel P c' st2 rd.lp → c'.N = st2.h.length → Ext c c' st st2 rd.lp rd.wp → EnvRel c' env2 a'.tmps → a'.tmps.size = nt → a'.defers = a.defers → Q .normal a' c'.w) :
    (Code.region id ops false).wpIn (FW ro) 0 P Q a c.w := by
  refine wpIn_region ?_
  have hl := (chkOps_get hops).1
  have : List.range ops.size = List.range' 0 cops.length := by rw [List.range_eq_range', ← hl]; simp
  rw [this]
  exact ops_sound hcall ro Q cops 0 (by simpa using hops) hev hs hN hwp he hz hQ
theorem hideF_len {f : Bool} {h hE : Heap} (hl : hE.length = h.length) (i : Nat) : (hideF f h hE i).length = h.length := by
  unfold hideF; split
  · rfl
  · exact hl
theorem hideF_sub {f : Bool} {h hE : Heap} (hs : ∀ l o, getO hE l = some o → getO h l = some o) (i l : Nat) (o : AObj) (hg : getO (hideF f h hE i) l = some o) : getO h l = some o := by
  unfold hideF at hg; split at hg
  · exact hg
  · exact hs l o hg
theorem hideF_vis {f : Bool} {h hE : Heap} (hs : ∀ l o, getO hE l = some o → getO h l = some o) {os : List Oper} {pre : List COp} (hf : (!f || chkF os pre) = true) (i p l : Nat) (cs : List AV) (cp : COp) (_ : i < pre.length) (hp : pre[p]? = some cp) (ht : cp.k.isTok = true)
    (hg : getO (hideF f h hE i) l = some (.cells cs)) : getO (hideF f h hE p) l = some (.cells cs) ∨ waits os p i = true := by
  cases f with
  | false => exact .inl hg
  | true =>
    simp only [Bool.not_true, Bool.false_or] at hf
    unfold chkF at hf
    rw [List.all_eq_true] at hf
    have hw := hf p (List.mem_range.2 (List.getElem?_eq_some_iff.1 hp).1)
    rw [hp] at hw
    simp only [ht, Bool.not_true, Bool.false_or] at hw
    by_cases h0 : i = 0
    · subst h0; exact .inr hw
    · refine .inl ?_
      unfold hideF at hg ⊢
      simp only [Bool.true_and, beq_iff_eq, h0, if_false] at hg
      split
      · exact hs l _ hg
      · exact hg
end Go.Proofs.YtfifgiopdbdeoaaDoor.Lite
namespace Go.Proofs.YtfifgiopdbdeoaaDoor.Lite
open Go Go.RowKit

/-! ### Scopes -/
def Exit.leaps (whole : Code) (next : Code → Act → World → Prop) (Q : Exit → Act → World → Prop) : Exit → Act → World → Prop
  | .goto l, a, w => match findLabel whole l with
    | some rest => next rest a w
    | none => Q (.goto l) a w
  | e, a, w => Q e a w

def jumpsIn (F : Fence) (n : Nat) (P : Program) (whole : Code) (Q : Exit → Act → World → Prop) : Nat → Code → Act → World → Prop
  | 0, _, _, _ => False
  | m + 1, c, a, w => c.wpIn F n P (Exit.leaps whole (jumpsIn F n P whole Q m) Q) a w

theorem stepR_scope {P : Program} {b : Frame} {a : Act} {k : List Item} {cs : List Frame} {w : World} {c : Code} : step P (lone (b.atR a (.code (.scope c) :: k)) cs w) = .next (lone (b.atR a (.code c :: .inScope c :: k)) cs w) :=
  step_lone_go (by simp [stepG, stepG.exec, Frame.atR])
theorem stepR_inScope {P : Program} {b : Frame} {a : Act} {k : List Item} {cs : List Frame} {w : World} {c : Code} : step P (lone (b.atR a (.inScope c :: k)) cs w) = .next (lone (b.atR a k) cs w) :=
  step_lone_go (by simp [stepG, stepG.exec, Frame.atR])

theorem wpIn_scope_jumps {F : Fence} {n : Nat} {P : Program} {whole : Code} {Q : Exit → Act → World → Prop} {a : Act} {w : World} (m : Nat) (h : jumpsIn F n P whole Q m whole a w) : (Code.scope whole).wpIn F n P Q a w := by
  intro b k cs hro hb hr
  have key : ∀ m c a w, jumpsIn F n P whole Q m c a w →
      ∃ e a' w', Q e a' w' ∧ ArrivesIn (Machine.fenced P F) P (lone (b.atR a (.code c :: .inScope whole :: k)) cs w) b k cs e a' w' := by
    intro m
    induction m with
    | zero => intro c a w h; exact h.elim
    | succ m ih =>
      intro c a w h
      obtain ⟨e, a₁, w₁, hq, harr⟩ := h b (.inScope whole :: k) cs hro hb hr
      cases e with
      | normal => exact ⟨.normal, a₁, w₁, hq, StepsIn.trans harr (.one (fenced_calm hb hr rfl) stepR_inScope)⟩
      | exit id =>
        have hx : exitTo id (.inScope whole :: k) = exitTo id k := by simp [exitTo]
        exact ⟨_, a₁, w₁, hq, fun k' hk => harr.1 k' (by rw [hx]; exact hk), fun hr' hk => harr.2 hr' (by rw [hx]; exact hk)⟩
      | goto l =>
        cases hf : findLabel whole l with
        | some rest =>
          simp only [Exit.leaps, hf] at hq
          obtain ⟨e₂, a₂, w₂, hq₂, harr₂⟩ := ih rest a₁ w₁ hq
          exact ⟨e₂, a₂, w₂, hq₂, .of_steps (harr.1 _ (by simp [gotoIn, hf])) harr₂⟩
        | none =>
          simp only [Exit.leaps, hf] at hq
          have hx : gotoIn l (.inScope whole :: k) = gotoIn l k := by simp [gotoIn, hf]
          exact ⟨_, a₁, w₁, hq, fun k' hk => harr.1 k' (by rw [hx]; exact hk), fun hr' hk => harr.2 hr' (by rw [hx]; exact hk)⟩
      | ret => exact ⟨_, a₁, w₁, hq, harr⟩
      | panic ch => exact ⟨_, a₁, w₁, hq, harr⟩
      | outgrown => exact ⟨_, a₁, w₁, hq, harr⟩
  obtain ⟨e, a', w', hq, harr⟩ := key m whole a w h
  exact ⟨e, a', w', hq, .of_steps (.one (fenced_calm hb hr rfl) stepR_scope) harr⟩

theorem findL_sound {P : Program} {nt : Nat} : ∀ {c : Code} {cc : CCode}, chkCode P nt c cc = true → ∀ l, match findL cc l with
    | some r => ∃ rest, findLabel c l = some rest ∧ chkCode P nt rest r = true
    | none => findLabel c l = none
  | c, cc, h, l => by
    cases cc with
    | seq x y =>
      cases c <;> first | (simp [chkCode] at h; done) | skip
      case seq a b =>
        simp only [chkCode, Bool.and_eq_true] at h
        have h1 := findL_sound h.1 l
        have h2 := findL_sound h.2 l
        simp only [findL, findLabel]
        cases hx : findL x l with
        | some r =>
          rw [hx] at h1
          obtain ⟨rest, g1, g2⟩ := h1
          simp only [g1]
          exact ⟨_, rfl, by simp only [chkCode, Bool.and_eq_true]; exact ⟨g2, h.2⟩⟩
        | none =>
          rw [hx] at h1
          simp only at h1
          simp only [h1]
          exact h2
      all_goals (rename_i p; cases p <;> simp [chkCode] at h)
    | label l' =>
      cases c <;> first | (simp [chkCode] at h; done) | skip
      case label l2 =>
        simp only [chkCode, beq_iff_eq] at h
        subst h
        simp only [findL, findLabel]
        split
        · rename_i hq; split at hq <;> first | (rename_i e; cases hq; exact ⟨.skip, by rw [if_pos e], rfl⟩) | (cases hq; done)
        · rename_i hq; split at hq <;> first | (cases hq; done) | (rename_i e; simp [e])
      all_goals (rename_i p; cases p <;> simp [chkCode] at h)
    | _ =>
      simp only [findL]
      cases c <;> first | rfl | (simp [chkCode] at h; done) | (rename_i p; cases p <;> simp [chkCode] at h; done)

/-! ### A turn of memory beside all cells -/
structure Side (w w' : World) : Prop where
  cl : ∀ (b : Nat) (arr : Array Value) (T : TypeId) (fr : Nat × Nat), w.heap[b]? = some (Obj.cells arr T fr) → w'.heap[b]? = some (Obj.cells arr T fr)
  size : w.heap.size ≤ w'.heap.size
  os : w'.os = w.os
  tape : w'.tape = w.tape
  output : w'.output = w.output

theorem Side.trans {a b c : World} (x : Side a b) (y : Side b c) : Side a c :=
  ⟨fun k arr T fr h => y.cl k arr T fr (x.cl k arr T fr h), Nat.le_trans x.size y.size, y.os.trans x.os, y.tape.trans x.tape, y.output.trans x.output⟩

theorem Side.alloc (w : World) (o : Obj) : Side w (w.alloc o) :=
  ⟨fun b arr T fr h => by rw [(Pushed.alloc w o).old (Array.getElem?_eq_some_iff.1 h).1]; exact h, by rw [(Pushed.alloc w o).size]; omega, rfl, rfl, rfl⟩

theorem Side.put {w : World} {l : Nat} {ob : Obj} (hl : ∀ arr T fr, w.heap[l]? ≠ some (.cells arr T fr)) (o : Obj) (_hb : w.heap[l]? = some ob) : Side w (w.putObj l o) :=
  ⟨fun b arr T fr h => by rw [World.putObj_heap_other (by rintro rfl; exact hl _ _ _ h)]; exact h, by rw [World.putObj_size]; exact Nat.le_refl _, rfl, rfl, rfl⟩

theorem Side.cell {w w' : World} (s : Side w w') {b o : Nat} {v : Value} (h : w.cell? ⟨b, o, none⟩ = some v) : w'.cell? ⟨b, o, none⟩ = some v := by
  unfold World.cell? at h ⊢
  cases hb : w.heap[b]? with
  | none => rw [hb] at h; simp at h
  | some ob =>
    rw [hb] at h
    cases ob with
    | cells arr T fr => rw [s.cl b arr T fr hb]; exact h
    | _ => simp at h

def Cx.at (c : Cx) (w : World) : Cx := { c with w := w }

theorem Side.le {c : Cx} {h : Heap} (hr : HRel c h) {w : World} (s : Side c.w w) : c.le (c.at w) :=
  ⟨Nat.le_refl _, Nat.le_refl _, ⟨fun _ _ hs => hs, fun b o hs => by obtain ⟨v, hv⟩ := hr.stb b o hs; rw [hv]; exact s.cell hv⟩, fun _ _ => Gh.le_refl _, fun _ _ => rfl, fun _ _ => rfl⟩

theorem HRel.at {c : Cx} {h : Heap} (hr : HRel c h) {w : World} (s : Side c.w w) : HRel (c.at w) h :=
  hr.mono_same (Side.le hr s) rfl (fun b o hs => .inl hs) (fun b ho => by
    obtain ⟨arr, T, fr, h1⟩ := ownH_cells hr ho
    show w.heap[b]? = _
    rw [h1]; exact s.cl _ _ _ _ h1)

/-- As far as blocks are turned, they are new or loops of mine. -/
theorem Ext.at {P : Program} {c : Cx} {st : St} {lp lp' : List (Option LRec)} {wp : Nat} (hr : StRel P c st lp') {w : World} (s : Side c.w w) (hb : ∀ b, b < c.w.heap.size → ¬ Own c st.h lp b → w.heap[b]? = c.w.heap[b]?) : Ext c (c.at w) st st lp wp :=
  ⟨(Side.le hr.h s).keeps, fun _ _ => Gh.le_refl _, Nat.le_refl _, rfl, fun _ _ => rfl, fun _ _ => rfl, hb, s.size, fun _ h => .inl h, s.os, s.tape, s.output, fun _ _ _ => rfl, Nat.le_refl _, fun _ _ h _ => ⟨rfl, h⟩, fun _ _ h => .inl h, fun _ _ => rfl⟩

/-! ### Marks -/
def mark (b : Nat) : Deferred := { target := .collected b, args := #[] }
def DefsOK (B : Nat) (w : World) (ds : List Deferred) : Prop := ∃ bs : List Nat, ds = bs.map mark ∧ bs.Nodup ∧ ∀ b ∈ bs, B ≤ b ∧ w.heap[b]? = some (.deferred (some []))

theorem DefsOK.nil (B : Nat) (w : World) : DefsOK B w [] := ⟨[], rfl, List.nodup_nil, by simp⟩

theorem DefsOK.ext {c c' : Cx} {st st' : St} {lp : List (Option LRec)} {wp B : Nat} {ds : List Deferred} (h : DefsOK B c.w ds) (x : Ext c c' st st' lp wp) {P : Program} (s : StRel P c st lp) : DefsOK B c'.w ds := by
  obtain ⟨bs, h1, h2, h3⟩ := h
  refine ⟨bs, h1, h2, fun b hb => ?_⟩
  obtain ⟨h4, h5⟩ := h3 b hb
  refine ⟨h4, ?_⟩
  rw [x.blk b (Array.getElem?_eq_some_iff.1 h5).1 ?_]
  · exact h5
  · rintro (h6 | ⟨i, r, h6, h7⟩)
    · obtain ⟨arr, T, fr, h8⟩ := ownH_cells s.h h6
      rw [h5] at h8; cases h8
    · obtain ⟨p, _, h8, _⟩ := s.rcd i r h6
      rw [h7, h5] at h8; cases h8

theorem leaves_marks {P : Program} {fn : Func} {tmps : Array Value} {R : Ending → World → Prop} {B : Nat} : ∀ (bs : List Nat) (w : World), bs.Nodup → (∀ b ∈ bs, B ≤ b ∧ w.heap[b]? = some (.deferred (some []))) →
    (∀ w', Side w w' → (∀ b, b ∉ bs → w'.heap[b]? = w.heap[b]?) → ∃ v, (results fn tmps).run P w' = .ok v w' ∧ R (.returned v) w') → LeavesInM Fence.wide 0 P fn tmps R (bs.map mark) .returning w
  | [], w, _, _, h => h w ⟨fun _ _ _ _ h => h, Nat.le_refl _, rfl, rfl, rfl⟩ (fun _ _ => rfl)
  | b :: bs, w, hn, hb, h => by
    rw [List.nodup_cons] at hn
    obtain ⟨_, h1⟩ := hb b (by simp)
    refine ⟨by simp, .inl ⟨b, _, rfl, run_takeDeferred h1, ?_⟩⟩
    have sd : Side w (w.putObj b (.deferred none)) := Side.put (fun arr T fr e => by rw [h1] at e; cases e) _ h1
    refine leaves_marks bs _ hn.2 (fun b' hb' => ⟨(hb b' (by simp [hb'])).1, ?_⟩) fun w' s' e' => ?_
    · rw [World.putObj_heap_other (by rintro rfl; exact hn.1 hb')]; exact (hb b' (by simp [hb'])).2
    · refine h w' (sd.trans s') fun b' hb' => ?_
      simp only [List.mem_cons, not_or] at hb'
      rw [e' b' hb'.2, World.putObj_heap_other hb'.1]

/-! ### Results -/
def chkRes (P : Program) : List ResultVar → List RV → Bool
  | [], [] => true
  | .tmp t :: rs, .tmp t' :: vs => t == t' && chkRes P rs vs
  | .cell a t :: rs, .cell a' :: vs => a == a' && scalB P t && chkRes P rs vs
  | .cell a t :: rs, .cells a' n :: vs => a == a' && aggB P t && sz P t == some n && chkRes P rs vs
  | _, _ => false

inductive VRels (c : Cx) : List AV → List Value → Prop
  | nil : VRels c [] []
  | cons {x v xs vs} (h : VRel c x v) (t : VRels c xs vs) : VRels c (x :: xs) (v :: vs)

def readRes (P : Program) (tmps : Array Value) : ResultVar → Sem Value
  | .tmp t => pure (tmps.getD t undef)
  | .cell a t => do loadVar t (← asAddr (tmps.getD a undef))

theorem readRes_sound {P : Program} {c : Cx} {env : Env} {tm : Array Value} (he : EnvRel c env tm) {h : Heap} (hr : HRel c h) : ∀ {rs : List ResultVar} {rvs : List RV}, chkRes P rs rvs = true → ∀ {xs : List AV}, evRes env h rvs = some xs →
    ∃ vs, (rs.mapM (readRes P tm)).run P c.w = .ok vs c.w ∧ VRels c xs vs
  | [], [], _, xs, h1 => by
    simp only [evRes, Option.some.injEq] at h1; subst h1
    exact ⟨[], by simp, .nil⟩
  | r :: rs, rv :: rvs, hk, xs, h1 => by
    have hget : ∀ {t x}, look env t = some x → VRel c x (tm.getD t undef) := fun h => (he _ _ h).2
    have fin : ∀ {x : AV} {v : Value} {ys : List AV}, (readRes P tm r).run P c.w = .ok v c.w → VRel c x v → chkRes P rs rvs = true → evRes env h rvs = some ys → ∃ vs, ((r :: rs).mapM (readRes P tm)).run P c.w = .ok vs c.w ∧ VRels c (x :: ys) vs := by
      intro x v ys hrun hv hk2 hy
      obtain ⟨vs, g1, g2⟩ := readRes_sound he hr hk2 hy
      refine ⟨v :: vs, ?_, .cons hv g2⟩
      simp only [List.mapM_cons, Sem.run_bind, hrun, Result.andThen_ok, g1, Sem.run_pure]
    unfold chkRes at hk
    split at hk
    · rename_i h0; cases h0
    · rename_i t rs' t' vs' e1 e2
      cases e1; cases e2
      simp only [Bool.and_eq_true, beq_iff_eq] at hk
      obtain ⟨rfl, hk⟩ := hk
      simp only [evRes] at h1
      split at h1
      · rename_i v ys h2 h3
        cases h1
        exact fin (by simp only [readRes, Sem.run_pure]) (hget h2) hk h3
      · cases h1
    · rename_i a t rs' a' vs' e1 e2
      cases e1; cases e2
      simp only [Bool.and_eq_true, beq_iff_eq] at hk
      obtain ⟨⟨rfl, hs⟩, hk⟩ := hk
      simp only [evRes] at h1
      split at h1
      · rename_i v ys h2 h3
        cases h1
        split at h2
        · rename_i l o hl
          split at h2
          · rename_i cs hcs
            obtain ⟨_, b, arr, T, g1, g2, g3, g4, _⟩ := hr.box l cs hcs
            obtain ⟨b', hxe, _, hb⟩ := (hget hl).inv_ptr
            rw [g1] at hb; cases hb
            have hlt : o < arr.size := Nat.lt_of_lt_of_le (List.getElem?_eq_some_iff.1 h2).1 g3
            have hc : c.w.cell? ⟨b, o, none⟩ = some arr[o] := by rw [cell_of_heap g2]; exact Array.getElem?_eq_getElem hlt
            refine fin (v := arr[o]) ?_ (g4 o v _ h2 (Array.getElem?_eq_getElem hlt)) hk h3
            simp [readRes, hxe, asAddr, loadVar, run_isAgg_false _ hs, hc]
          · cases h2
        · cases h2
      · cases h1
    · rename_i a t rs' a' n vs' e1 e2
      cases e1; cases e2
      simp only [Bool.and_eq_true, beq_iff_eq] at hk
      obtain ⟨⟨⟨rfl, hs⟩, hn⟩, hk⟩ := hk
      simp only [evRes] at h1
      split at h1
      · rename_i v ys h2 h3
        cases h1
        split at h2
        · rename_i l off hl
          split at h2
          · rename_i cs hcs
            split at h2
            · rename_i hle
              cases h2
              obtain ⟨_, b, arr, T, g1, g2, g3, g4, _⟩ := hr.box l cs hcs
              obtain ⟨b', hxe, _, hb⟩ := (hget hl).inv_ptr
              rw [g1] at hb; cases hb
              have hrun := run_loadCells_list (P := P) c.w ⟨b, off, none⟩ ((arr.toList.drop off).take n) (fun j v hj => by
                rw [add_plain, cell_of_heap g2]
                simp only [List.getElem?_take, List.getElem?_drop] at hj
                split at hj
                · simpa using hj
                · cases hj)
              have hlen : ((arr.toList.drop off).take n).length = n := by simp; omega
              rw [hlen] at hrun
              refine fin (v := .agg ((arr.toList.drop off).take n).toArray) ?_ (.agg (by simp; omega) fun j x v hx hv => ?_) hk h3
              · simp [readRes, hxe, asAddr, loadVar, run_isAgg_true _ hs, run_sizeOf _ hn, hrun]
              · simp only [List.getElem?_take, List.getElem?_drop, List.getElem?_toArray] at hx hv
                split at hx
                · rename_i hj; simp only [hj, if_true] at hv; exact g4 (off + j) x v hx (by simpa using hv)
                · cases hx
            · cases h2
          · cases h2
        · cases h2
      · cases h1
    · cases hk
  | [], _ :: _, hk, _, _ => by simp [chkRes] at hk
  | r :: rs, [], hk, _, _ => by cases r <;> simp [chkRes] at hk

theorem VRels.get {c : Cx} {xs : List AV} {vs : List Value} (h : VRels c xs vs) : xs.length = vs.length ∧ ∀ (j : Nat) x v, xs[j]? = some x → vs[j]? = some v → VRel c x v := by
  induction h with
  | nil => exact ⟨rfl, fun j x v hx => by simp at hx⟩
  | cons h _ ih =>
    refine ⟨by simp [ih.1], fun j x v hx hv => ?_⟩
    cases j with
    | zero => simp at hx hv; subst hx; subst hv; exact h
    | succ j => simp at hx hv; exact ih.2 j x v hx hv

theorem VRels.mono {c c' : Cx} {xs : List AV} {vs : List Value} (h : VRels c xs vs) (hc : ∀ x ∈ xs, ∀ v, VRel c x v → VRel c' x v) : VRels c' xs vs := by
  induction h with
  | nil => exact .nil
  | cons h _ ih => exact .cons (hc _ (by simp) _ h) (ih fun x hx v hv => hc x (by simp [hx]) v hv)

theorem VRels.one {c : Cx} {xs : List AV} {vs : List Value} (h : VRels c xs vs) : VRel c (oneOf xs) (if h : vs.toArray.size = 1 then vs.toArray[0] else .tuple vs.toArray) := by
  obtain ⟨h1, h2⟩ := h.get
  match xs, vs, h with
  | [x], [v], .cons hx .nil => simpa [oneOf] using hx
  | [], [], _ => exact .tup (by simp) (fun j x v hx => by simp at hx)
  | x :: y :: xs, [v], h => simp at h1
  | x :: y :: xs, u :: v :: vs, _ =>
    rw [dif_neg (by simp)]
    exact .tup (by simpa using h1.symm) (fun j x v hx hv => h2 j x v hx (by simpa using hv))

theorem results_sound {P : Program} {fn : Func} {c : Cx} {env : Env} {tm : Array Value} (he : EnvRel c env tm) {h : Heap} (hr : HRel c h) {rvs : List RV} (hk : chkRes P fn.results.toList rvs = true) {xs : List AV} (h1 : evRes env h rvs = some xs) :
    ∃ vs, (results fn tm).run P c.w = .ok (if h : vs.toArray.size = 1 then vs.toArray[0] else .tuple vs.toArray) c.w ∧ VRels c xs vs := by
  obtain ⟨vs, g1, g2⟩ := readRes_sound he hr hk h1
  refine ⟨vs, ?_, g2⟩
  have e : (fn.results.mapM (readRes P tm)).run P c.w = .ok vs.toArray c.w := by
    rw [← Array.toArray_toList (xs := fn.results), List.mapM_toArray]
    simp only [Sem.run_map, g1]
    rfl
  show Sem.run P (do let vs ← fn.results.mapM (readRes P tm); pure (if h : vs.size = 1 then vs[0] else .tuple vs)) c.w = _
  simp only [Sem.run_bind, e, Result.andThen_ok, Sem.run_pure]
end Go.Proofs.YtfifgiopdbdeoaaDoor.Lite
namespace Go.Proofs.YtfifgiopdbdeoaaDoor.Lite
open Go Go.RowKit

def DVRel (S : Stb) (w : World) : DV → Value → Prop
  | .s x, v => DRel S w x v
  | .g xs, v => ∃ arr : Array Value, v = .agg arr ∧ arr.size = xs.length ∧ ∀ (j : Nat) x u, xs[j]? = some x → arr[j]? = some u → DRel S w x u

def ORel (S : Stb) (w : World) (rs : List DV) (v : Value) : Prop :=
  (∃ d, rs = [d] ∧ DVRel S w d v) ∨ (rs.length ≠ 1 ∧ ∃ arr : Array Value, v = .tuple arr ∧ arr.size = rs.length ∧ ∀ (j : Nat) d u, rs[j]? = some d → arr[j]? = some u → DVRel S w d u)

structure Kept (S S' : Stb) (w w' : World) : Prop where
  sub : ∀ b o, S b o → S' b o
  new : ∀ b o, S' b o → S b o ∨ w.heap.size ≤ b
  blk : ∀ b, b < w.heap.size → w'.heap[b]? = w.heap[b]?
  size : w.heap.size ≤ w'.heap.size
  os : w'.os = w.os
  tape : w'.tape = w.tape
  output : w'.output = w.output
  stb : ∀ b o, S' b o → ∃ v, w'.cell? ⟨b, o, none⟩ = some v

structure Pure (P : Program) (f : Nat) (F : List DV → Option (List DV)) : Prop where
  enter : ∀ args w, (callFunc f args).run P w = .ok (.enter f args) w
  calls : ∀ (S : Stb) (w : World) (args : Array Value) (dvs rs : List DV), F dvs = some rs → args.size = dvs.length → (∀ (j : Nat) d v, dvs[j]? = some d → args[j]? = some v → DVRel S w d v) →
    (∀ b o, S b o → ∃ v, w.cell? ⟨b, o, none⟩ = some v) → GI S w → CallsIn Fence.wide 0 P f args w (fun e w' => ∃ v S', e = .returned v ∧ Kept S S' w w' ∧ ORel S' w' rs v)

theorem DVRel.mono {S S' : Stb} {w w' : World} (hk : Keeps S S' w w') {d : DV} {v : Value} (h : DVRel S w d v) : DVRel S' w' d v := by
  cases d with
  | s x => exact DRel.mono hk h
  | g xs => obtain ⟨arr, h1, h2, h3⟩ := h; exact ⟨arr, h1, h2, fun j x u hx hu => (h3 j x u hx hu).mono hk⟩

theorem DRel.flat {S S' : Stb} {w w' : World} {x : Dat} {v : Value} (hf : x.flat = true) (h : DRel S w x v) : DRel S' w' x v := by
  cases h with
  | int k n => exact .int k n
  | bool b => exact .bool b
  | str s => exact .str s
  | nil b c => exact .nil b c
  | sl rows b off e cap vals he hc hs hr =>
    have : rows = [] := by simpa [Dat.flat] using hf
    subst this
    exact .nil _ _

theorem DVRel.flat {S S' : Stb} {w w' : World} {d : DV} {v : Value} (hf : d.flat = true) (h : DVRel S w d v) : DVRel S' w' d v := by
  cases d with
  | s x => exact DRel.flat hf h
  | g xs =>
    obtain ⟨arr, h1, h2, h3⟩ := h
    simp only [DV.flat, List.all_eq_true] at hf
    exact ⟨arr, h1, h2, fun j x u hx hu => (h3 j x u hx hu).flat (hf x (List.mem_of_getElem? hx))⟩

theorem DVRel.av {c : Cx} {d : DV} {v : Value} (h : DVRel c.S c.w d v) : VRel c d.av v := by
  cases d with
  | s x => exact .d h
  | g xs =>
    obtain ⟨arr, h1, h2, h3⟩ := h
    subst h1
    refine .agg (by simp [h2]) fun j x u hx hu => ?_
    rw [List.getElem?_map] at hx
    cases hq : xs[j]? with
    | none => rw [hq] at hx; cases hx
    | some y => rw [hq] at hx; cases hx; exact .d (h3 j y u hq hu)

theorem ORel.av {c : Cx} {rs : List DV} {v : Value} (h : ORel c.S c.w rs v) : VRel c (oneOf (rs.map DV.av)) v := by
  rcases h with ⟨d, rfl, h⟩ | ⟨hl, arr, rfl, hz, h⟩
  · exact h.av
  · have : oneOf (rs.map DV.av) = .tup (rs.map DV.av) := by
      match rs, hl with
      | [], _ => rfl
      | [d], hl => simp at hl
      | _ :: _ :: _, _ => rfl
    rw [this]
    refine .tup (by simp [hz]) fun j x u hx hu => ?_
    rw [List.getElem?_map] at hx
    cases hq : rs[j]? with
    | none => rw [hq] at hx; cases hx
    | some y => rw [hq] at hx; cases hx; exact (h j y u hq hu).av

def Sall (w : World) : Stb := fun b o => ∃ v, w.cell? ⟨b, o, none⟩ = some v

theorem dvs_agg {c : Cx} {cs : List AV} {ds : List Dat} (hd : dats? cs = some ds) {v : Value} (hv : VRel c (.agg cs) v) : DVRel c.S c.w (.g ds) v := by
  obtain ⟨arr, rfl, hz, hr⟩ := hv.inv_agg
  obtain ⟨h1, h2⟩ := dats_get hd
  refine ⟨arr, rfl, by rw [hz, h1], fun j x u hx hu => ?_⟩
  obtain ⟨y, hy, hyd⟩ := h2 j x hx
  exact dat_rel hyd (hr j y u hy hu)

theorem sall_keeps {c : Cx} {h : Heap} (hr : HRel c h) : Keeps c.S (Sall c.w) c.w c.w := ⟨fun b o hs => hr.stb b o hs, fun _ _ _ => rfl⟩

theorem rows_box {h : Heap} {e l off n e' m : Nat} {r : List (List Dat)} (h1 : rows? h e (.slr l off n e' m) = some r) : ∃ cs, getO h l = some (.cells cs) := by
  unfold rows? at h1
  simp only at h1
  split at h1
  · split at h1
    · rename_i cs hg; exact ⟨cs, hg⟩
    · cases h1
  · cases h1

theorem toDV_gen {c : Cx} {h : Heap} (hr : HRel c h) {S2 : Stb} (h0 : ∀ b o, c.S b o → S2 b o) (hown : ∀ b o u, OwnH c h b → c.w.cell? ⟨b, o, none⟩ = some u → S2 b o) {x : AV} {v : Value} (hv : VRel c x v) {d : DV} (h1 : toDV h x = some d) :
    DVRel S2 c.w d v ∧ (x.tied = false → DVRel c.S c.w d v) := by
  have hk : Keeps c.S S2 c.w c.w := ⟨h0, fun _ _ _ => rfl⟩
  have plain : ∀ {y : Dat}, x.dat? = some y → DVRel S2 c.w (.s y) v ∧ (x.tied = false → DVRel c.S c.w (.s y) v) := fun hy => ⟨(dat_rel hy hv).mono hk, fun _ => dat_rel hy hv⟩
  unfold toDV at h1
  split at h1
  · rename_i cs
    obtain ⟨ds, h2, rfl⟩ := map_some_inv h1
    exact ⟨(dvs_agg h2 hv).mono hk, fun _ => dvs_agg h2 hv⟩
  · rename_i l off n e m
    obtain ⟨r, h2, rfl⟩ := map_some_inv h1
    obtain ⟨news, hra⟩ := rows_sound hr (fun _ _ h => h) hv h2
    obtain ⟨b, cap, hve, _, hbx, hcap, _⟩ := hv.inv_slr
    obtain ⟨base, cap', hs1, hs2⟩ := hra.shape
    obtain ⟨cs, hcs⟩ := rows_box h2
    rw [hve] at hs1
    injection hs1 with e1 e2 e3
    subst e1; subst e3
    by_cases hne : r = []
    · subst hne
      have hn : n = 0 := by simpa using e2
      subst hn; subst hve
      exact ⟨.nil _ _, fun _ => .nil _ _⟩
    · obtain ⟨ad, ha, hc⟩ := hs2 hne
      cases ha
      have hpos : 0 < r.length := List.length_pos_iff.2 hne
      refine ⟨?_, fun ht => by
        have : n = 0 := by simpa [AV.tied] using ht
        omega⟩
      subst hve
      rw [e2]
      have hel : ∀ i j x, at2 r i j = some x → ∃ u, news[i * e + j]? = some u ∧ DRel c.S c.w x u := hra.rel
      refine .sl r b off e cap (fun i j => (news[i * e + j]?).getD undef) hra.row (by omega) (fun i j x hx => ?_) (fun i j x hx => ?_)
      · obtain ⟨u, hu, _⟩ := hel i j x hx
        have hcell := hc _ _ hu
        rw [add_plain] at hcell
        rw [Nat.add_assoc, hu]
        exact ⟨hown _ _ u ⟨l, _, hcs, by rw [hbx]; rfl⟩ hcell, hcell⟩
      · obtain ⟨u, hu, hD⟩ := hel i j x hx
        rw [hu]
        exact hD.mono hk
  · obtain ⟨y, h2, rfl⟩ := map_some_inv h1
    exact plain h2

theorem toDV_sound {c : Cx} {h : Heap} (hr : HRel c h) {x : AV} {v : Value} (hv : VRel c x v) {d : DV} (h1 : toDV h x = some d) : DVRel (Sall c.w) c.w d v ∧ (x.tied = false → DVRel c.S c.w d v) :=
  toDV_gen hr (fun b o hs => hr.stb b o hs) (fun _ _ u _ h => ⟨u, h⟩) hv h1

theorem toDVs_get {h : Heap} : ∀ {xs : List AV} {ds : List DV}, toDVs h xs = some ds → xs.length = ds.length ∧ ∀ (j : Nat) d, ds[j]? = some d → ∃ x, xs[j]? = some x ∧ toDV h x = some d
  | [], ds, h1 => by simp only [toDVs, Option.some.injEq] at h1; subst h1; exact ⟨rfl, fun j d hd => by simp at hd⟩
  | x :: xs, ds, h1 => by
    simp only [toDVs] at h1
    split at h1
    · rename_i d ds' h2 h3
      injection h1 with h1; subst h1
      obtain ⟨h4, h5⟩ := toDVs_get h3
      refine ⟨by simp [h4], fun j d' hd => ?_⟩
      cases j with
      | zero => simp at hd; subst hd; exact ⟨x, rfl, h2⟩
      | succ j => simp at hd ⊢; exact h5 j d' hd
    · cases h1

/-- A call of a function known by its contract. -/
theorem orc_call {P : Program} {f : Nat} {F : List DV → Option (List DV)} (hp : Pure P f F) {c : Cx} {st : St} {lp : List (Option LRec)} {wp : Nat} (hs : StRel P c st lp) (hN : c.N = st.h.length) {args : List AV} {dvs rs : List DV} (hd : toDVs st.h args = some dvs) (hF : F dvs = some rs)
    (ht : (!args.any AV.tied || rs.all DV.flat) = true) {vs : Array Value} (hz : vs.size = args.length) (ha : ∀ (j : Nat) y v, args[j]? = some y → vs[j]? = some v → VRel c y v) :
    CallsIn Fence.wide 0 P f vs c.w (fun e w' => ∃ v, e = .returned v ∧ Res P c st st lp wp (oneOf (rs.map DV.av)) v w') := by
  obtain ⟨hl, hg⟩ := toDVs_get hd
  let S0 : Stb := if args.any AV.tied then Sall c.w else c.S
  have hS0 : ∀ b o, c.S b o → S0 b o := by
    intro b o h
    show (if args.any AV.tied then Sall c.w else c.S) b o
    split
    · exact hs.h.stb b o h
    · exact h
  have hS1 : ∀ b o, S0 b o → ∃ v, c.w.cell? ⟨b, o, none⟩ = some v := by
    intro b o h
    change (if args.any AV.tied then Sall c.w else c.S) b o at h
    split at h
    · exact h
    · exact hs.h.stb b o h
  have hG0 : GI S0 c.w := by
    show GI (if args.any AV.tied then Sall c.w else c.S) c.w
    split
    · exact hs.h.gi.keep (sall_keeps hs.h)
    · exact hs.h.gi
  refine (hp.calls S0 c.w vs dvs rs hF (by rw [hz, hl]) (fun j d v hdj hvj => ?_) hS1 hG0).mono ?_
  · obtain ⟨x, hx, hxd⟩ := hg j d hdj
    obtain ⟨g1, g2⟩ := toDV_sound hs.h (ha j x v hx hvj) hxd
    show DVRel (if args.any AV.tied then Sall c.w else c.S) _ _ _
    split
    · exact g1
    · rename_i hno
      refine g2 ?_
      simp only [List.any_eq_true, not_exists, not_and, Bool.not_eq_true] at hno
      exact hno x (List.mem_of_getElem? hx)
  · rintro e w' ⟨v, S', rfl, hk, ho⟩
    refine ⟨v, rfl, ?_⟩
    let S2 : Stb := fun b o => S' b o ∧ (c.S b o ∨ c.w.heap.size ≤ b)
    let c' : Cx := { c with S := S2, w := w' }
    have hkeep : Keeps c.S S2 c.w w' := ⟨fun b o h => ⟨hk.sub b o (hS0 b o h), .inl h⟩, fun b o h => by
      obtain ⟨u, hu⟩ := hs.h.stb b o h
      exact cell_of_block (hk.blk b (cell_lt hu)) o⟩
    have hle : c.le c' := ⟨Nat.le_refl _, Nat.le_refl _, hkeep, fun _ _ => Gh.le_refl _, fun _ _ => rfl, fun _ _ => rfl⟩
    have hst : ∀ b o, S2 b o → c.S b o ∨ (c.w.heap.size ≤ b ∧ ∃ u, w'.cell? ⟨b, o, none⟩ = some u) := fun b o h => h.2.imp id fun h2 => ⟨h2, hk.stb b o h.1⟩
    have hob : ∀ b, OwnH c st.h b → w'.heap[b]? = c.w.heap[b]? := fun b hb => by
      obtain ⟨arr, T, fr, h1⟩ := ownH_cells hs.h hb
      exact hk.blk b (Array.getElem?_eq_some_iff.1 h1).1
    have hr' : HRel c' st.h := hs.h.mono_same hle rfl hst hob
    have hx : HExt c c' st.h st.h wp := ⟨hkeep, fun _ _ => Gh.le_refl _, Nat.le_refl _, rfl, rfl, rfl, fun b hb _ => hk.blk b hb, hk.size, fun b hb => .inl hb, hk.os, hk.tape, hk.output, fun _ _ _ => rfl, Nat.le_refl _, fun _ _ h _ => ⟨rfl, h⟩,
      fun b z h => h.2.imp id .inr⟩
    refine ⟨c', rfl, hN, hs.of_h hx hr', .of_h hx, ORel.av ?_⟩
    show ORel S2 w' rs v
    by_cases hti : args.any AV.tied = true
    · rw [hti] at ht
      have hfl : ∀ d ∈ rs, d.flat = true := by simpa using ht
      rcases ho with ⟨d, rfl, h⟩ | ⟨g1, arr, g2, g3, g4⟩
      · exact .inl ⟨d, rfl, h.flat (hfl d (by simp))⟩
      · exact .inr ⟨g1, arr, g2, g3, fun j d u hd hu => (g4 j d u hd hu).flat (hfl d (List.mem_of_getElem? hd))⟩
    · have e0 : S0 = c.S := if_neg hti
      have hk2 : Keeps S' S2 w' w' := ⟨fun b o h => ⟨h, by have := hk.new b o h; rw [e0] at this; exact this⟩, fun _ _ _ => rfl⟩
      rcases ho with ⟨d, rfl, h⟩ | ⟨g1, arr, g2, g3, g4⟩
      · exact .inl ⟨d, rfl, h.mono hk2⟩
      · exact .inr ⟨g1, arr, g2, g3, fun j d u hd hu => (g4 j d u hd hu).mono hk2⟩
end Go.Proofs.YtfifgiopdbdeoaaDoor.Lite
namespace Go.Proofs.YtfifgiopdbdeoaaDoor.Lite
open Go Go.RowKit

inductive DTy where
  | int (k : IntKind)
  | bool
  | str
  | sl (row : List DTy)

inductive Ty : DTy → Dat → Prop
  | int (k n) (h : (Lit.int k n).wf = true) : Ty (.int k) (.int k n)
  | bool (b) : Ty .bool (.bool b)
  | str (s : List UInt8) (h : s.length ≤ maxLen) : Ty .str (.str s)
  | sl (ts : List DTy) (rows : List (List Dat)) (hl : rows.length ≤ maxLen) (h1 : ∀ row ∈ rows, row.length = ts.length)
      (h2 : ∀ row ∈ rows, ∀ (j : Nat) t d, ts[j]? = some t → row[j]? = some d → Ty t d) : Ty (.sl ts) (.sl rows)

inductive Op (w : World) : List DTy → List Dat → List Value → Prop
  | nil : Op w [] [] []
  | cons {t d v ts ds vs} (h1 : Ty t d) (h2 : DRel (Sall w) w d v) (h : Op w ts ds vs) : Op w (t :: ts) (d :: ds) (v :: vs)

theorem Op.append {w : World} {ts ts' : List DTy} {ds ds' : List Dat} {vs vs' : List Value} (h : Op w ts ds vs) (h' : Op w ts' ds' vs') : Op w (ts ++ ts') (ds ++ ds') (vs ++ vs') := by
  induction h with
  | nil => exact h'
  | cons h1 h2 _ ih => exact .cons h1 h2 ih
theorem Op.len {w : World} {ts : List DTy} {ds : List Dat} {vs : List Value} (h : Op w ts ds vs) : ds.length = ts.length ∧ vs.length = ts.length := by
  induction h with
  | nil => exact ⟨rfl, rfl⟩
  | cons h1 h2 _ ih => exact ⟨by simp [ih.1], by simp [ih.2]⟩
theorem Op.get {w : World} {ts : List DTy} {ds : List Dat} {vs : List Value} (h : Op w ts ds vs) : ∀ (j : Nat) d v, ds[j]? = some d → vs[j]? = some v → DRel (Sall w) w d v := by
  induction h with
  | nil => intro j d v hd; simp at hd
  | cons h1 h2 _ ih =>
    intro j d v hd hv
    cases j with
    | zero => simp at hd hv; subst hd hv; exact h2
    | succ j => simp at hd hv; exact ih j d v hd hv
theorem Op.ty {w : World} {ts : List DTy} {ds : List Dat} {vs : List Value} (h : Op w ts ds vs) : ∀ (j : Nat) t d, ts[j]? = some t → ds[j]? = some d → Ty t d := by
  induction h with
  | nil => intro j d v hd; simp at hd
  | cons h1 h2 _ ih =>
    intro j t d ht hd
    cases j with
    | zero => simp at hd ht; subst hd ht; exact h1
    | succ j => simp at hd ht; exact ih j t d ht hd

def fieldsTy (g : TypeId → Option (List DTy)) (P : Program) : Nat → List Field → Option (List DTy)
  | _, [] => some []
  | o, f :: fs => if f.offset = o then match g f.type with
      | some r => if P.cellsOf f.type = r.length then (fieldsTy g P (o + r.length) fs).map (r ++ ·) else none
      | none => none
    else none

def flatTy (P : Program) : Nat → TypeId → Option (List DTy)
  | 0, _ => none
  | n + 1, t => match P.underlying t with
    | some .bool => some [.bool]
    | some (.int k) => some [.int k]
    | some .string => some [.str]
    | some (.slice e) => match flatTy P n e with
      | some r => if r ≠ [] ∧ P.cellsOf e = r.length then some [.sl r] else none
      | none => none
    | some (.struct fs) => match fieldsTy (flatTy P n) P 0 fs.toList with
      | some r => if P.cellsOf t = r.length then some r else none
      | none => none
    | some (.array k e) => match flatTy P n e with
      | some r => if P.cellsOf e = r.length ∧ P.cellsOf t = k * r.length then some (List.replicate k r).flatten else none
      | none => none
    | _ => none

section
variable {H : Type} {enc : TypeId × Value → H} {P : Program} {w : World} {spare : Nat → Bool} {held : Bool}

theorem fields_op (n : Nat) (g : TypeId → Option (List DTy)) (hg : ∀ t cs x ts, DataW.trod enc P w 0 spare held n t cs = some x → g t = some ts → ∃ ds, Op w ts ds cs) (cs : List Value) :
    ∀ (fs : List Field) (o : Nat) (ts : List DTy), (∀ f ∈ fs, ∃ x, DataW.trod enc P w 0 spare held n f.type ((cs.drop f.offset).take (P.cellsOf f.type)) = some x) → fieldsTy g P o fs = some ts → cs.length = o + ts.length → ∃ ds, Op w ts ds (cs.drop o) := by
  intro fs
  induction fs with
  | nil =>
    intro o ts _ h hl
    simp only [fieldsTy, Option.some.injEq] at h
    subst h
    exact ⟨[], by rw [List.drop_eq_nil_of_le (by simpa using Nat.le_of_eq hl)]; exact .nil⟩
  | cons f fs ih =>
    intro o ts hx h hl
    simp only [fieldsTy] at h
    split at h
    · rename_i ho
      split at h
      · rename_i r hr
        split at h
        · rename_i hc
          obtain ⟨ts2, h2, rfl⟩ := Option.map_eq_some_iff.1 h
          obtain ⟨x, hx1⟩ := hx f (by simp)
          obtain ⟨ds1, h1⟩ := hg _ _ _ _ hx1 hr
          rw [List.length_append] at hl
          obtain ⟨ds2, h3⟩ := ih (o + r.length) ts2 (fun f' hf' => hx f' (by simp [hf'])) h2 (by omega)
          refine ⟨ds1 ++ ds2, ?_⟩
          have e : cs.drop o = (cs.drop f.offset).take (P.cellsOf f.type) ++ cs.drop (o + r.length) := by
            rw [ho, hc, ← List.drop_drop, List.take_append_drop]
          rw [e]
          exact h1.append h3
        · cases h
      · cases h
    · cases h

theorem array_op (n : Nat) (e : TypeId) (r : List DTy) (hg : ∀ cs x, DataW.trod enc P w 0 spare held n e cs = some x → ∃ ds, Op w r ds cs) (hc : P.cellsOf e = r.length) (cs : List Value) :
    ∀ (k i : Nat), (∀ j, i ≤ j → j < i + k → ∃ x, DataW.trod enc P w 0 spare held n e ((cs.drop (j * P.cellsOf e)).take (P.cellsOf e)) = some x) → cs.length = (i + k) * r.length → ∃ ds, Op w (List.replicate k r).flatten ds (cs.drop (i * r.length)) := by
  intro k
  induction k with
  | zero =>
    intro i _ hl
    exact ⟨[], by rw [List.drop_eq_nil_of_le (by simpa using Nat.le_of_eq hl)]; exact .nil⟩
  | succ k ih =>
    intro i hx hl
    obtain ⟨x, hx1⟩ := hx i (Nat.le_refl _) (by omega)
    obtain ⟨ds1, h1⟩ := hg _ _ hx1
    obtain ⟨ds2, h3⟩ := ih (i + 1) (fun j hj hj2 => hx j (by omega) (by omega)) (by rw [hl]; congr 1; omega)
    refine ⟨ds1 ++ ds2, ?_⟩
    have e2 : cs.drop (i * r.length) = (cs.drop (i * P.cellsOf e)).take (P.cellsOf e) ++ cs.drop ((i + 1) * r.length) := by
      rw [hc, Nat.add_mul, Nat.one_mul, ← List.drop_drop, List.take_append_drop]
    rw [e2, List.replicate_succ, List.flatten_cons]
    exact h1.append h3

theorem mapM_range {α : Type} {f : Nat → Option α} : ∀ (n : Nat) {l : List α}, (List.range n).mapM f = some l → l.length = n ∧ ∀ i, i < n → f i = l[i]? := by
  intro n l h
  exact ⟨by simpa using mapM_some_length h, fun i hi => mapM_some_get h i i (by simp [hi])⟩

theorem choose_rows {w : World} {r : List DTy} {Pr : Nat → List Dat → Prop} : ∀ (n : Nat), (∀ i, i < n → ∃ ds, Pr i ds) → ∃ rows : List (List Dat), rows.length = n ∧ ∀ i row, rows[i]? = some row → Pr i row := by
  intro n
  induction n with
  | zero => intro _; exact ⟨[], rfl, fun i row h => by simp at h⟩
  | succ n ih =>
    intro h
    obtain ⟨rows, h1, h2⟩ := ih fun i hi => h i (by omega)
    obtain ⟨d, hd⟩ := h n (by omega)
    refine ⟨rows ++ [d], by simp [h1], fun i row hi => ?_⟩
    rcases Nat.lt_or_ge i n with hl | hl
    · rw [List.getElem?_append_left (by omega)] at hi; exact h2 i row hi
    · have : i < n + 1 := by have := (List.getElem?_eq_some_iff.1 hi).1; simp [h1] at this; omega
      have : i = n := by omega
      subst this
      rw [List.getElem?_append_right (by omega), h1] at hi
      simp at hi; subst hi; exact hd

theorem cell_plain {a : Addr} {v : Value} (h : w.cell? a = some v) : a = ⟨a.block, a.off, none⟩ := by
  unfold World.cell? at h
  split at h
  · split at h
    · cases h
    · rename_i hs
      obtain ⟨b, o, s⟩ := a
      simp at hs
      subst hs; rfl
  · cases h

theorem trod_op (n : Nat) : ∀ (m : Nat) (t : TypeId) (cs : List Value) (x : DataW H × List MemPlace) (ts : List DTy), DataW.trod enc P w 0 spare held n t cs = some x → flatTy P m t = some ts → ∃ ds, Op w ts ds cs := by
  induction n with
  | zero => intro m t cs x ts h; simp [DataW.trod] at h
  | succ n ih =>
    intro m t cs x ts h hf
    cases m with
    | zero => simp [flatTy] at hf
    | succ m =>
      unfold flatTy at hf
      split at hf
      · rename_i ht
        injection hf with hf; subst hf
        obtain ⟨b, rfl, _⟩ := DataW.trod_bool ht h
        exact ⟨[.bool b], .cons (.bool b) (.bool b) .nil⟩
      · rename_i k ht
        injection hf with hf; subst hf
        obtain ⟨i, rfl, _, hw⟩ := DataW.trod_int ht h
        exact ⟨[.int k i], .cons (.int k i hw) (.int k i) .nil⟩
      · rename_i ht
        injection hf with hf; subst hf
        obtain ⟨s, rfl, _, hw⟩ := DataW.trod_string ht h
        exact ⟨[.str s.data.toList], .cons (.str _ (by rw [Array.length_toList]; exact hw)) (.str s) .nil⟩
      · rename_i e ht
        split at hf
        · rename_i r hr
          split at hf
          · rename_i hc
            injection hf with hf; subst hf
            obtain ⟨hne, hc⟩ := hc
            rcases DataW.trod_slice ht h with ⟨rfl, _⟩ | ⟨a, len, cap, elems, rest, n', hn, rfl, _, _, hlc, hcm, hel, hall, _, _⟩
            · exact ⟨[.sl []], .cons (.sl r [] (Nat.zero_le _) (fun _ h => by cases h) (fun _ h => by cases h)) (.nil _ _) .nil⟩
            · cases hn
              rcases Nat.eq_zero_or_pos len with h0 | hpos
              · rw [h0]; exact ⟨[.sl []], .cons (.sl r [] (Nat.zero_le _) (fun _ h => by cases h) (fun _ h => by cases h)) (.nil _ _) .nil⟩
              · have hrow : ∀ i, i < len → ∃ ds, ∃ vs, w.cells? 0 (a.add (i * P.cellsOf e)) (P.cellsOf e) = some vs ∧ Op w r ds vs := by
                  intro i hi
                  have h1 := hall i hi
                  have h2 : elems[i]? = some elems[i] := List.getElem?_eq_getElem (by omega)
                  rw [h2] at h1
                  obtain ⟨vs, h3, h4⟩ := Option.bind_eq_some_iff.1 h1
                  obtain ⟨ds, h5⟩ := ih m e vs _ r h4 hr
                  exact ⟨ds, vs, h3, h5⟩
                obtain ⟨rows, hl, hrows⟩ := choose_rows (w := w) (r := r) len hrow
                have hcell : ∀ i, i < len → ∀ j, j < r.length → ∃ v, w.cell? ((a.add (i * r.length)).add j) = some v := by
                  intro i hi j hj
                  obtain ⟨ds, vs, h3, h5⟩ := hrow i hi
                  unfold World.cells? at h3
                  rw [if_pos (Nat.zero_le _), hc] at h3
                  obtain ⟨g1, g2⟩ := mapM_range _ h3
                  have := g2 j hj
                  rw [List.getElem?_eq_getElem (by omega)] at this
                  exact ⟨_, this⟩
                have hrpos : 0 < r.length := List.length_pos_iff.2 hne
                have ha : a = ⟨a.block, a.off, none⟩ := by
                  obtain ⟨v, hv⟩ := hcell 0 hpos 0 hrpos
                  have := cell_plain hv
                  simpa [Addr.add] using this
                obtain ⟨b, off, sp⟩ := a
                have hsp : sp = none := by injection ha
                subst hsp
                have hadd : ∀ i j, ((⟨b, off, none⟩ : Addr).add i).add j = ⟨b, off + i + j, none⟩ := by
                  intro i j
                  unfold Addr.add
                  by_cases hi : i = 0 <;> by_cases hj : j = 0 <;> simp [hi, hj]
                have hD : DRel (Sall w) w (.sl rows) (.slice (some ⟨b, off, none⟩) rows.length cap) := by
                  have hlen : ∀ row ∈ rows, row.length = r.length := by
                    intro row hrow
                    obtain ⟨i, hi, he⟩ := List.getElem_of_mem hrow
                    obtain ⟨vs, _, h5⟩ := hrows i row (by rw [← he]; exact List.getElem?_eq_getElem hi)
                    exact h5.len.1
                  have key : ∀ i j x, at2 rows i j = some x → ∃ v, w.cell? ⟨b, off + i * r.length + j, none⟩ = some v ∧ DRel (Sall w) w x v := by
                    intro i j x hx
                    unfold at2 at hx
                    obtain ⟨row, h1, h2⟩ := Option.bind_eq_some_iff.1 hx
                    obtain ⟨vs, h3, h5⟩ := hrows i row h1
                    unfold World.cells? at h3
                    rw [if_pos (Nat.zero_le _), hc] at h3
                    obtain ⟨g1, g2⟩ := mapM_range _ h3
                    have hj : j < r.length := by have := (List.getElem?_eq_some_iff.1 h2).1; rw [h5.len.1] at this; exact this
                    have h6 := g2 j hj
                    have h7 : vs[j]? = some vs[j] := List.getElem?_eq_getElem (by omega)
                    rw [h7, hadd] at h6
                    exact ⟨_, h6, h5.get j x _ h2 h7⟩
                  refine .sl rows b off r.length cap (fun i j => (w.cell? ⟨b, off + i * r.length + j, none⟩).getD undef) hlen (by omega) (fun i j x hx => ?_) (fun i j x hx => ?_)
                  · obtain ⟨v, h1, h2⟩ := key i j x hx
                    exact ⟨⟨v, h1⟩, by rw [h1]; rfl⟩
                  · obtain ⟨v, h1, h2⟩ := key i j x hx
                    rw [h1]; exact h2
                refine ⟨[.sl rows], .cons (.sl r rows (by omega) (fun row hrow => ?_) (fun row hrow j t d ht hd => ?_)) (by rw [hl] at hD; exact hD) .nil⟩
                · obtain ⟨i, hi, he⟩ := List.getElem_of_mem hrow
                  obtain ⟨vs, _, h5⟩ := hrows i row (by rw [← he]; exact List.getElem?_eq_getElem hi)
                  exact h5.len.1
                · obtain ⟨i, hi, he⟩ := List.getElem_of_mem hrow
                  obtain ⟨vs, _, h5⟩ := hrows i row (by rw [← he]; exact List.getElem?_eq_getElem hi)
                  exact h5.ty j t d ht hd
          · cases hf
        · cases hf
      · rename_i fs ht
        split at hf
        · rename_i r hr
          split at hf
          · rename_i hc
            injection hf with hf; subst hf
            obtain ⟨xs, n', hn, rfl, hl, hxl, hall⟩ := DataW.trod_struct ht h
            cases hn
            have := fields_op n (flatTy P m) (fun t cs x ts => ih m t cs x ts) cs fs.toList 0 r (fun f hf => by
              obtain ⟨i, hi, he⟩ := List.getElem_of_mem hf
              have h1 := hall i f (by rw [← he]; simp at hi; simp [hi])
              rw [List.getElem?_eq_getElem (by simp at hi; omega)] at h1
              exact ⟨_, h1⟩) hr (by omega)
            simpa using this
          · cases hf
        · cases hf
      · rename_i k e ht
        split at hf
        · rename_i r hr
          split at hf
          · rename_i hc
            injection hf with hf; subst hf
            obtain ⟨xs, n', hn, rfl, hl, hxl, hall⟩ := DataW.trod_array ht h
            cases hn
            have := array_op n e r (fun cs x hx => ih m e cs x r hx hr) hc.1 cs k 0 (fun j _ hj => by
              have h1 := hall j (by omega)
              rw [List.getElem?_eq_getElem (by omega)] at h1
              exact ⟨_, h1⟩) (by rw [hl, hc.2]; simp)
            simpa using this
          · cases hf
        · cases hf
      · cases hf
end
end Go.Proofs.YtfifgiopdbdeoaaDoor.Lite
