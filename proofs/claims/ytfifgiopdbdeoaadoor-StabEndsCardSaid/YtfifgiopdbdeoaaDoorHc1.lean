/- A part of the proof of: StabEnds: whatever the view, what is told one behind the other: the law is true, and its arguments stay as they were; the card ties stab.phases to the text. No condition but the card own. -/
import Derived.RangeFuncNested
import Derived.RangeFuncLeaves
import Derived.OrdersIn
import Derived.Below
import Derived.Laws.CopyRow
import Derived.Laws.Append
import Derived.Laws.Slices
import Derived.Laws.StructEq
import Derived.ChangeKeysEq
import Derived.Laws.Tables
import Derived.Laws.AppendOwn
import Derived.Laws.MakeOwn
set_option linter.unusedSimpArgs false
set_option linter.unusedVariables false
namespace Go.Proofs.YtfifgiopdbdeoaaDoor.Lite
open Go Go.RowKit

inductive Dat where
  | int (k : IntKind) (n : Int)
  | bool (b : Bool)
  | str (s : List UInt8)
  | sl (rows : List (List Dat))
  deriving Inhabited

inductive AV where
  | d (x : Dat)
  | nils
  | ws (rows : List (List Dat)) (t : Nat)
  | slr (l off n e m : Nat)
  | ptr (l off : Nat)
  | nilp
  | iptr (cells : List Dat)
  | fn (f : Nat) (caps : List AV)
  | yld (i : Nat)
  | nilf
  | agg (cs : List AV)
  | tup (vs : List AV)
  | mp (l : Nat)
  | emp (nil : Bool)
  deriving Inhabited

inductive AObj where
  | cells (cs : List AV)
  | tok (e tip : Nat)
  | map (es : List (Dat × AV))

abbrev Heap := List (Option AObj)

/-- What stands in memory for an object. -/
inductive Gh where
  | no
  | box (b : Nat)
  | tok (base : Option Addr) (cap e tip : Nat)
  | map (b : Nat)

abbrev Stb := Nat → Nat → Prop

def at2 (rows : List (List Dat)) (i j : Nat) : Option Dat := (rows[i]?).bind (·[j]?)

inductive DRel (S : Stb) (w : World) : Dat → Value → Prop
  | int (k n) : DRel S w (.int k n) (.int k n)
  | bool (b) : DRel S w (.bool b) (.bool b)
  | str (s : ByteArray) : DRel S w (.str s.data.toList) (.string s)
  | nil (base cap) : DRel S w (.sl []) (.slice base 0 cap)
  | sl (rows : List (List Dat)) (b off e cap : Nat) (vals : Nat → Nat → Value)
      (he : ∀ row ∈ rows, row.length = e) (hc : rows.length ≤ cap)
      (hs : ∀ i j x, at2 rows i j = some x → S b (off + i * e + j) ∧ w.cell? ⟨b, off + i * e + j, none⟩ = some (vals i j))
      (hr : ∀ i j x, at2 rows i j = some x → DRel S w x (vals i j)) :
      DRel S w (.sl rows) (.slice (some ⟨b, off, none⟩) rows.length cap)

/-- Stable cells stay stable and hold what they held. -/
structure Keeps (S S' : Stb) (w w' : World) : Prop where
  sub : ∀ b o, S b o → S' b o
  cell : ∀ b o, S b o → w'.cell? ⟨b, o, none⟩ = w.cell? ⟨b, o, none⟩

theorem Keeps.refl (S : Stb) (w : World) : Keeps S S w w := ⟨fun _ _ h => h, fun _ _ _ => rfl⟩
theorem Keeps.trans {S1 S2 S3 : Stb} {w1 w2 w3 : World} (h : Keeps S1 S2 w1 w2) (k : Keeps S2 S3 w2 w3) : Keeps S1 S3 w1 w3 :=
  ⟨fun b o hs => k.sub b o (h.sub b o hs), fun b o hs => (k.cell b o (h.sub b o hs)).trans (h.cell b o hs)⟩

theorem DRel.mono {S S' : Stb} {w w' : World} (hk : Keeps S S' w w') {x : Dat} {v : Value} (h : DRel S w x v) : DRel S' w' x v := by
  induction h with
  | int k n => exact .int k n
  | bool b => exact .bool b
  | str s => exact .str s
  | nil base cap => exact .nil base cap
  | sl rows b off e cap vals he hc hs _ ih =>
    refine .sl rows b off e cap vals he hc (fun i j x hx => ?_) ih
    obtain ⟨h1, h2⟩ := hs i j x hx
    exact ⟨hk.sub _ _ h1, (hk.cell _ _ h1).trans h2⟩

def Gh.le : Gh → Gh → Prop
  | .no, _ => True
  | .box b, g => g = .box b
  | .map b, g => g = .map b
  | .tok base cap _ tip, g => ∃ base' cap' e' tip', g = .tok base' cap' e' tip' ∧ (tip < tip' ∨ (base = base' ∧ cap = cap' ∧ tip = tip'))

theorem Gh.le_refl (g : Gh) : g.le g := by
  cases g with
  | tok base cap e tip => exact ⟨base, cap, e, tip, rfl, .inr ⟨rfl, rfl, rfl⟩⟩
  | no => trivial
  | box b => rfl
  | map b => rfl

theorem Gh.le_trans {a b c : Gh} (h : a.le b) (k : b.le c) : a.le c := by
  cases a with
  | no => trivial
  | box x => simp only [Gh.le] at h; subst h; exact k
  | map x => simp only [Gh.le] at h; subst h; exact k
  | tok base cap e tip =>
    obtain ⟨b1, c1, e1, t1, rfl, h1⟩ := h
    obtain ⟨b2, c2, e2, t2, rfl, h2⟩ := k
    refine ⟨b2, c2, e2, t2, rfl, ?_⟩
    rcases h1 with h1 | ⟨rfl, rfl, rfl⟩
    · rcases h2 with h2 | ⟨rfl, rfl, rfl⟩
      · exact .inl (by omega)
      · exact .inl h1
    · exact h2

/-- All that values are told by: how many objects and loops there are, the stable cells, what stands for objects, the loops' records. -/
structure Cx where
  N : Nat
  M : Nat
  S : Stb
  ρ : Nat → Gh
  lm : Nat → Nat
  lc : Nat → Loop
  w : World

inductive VRel (c : Cx) : AV → Value → Prop
  | d {x v} (h : DRel c.S c.w x v) : VRel c (.d x) v
  | nils {base} : VRel c .nils (.slice base 0 0)
  | ws {rows t v base cap e tip} (ht : t < c.N) (h : DRel c.S c.w (.sl rows) v) (hg : c.ρ t = .tok base cap e tip) (hle : rows.length ≤ tip)
      (hb : rows.length = tip → v = .slice base tip cap) : VRel c (.ws rows t) v
  | slr {l off n e m b cap} (hl : l < c.N) (h : c.ρ l = .box b) (hc : n ≤ m) (hm : m ≤ cap) : VRel c (.slr l off n e m) (.slice (some ⟨b, off, none⟩) n cap)
  | ptr {l off b} (hl : l < c.N) (h : c.ρ l = .box b) : VRel c (.ptr l off) (.pointer (some ⟨b, off, none⟩))
  | nilp : VRel c .nilp (.pointer none)
  | iptr {cells b off} {vals : Nat → Value} (hs : ∀ j x, cells[j]? = some x → c.S b (off + j) ∧ c.w.cell? ⟨b, off + j, none⟩ = some (vals j))
      (hr : ∀ j x, cells[j]? = some x → DRel c.S c.w x (vals j)) : VRel c (.iptr cells) (.pointer (some ⟨b, off, none⟩))
  | fn {f caps} {arr : Array Value} (hz : arr.size = caps.length) (h : ∀ (j : Nat) x v, caps[j]? = some x → arr[j]? = some v → VRel c x v) : VRel c (.fn f caps) (.func (.func f) #[] arr)
  | yld {i} (hi : i < c.M) : VRel c (.yld i) (.func (.yield (c.lm i)) #[] #[])
  | nilf : VRel c .nilf .nilFunc
  | agg {cs} {arr : Array Value} (hz : arr.size = cs.length) (h : ∀ (j : Nat) x v, cs[j]? = some x → arr[j]? = some v → VRel c x v) : VRel c (.agg cs) (.agg arr)
  | tup {vs} {arr : Array Value} (hz : arr.size = vs.length) (h : ∀ (j : Nat) x v, vs[j]? = some x → arr[j]? = some v → VRel c x v) : VRel c (.tup vs) (.tuple arr)
  | mp {l b} (hl : l < c.N) (h : c.ρ l = .map b) : VRel c (.mp l) (.map (some b))
  | emp {base cap} : VRel c (.emp base.isNone) (.slice base 0 cap)

/-- From one context to a later one. -/
structure Cx.le (c c' : Cx) : Prop where
  n : c.N ≤ c'.N
  m : c.M ≤ c'.M
  keeps : Keeps c.S c'.S c.w c'.w
  gh : ∀ l, l < c.N → (c.ρ l).le (c'.ρ l)
  lm : ∀ i, i < c.M → c'.lm i = c.lm i
  lc : ∀ i, i < c.M → c'.lc i = c.lc i

theorem Cx.le_refl (c : Cx) : c.le c := ⟨Nat.le_refl _, Nat.le_refl _, .refl _ _, fun _ _ => Gh.le_refl _, fun _ _ => rfl, fun _ _ => rfl⟩
theorem Cx.le_trans {a b c : Cx} (h : a.le b) (k : b.le c) : a.le c :=
  ⟨Nat.le_trans h.n k.n, Nat.le_trans h.m k.m, h.keeps.trans k.keeps, fun l hl => Gh.le_trans (h.gh l hl) (k.gh l (Nat.lt_of_lt_of_le hl h.n)),
    fun i hi => (k.lm i (Nat.lt_of_lt_of_le hi h.m)).trans (h.lm i hi), fun i hi => (k.lc i (Nat.lt_of_lt_of_le hi h.m)).trans (h.lc i hi)⟩

theorem VRel.mono {c c' : Cx} (hc : c.le c') {x : AV} {v : Value} (h : VRel c x v) : VRel c' x v := by
  induction h with
  | d h => exact .d (h.mono hc.keeps)
  | nils => exact .nils
  | ws ht h hg hle hb =>
    have g := hc.gh _ ht
    rw [hg] at g
    obtain ⟨b', c', e', t', hg', hcase⟩ := g
    refine .ws (Nat.lt_of_lt_of_le ht hc.n) (h.mono hc.keeps) hg' ?_ ?_
    · rcases hcase with h1 | ⟨rfl, rfl, rfl⟩ <;> omega
    · rcases hcase with h1 | ⟨rfl, rfl, rfl⟩
      · intro h2; omega
      · exact hb
  | slr hl h h3 h4 => exact .slr (Nat.lt_of_lt_of_le hl hc.n) (by have := hc.gh _ hl; rw [h] at this; exact this) h3 h4
  | ptr hl h => exact .ptr (Nat.lt_of_lt_of_le hl hc.n) (by have := hc.gh _ hl; rw [h] at this; exact this)
  | nilp => exact .nilp
  | iptr hs hr => exact .iptr (fun j x hx => ⟨hc.keeps.sub _ _ (hs j x hx).1, (hc.keeps.cell _ _ (hs j x hx).1).trans (hs j x hx).2⟩) (fun j x hx => (hr j x hx).mono hc.keeps)
  | fn hz _ ih => exact .fn hz ih
  | yld hi => rw [← hc.lm _ hi]; exact .yld (Nat.lt_of_lt_of_le hi hc.m)
  | nilf => exact .nilf
  | agg hz _ ih => exact .agg hz ih
  | tup hz _ ih => exact .tup hz ih
  | mp hl h => exact .mp (Nat.lt_of_lt_of_le hl hc.n) (by have := hc.gh _ hl; rw [h] at this; exact this)
  | emp => exact .emp

/-- Does a value name objects below N and loops below M alone? -/
def AV.lows (N M : Nat) : AV → Bool
  | .ws _ t => t < N
  | .slr l _ _ _ _ => l < N
  | .ptr l _ => l < N
  | .fn _ caps => go caps
  | .yld i => i < M
  | .agg cs => go cs
  | .tup vs => go vs
  | .mp l => l < N
  | _ => true
where go : List AV → Bool
  | [] => true
  | x :: xs => x.lows N M && go xs

theorem AV.lows_go {N M : Nat} : ∀ {l : List AV}, AV.lows.go N M l = true → ∀ (j : Nat) x, l[j]? = some x → x.lows N M = true
  | [], _, j, x, hx => by simp at hx
  | y :: ys, h, j, x, hx => by
    simp only [AV.lows.go, Bool.and_eq_true] at h
    cases j with
    | zero => simp at hx; subst hx; exact h.1
    | succ j => simp at hx; exact AV.lows_go h.2 j x hx

theorem VRel.shrink {c : Cx} {N M : Nat} {x : AV} {v : Value} (h : VRel c x v) (hb : x.lows N M = true) : VRel { c with N := N, M := M } x v := by
  induction h with
  | d h => exact .d h
  | nils => exact .nils
  | ws ht h hg hle hb' => exact .ws (by simpa [AV.lows] using hb) h hg hle hb'
  | slr hl h h3 h4 => exact .slr (by simpa [AV.lows] using hb) h h3 h4
  | ptr hl h => exact .ptr (by simpa [AV.lows] using hb) h
  | nilp => exact .nilp
  | iptr hs hr => exact .iptr hs hr
  | fn hz _ ih => simp only [AV.lows] at hb; exact .fn hz fun j x v hx hv => ih j x v hx hv (AV.lows_go hb j x hx)
  | yld hi => exact VRel.yld (c := { c with N := N, M := M }) (by simpa [AV.lows] using hb)
  | nilf => exact .nilf
  | agg hz _ ih => simp only [AV.lows] at hb; exact .agg hz fun j x v hx hv => ih j x v hx hv (AV.lows_go hb j x hx)
  | tup hz _ ih => simp only [AV.lows] at hb; exact .tup hz fun j x v hx hv => ih j x v hx hv (AV.lows_go hb j x hx)
  | mp hl h => exact .mp (by simpa [AV.lows] using hb) h
  | emp => exact .emp

/-! ### Package variables that are read only: what they hold (the seat's own list) -/
def GLOB : List (Nat × List Dat) := [(0, [.int .u8 0, .int .u8 0, .int .u8 1, .int .u8 1, .int .u8 1, .int .u8 2, .int .u8 3, .int .u8 3])]
def GI (S : Stb) (w : World) : Prop := ∀ g cells, (g, cells) ∈ GLOB → ∀ (j : Nat) x, cells[j]? = some x → S g j ∧ ∃ v, w.cell? ⟨g, j, none⟩ = some v ∧ DRel S w x v
theorem GI.keep {S S' : Stb} {w w' : World} (h : GI S w) (hk : Keeps S S' w w') : GI S' w' := fun g cells hg j x hx => by
  obtain ⟨h1, v, h2, h3⟩ := h g cells hg j x hx
  exact ⟨hk.sub _ _ h1, v, (hk.cell _ _ h1).trans h2, h3.mono hk⟩
end Go.Proofs.YtfifgiopdbdeoaaDoor.Lite
namespace Go.Proofs.YtfifgiopdbdeoaaDoor.Lite
open Go

inductive X where
  | t (n : Nat)
  | c (v : AV)

/-- Operations on slices that are written in place, and what they are made of. -/
inductive NK where
  | appb (e : Nat) (x y : X)
  | apps (e : Nat) (x y : X)
  | slw (e : Nat) (x hi : X)
  | mks (e : Nat) (zero : List Dat) (n : X)
  | capn (x : X)
  | clr (e : Nat) (zero : List Dat) (x : X)
  | nlc (neg : Bool) (x : X)
  | emp0 (e : Nat)
  | appz (e : Nat) (zero : List Dat) (x n : X)

inductive K where
  | mv (x : X)
  | pick (c a b : X)
  | new (zero : List AV)
  | box (x : X)
  | ld (x : X)
  | ldn (n : Nat) (x : X)
  | st (n : Nat) (x v : X)
  | off (o : Nat) (x : X)
  | ixa (n e : Nat) (x i : X)
  | ixs (e : Nat) (x i : X)
  | fld (o : Nat) (x : X)
  | fldn (o n : Nat) (x : X)
  | ixv (n : Nat) (x i : X)
  | ixvn (n e : Nat) (x i : X)
  | ixb (x i : X)
  | bin (op : BinOp) (x y : X)
  | eqb (neg : Bool) (x y : X)
  | isn (neg isF : Bool) (x : X)
  | eqs (neg : Bool) (ks : List Nat) (x y : X)
  | not (x : X)
  | conv (k : IntKind) (x : X)
  | mkf (f : Nat) (caps : List X)
  | bld (zero : List AV) (parts : List (Nat × Nat × X))
  | bls (zero : List AV) (n e : Nat) (parts : List (Nat × Nat × X))
  | sla (n e : Nat) (x : X) (lo hi : Option X)
  | sls (e : Nat) (x : X) (lo hi : Option X)
  | sl0 (x : X)
  | len (isS : Bool) (x : X)
  | app (e : Nat) (x y : X)
  | mnx (mx : Bool) (x y : X)
  | ext (x : X) (i : Nat)
  | nilc (x : X)
  | call (f : X) (args : List X)
  | nw (k : NK)

structure COp where
  dst : Option Nat
  k : K
  g : Option (Nat × Bool)

inductive CCode where
  | skip
  | seq (a b : CCode)
  | cond (x : X) (a b : CCode)
  | block (id : Nat) (b : CCode)
  | loop (keep : List Nat) (b : CCode)
  | range (f : X) (ps : List Nat) (asg b : CCode)
  | exit (id : Nat)
  | scope (keep : List Nat) (b : CCode)
  | label (l : Nat)
  | goto (l : Nat)
  | ret
  | bad
  | reg (ops : List COp)
  | dreg (pre suf : List COp)
  | sreg (er : List Nat) (f : Bool) (pre suf : List COp)

inductive RV where
  | tmp (t : Nat)
  | cell (t : Nat)
  | cells (t n : Nat)

structure CFun where
  np : Nat
  nt : Nat
  body : CCode
  res : List RV
  /-- is an empty argument told apart by whether it is nil? -/
  rf : Bool := false

abbrev Env := List (Nat × AV)

def look : Env → Nat → Option AV
  | [], _ => none
  | (k, v) :: r, t => if k = t then some v else look r t

def evX (env : Env) : X → Option AV
  | .t n => look env n
  | .c v => some v

def evXs (env : Env) : List X → Option (List AV)
  | [] => some []
  | x :: xs => match evX env x, evXs env xs with
    | some v, some vs => some (v :: vs)
    | _, _ => none

def getO (h : Heap) (l : Nat) : Option AObj := (h[l]?).join
def putO (h : Heap) (l : Nat) (o : AObj) : Heap :=
  if l < h.length then h.set l (some o) else h ++ List.replicate (l - h.length) none ++ [some o]

def AV.cellsOf : AV → List AV
  | .agg cs => cs
  | v => [v]

def AV.isCell : AV → Bool
  | .agg _ => false
  | .tup _ => false
  | _ => true

def AV.dat? : AV → Option Dat
  | .d x => some x
  | .nils => some (.sl [])
  | .ws rows _ => some (.sl rows)
  | _ => none

def dats? : List AV → Option (List Dat)
  | [] => some []
  | x :: xs => match x.dat?, dats? xs with
    | some d, some ds => some (d :: ds)
    | _, _ => none

/-- a list cut into rows of e -/
def chunk (e : Nat) : Nat → List Dat → List (List Dat)
  | 0, _ => []
  | n + 1, l => l.take e :: chunk e n (l.drop e)

def rowsOk (e : Nat) (rows : List (List Dat)) : Bool := rows.all fun r => r.length == e

/-- rows of a slice value -/
def rows? (h : Heap) (e : Nat) : AV → Option (List (List Dat))
  | .d (.sl rows) => if rowsOk e rows then some rows else none
  | .nils => some []
  | .ws rows _ => if rowsOk e rows then some rows else none
  | .slr l off n e' _ => if e' = e then
      match getO h l with
      | some (.cells cs) => if off + n * e ≤ cs.length then (dats? ((cs.drop off).take (n * e))).map (chunk e n) else none
      | _ => none
    else none
  | .emp _ => some []
  | _ => none

def intOp (op : BinOp) (k : IntKind) (x y : Int) : Option AV :=
  match op with
  | .add => some (.d (.int k (k.wrap (x + y))))
  | .sub => some (.d (.int k (k.wrap (x - y))))
  | .mul => some (.d (.int k (k.wrap (x * y))))
  | .quo => if y = 0 then none else some (.d (.int k (k.wrap (x.tdiv y))))
  | .rem => if y = 0 then none else some (.d (.int k (x.tmod y)))
  | .and => some (.d (.int k (k.wrap (BitVec.ofInt k.bits x &&& BitVec.ofInt k.bits y).toNat)))
  | .eql => some (.d (.bool (x == y)))
  | .neq => some (.d (.bool (x != y)))
  | .lss => some (.d (.bool (decide (x < y))))
  | .leq => some (.d (.bool (decide (x ≤ y))))
  | .gtr => some (.d (.bool (decide (x > y))))
  | .geq => some (.d (.bool (decide (x ≥ y))))
  | _ => none

def strOp (op : BinOp) (x y : List UInt8) : Option AV :=
  match op with
  | .eql => some (.d (.bool (x == y)))
  | .neq => some (.d (.bool (!(x == y))))
  | .lss => some (.d (.bool (Op.bytesLess x y)))
  | .leq => some (.d (.bool (Op.bytesLess x y || x == y)))
  | .gtr => some (.d (.bool (!(Op.bytesLess x y || x == y))))
  | .geq => some (.d (.bool (!Op.bytesLess x y)))
  | _ => none

def isNil? : Bool → AV → Option Bool
  | false, .ptr _ _ => some false
  | false, .iptr _ => some false
  | false, .nilp => some true
  | true, .fn _ _ => some false
  | true, .nilf => some true
  | _, _ => none

def binOpA (op : BinOp) : AV → AV → Option AV
  | .d (.int k x), .d (.int k' y) => if k = k' then intOp op k x y else none
  | .d (.str x), .d (.str y) => strOp op x y
  | _, _ => none

/-- cells of a kind held against each other: 0 a number, 1 a bool, else a text -/
def eqCell : Nat → AV → AV → Option Bool
  | 0, .d (.int k x), .d (.int k' y) => if k = k' then some (x == y) else none
  | 1, .d (.bool x), .d (.bool y) => some (x == y)
  | 2, .d (.str x), .d (.str y) => some (x == y)
  | _, _, _ => none

/-- the cells one by one; false at the first that part -/
def eqCells : List Nat → List AV → List AV → Option Bool
  | [], [], [] => some true
  | k :: ks, x :: xs, y :: ys => match eqCell k x y with
    | some true => eqCells ks xs ys
    | some false => some false
    | none => none
  | _, _, _ => none

/-- a part laid into cells -/
def lay (cells : List AV) (off : Nat) (vs : List AV) : List AV := cells.take off ++ vs ++ cells.drop (off + vs.length)

def fillA (env : Env) : List AV → List (Nat × Nat × X) → Option (List AV)
  | cells, [] => some cells
  | cells, (off, size, x) :: r => match evX env x with
    | some v => if v.cellsOf.length = size ∧ off + size ≤ cells.length then fillA env (lay cells off v.cellsOf) r else none
    | none => none

def bound? (env : Env) (dflt : Nat) : Option X → Option Int
  | none => some dflt
  | some x => match evX env x with
    | some (.d (.int _ i)) => some i
    | _ => none

/-- No slice grows beyond so many elements here. -/
def LIM : Nat := 4294967296

def sliceA (e : Nat) (lo hi : Nat) : AV → Option AV
  | .d (.sl rows) => if rowsOk e rows ∧ hi ≤ rows.length then some (.d (.sl ((rows.take hi).drop lo))) else none
  | .nils => if hi = 0 then some .nils else none
  | .ws rows _ => if rowsOk e rows ∧ hi ≤ rows.length then some (.d (.sl ((rows.take hi).drop lo))) else none
  | .slr l off n e' _ => if e' = e ∧ hi ≤ n then (if lo = hi then some (.d (.sl [])) else some (.slr l (off + lo * e) (hi - lo) e (hi - lo))) else none
  | _ => none

/-- The cells of rows. -/
def flatC (rows : List (List Dat)) : List AV := rows.flatten.map .d

def stepN (env : Env) (hr h : Heap) (id wp : Nat) : NK → Option (AV × Heap)
  | .appb e x y => match evX env x, evX env y with
    | some .nils, some y => match rows? hr e y with
      | some r => if r.length ≤ LIM then (if r.isEmpty then some (.nils, h) else some (.slr id 0 r.length e r.length, putO h id (.cells (flatC r)))) else none
      | none => none
    | _, _ => none
  | .apps e x y => match evX env x, evX env y with
    | some x, some y => match rows? hr e y with
      | some r => match x with
        | .nils => if r.isEmpty then some (.nils, h) else none
        | .slr l off n e' m => match getO h l with
          | some (.cells cs) => if e' = e ∧ wp ≤ l ∧ n + r.length ≤ m ∧ off + (n + r.length) * e ≤ cs.length then some (.slr l off (n + r.length) e m, putO h l (.cells (lay cs (off + n * e) (flatC r)))) else none
          | _ => none
        | _ => none
      | none => none
    | _, _ => none
  | .slw e x hi => match evX env x, evX env hi with
    | some (.slr l off _ e' m), some (.d (.int _ i)) => if e' = e ∧ 0 ≤ i ∧ i ≤ m then some (.slr l off i.toNat e m, h) else none
    | _, _ => none
  | .mks e zero n => match evX env n with
    | some (.d (.int _ i)) => if 0 ≤ i ∧ i ≤ LIM ∧ zero.length = e then some (.ws (List.replicate i.toNat zero) id, putO h id (.tok e i.toNat)) else none
    | _ => none
  | .capn x => match evX env x with
    | some .nils => some (.d (.int .i64 0), h)
    | _ => none
  | .clr e zero x => match evX env x with
    | some (.slr l off n e' _) => match getO h l with
      | some (.cells cs) => if e' = e ∧ wp ≤ l ∧ zero.length = e ∧ off + n * e ≤ cs.length then some (.tup [], putO h l (.cells (lay cs off (flatC (List.replicate n zero))))) else none
      | _ => none
    | some (.d (.sl [])) => some (.tup [], h)
    | some .nils => some (.tup [], h)
    | _ => none
  | .nlc neg x => match evX env x with
    | some (.emp b) => some (.d (.bool (b != neg)), h)
    | some (.d (.sl (_ :: _))) => some (.d (.bool (false != neg)), h)
    | some (.ws (_ :: _) _) => some (.d (.bool (false != neg)), h)
    | some (.slr _ _ _ _ _) => some (.d (.bool (false != neg)), h)
    | _ => none
  | .emp0 e => some (.nils, putO h id (.tok e 0))
  | .appz e zero x n => match evX env x, evX env n with
    | some .nils, some (.d (.int _ i)) => if 0 ≤ i ∧ i ≤ LIM ∧ zero.length = e then (if i = 0 then some (.nils, h) else some (.slr id 0 i.toNat e i.toNat, putO h id (.cells (flatC (List.replicate i.toNat zero))))) else none
    | _, _ => none

/-- One operation: cells are read in hr; what is new or written goes into h; id is the number of a new object; nothing below wp is written. -/
def stepK (env : Env) (hr h : Heap) (id wp : Nat) : K → Option (AV × Heap)
  | .mv x => (evX env x).map (·, h)
  | .pick c a b => match evX env c with
    | some (.d (.bool t)) => (evX env (if t then a else b)).map (·, h)
    | _ => none
  | .new zero => some (.ptr id 0, putO h id (.cells zero))
  | .box x => (evX env x).map fun v => (.ptr id 0, putO h id (.cells v.cellsOf))
  | .ld x => match evX env x with
    | some (.ptr l o) => match getO hr l with
      | some (.cells cs) => (cs[o]?).map (·, h)
      | _ => none
    | some (.iptr cells) => (cells[0]?).map fun c => (.d c, h)
    | _ => none
  | .ldn n x => match evX env x with
    | some (.ptr l o) => match getO hr l with
      | some (.cells cs) => if o + n ≤ cs.length then some (.agg ((cs.drop o).take n), h) else none
      | _ => none
    | some (.iptr cells) => if n ≤ cells.length then some (.agg ((cells.take n).map .d), h) else none
    | _ => none
  | .st n x v => match evX env x, evX env v with
    | some (.ptr l o), some v => match getO h l with
      | some (.cells cs) => if wp ≤ l ∧ v.cellsOf.length = n ∧ o + n ≤ cs.length ∧ v.cellsOf.all AV.isCell then some (.tup [], putO h l (.cells (lay cs o v.cellsOf))) else none
      | _ => none
    | _, _ => none
  | .off o x => match evX env x with
    | some (.ptr l p) => some (.ptr l (p + o), h)
    | some (.iptr cells) => some (.iptr (cells.drop o), h)
    | _ => none
  | .ixa n e x i => match evX env x, evX env i with
    | some (.ptr l p), some (.d (.int _ i)) => if 0 ≤ i ∧ i < n then some (.ptr l (p + i.toNat * e), h) else none
    | some (.iptr cells), some (.d (.int _ i)) => if 0 ≤ i ∧ i < n then some (.iptr (cells.drop (i.toNat * e)), h) else none
    | _, _ => none
  | .ixs e x i => match evX env x, evX env i with
    | some (.d (.sl rows)), some (.d (.int _ i)) => if 0 ≤ i then match rows[i.toNat]? with
      | some row => if row.length = e then some (.iptr row, h) else none
      | none => none else none
    | some (.ws rows _), some (.d (.int _ i)) => if 0 ≤ i then match rows[i.toNat]? with
      | some row => if row.length = e then some (.iptr row, h) else none
      | none => none else none
    | some (.slr l off n e' _), some (.d (.int _ i)) => if e' = e ∧ 0 ≤ i ∧ i < n then some (.ptr l (off + i.toNat * e), h) else none
    | _, _ => none
  | .fld o x => match evX env x with
    | some (.agg cs) => (cs[o]?).map (·, h)
    | _ => none
  | .fldn o n x => match evX env x with
    | some (.agg cs) => if o + n ≤ cs.length then some (.agg ((cs.drop o).take n), h) else none
    | _ => none
  | .ixv n x i => match evX env x, evX env i with
    | some (.agg cs), some (.d (.int _ i)) => if 0 ≤ i ∧ i < n then (cs[i.toNat]?).map (·, h) else none
    | _, _ => none
  | .ixvn n e x i => match evX env x, evX env i with
    | some (.agg cs), some (.d (.int _ i)) => if 0 ≤ i ∧ i < n ∧ i.toNat * e + e ≤ cs.length then some (.agg ((cs.drop (i.toNat * e)).take e), h) else none
    | _, _ => none
  | .ixb x i => match evX env x, evX env i with
    | some (.d (.str s)), some (.d (.int _ i)) => if 0 ≤ i then (s[i.toNat]?).map fun b => (.d (.int .u8 b.toNat), h) else none
    | _, _ => none
  | .bin op x y => match evX env x, evX env y with
    | some x, some y => (binOpA op x y).map (·, h)
    | _, _ => none
  | .eqb neg x y => match evX env x, evX env y with
    | some (.d (.bool x)), some (.d (.bool y)) => some (.d (.bool ((x == y) != neg)), h)
    | _, _ => none
  | .isn neg isF x => match evX env x with
    | some v => (isNil? isF v).map fun b => (.d (.bool (b != neg)), h)
    | none => none
  | .eqs neg ks x y => match evX env x, evX env y with
    | some (.agg xs), some (.agg ys) => (eqCells ks xs ys).map fun b => (.d (.bool (b != neg)), h)
    | _, _ => none
  | .not x => match evX env x with
    | some (.d (.bool b)) => some (.d (.bool (!b)), h)
    | _ => none
  | .conv k x => match evX env x with
    | some (.d (.int _ n)) => some (.d (.int k (k.wrap n)), h)
    | _ => none
  | .mkf f caps => (evXs env caps).map fun vs => (.fn f vs, h)
  | .bld zero parts => (fillA env zero parts).map fun cs => (.agg cs, h)
  | .bls zero n e parts => match fillA env zero parts with
    | some cs => match dats? cs with
      | some ds => if ds.length = n * e then some (.ws (chunk e n ds) id, putO h id (.tok e n)) else none
      | none => none
    | none => none
  | .sla n e x lo hi => match evX env x, bound? env 0 lo, bound? env n hi with
    | some (.ptr l o), some lo, some hi =>
      if 0 ≤ lo ∧ lo ≤ hi ∧ hi ≤ n then (if lo = hi then some (.d (.sl []), h) else some (.slr l (o + lo.toNat * e) (hi - lo).toNat e (hi - lo).toNat, h)) else none
    | _, _, _ => none
  | .sls e x lo hi => match evX env x with
    | some v => match bound? env 0 lo, (match hi with | none => lenA v | some x => (bound? env 0 (some x))) with
      | some lo, some hi => if 0 ≤ lo ∧ lo ≤ hi then (sliceA e lo.toNat hi.toNat v).map (·, h) else none
      | _, _ => none
    | none => none
  | .sl0 x => match evX env x with
    | some v => (lenA v).map fun _ => (.nils, h)
    | none => none
  | .len isS x => match evX env x with
    | some v => match isS, v with
      | true, .d (.str s) => some (.d (.int .i64 s.length), h)
      | false, v => (lenA v).map fun n => (.d (.int .i64 n), h)
      | _, _ => none
    | none => none
  | .app e x y => match evX env x, evX env y with
    | some x, some y => match rows? hr e y with
      | some r => match x with
        | .nils => if r.length ≤ LIM then some (.ws r id, putO h id (.tok e r.length)) else none
        | .ws rows t => if wp ≤ t ∧ rowsOk e rows ∧ getTok h t = some (e, rows.length) ∧ rows.length + r.length ≤ LIM then some (.ws (rows ++ r) t, putO h t (.tok e (rows.length + r.length))) else none
        | _ => none
      | none => none
    | _, _ => none
  | .mnx mx x y => match evX env x, evX env y with
    | some (.d (.int k x)), some (.d (.int _ y)) => some (.d (.int k (if mx then (if y > x then y else x) else (if y < x then y else x))), h)
    | _, _ => none
  | .ext x i => match evX env x with
    | some (.tup vs) => (vs[i]?).map (·, h)
    | _ => none
  | .nilc x => match evX env x with
    | some (.ptr l o) => some (.ptr l o, h)
    | some (.iptr cells) => some (.iptr cells, h)
    | some (.fn f caps) => some (.fn f caps, h)
    | some (.yld i) => some (.yld i, h)
    | _ => none
  | .call _ _ => none
  | .nw k => stepN env hr h id wp k
where
  lenA : AV → Option Int
    | .d (.sl rows) => some rows.length
    | .nils => some 0
    | .ws rows _ => some rows.length
    | .slr _ _ n _ _ => some n
    | .emp _ => some 0
    | _ => none
  getTok (h : Heap) (t : Nat) : Option (Nat × Nat) := match getO h t with | some (.tok e n) => some (e, n) | _ => none
end Go.Proofs.YtfifgiopdbdeoaaDoor.Lite
namespace Go.Proofs.YtfifgiopdbdeoaaDoor.Lite
open Go

/-- What goes into, and comes out of, a function that is known by its contract alone. -/
inductive DV where
  | s (x : Dat)
  | g (xs : List Dat)

def DV.av : DV → AV
  | .s x => .d x
  | .g xs => .agg (xs.map .d)

/-- may the value lead to memory that is written? (a slice of a variable's own cells) -/
def AV.tied : AV → Bool
  | .slr _ _ n _ _ => n != 0
  | _ => false

def toDV (h : Heap) : AV → Option DV
  | .agg cs => (dats? cs).map .g
  | .slr l off n e m => (rows? h e (.slr l off n e m)).map fun r => .s (.sl r)
  | v => (v.dat?).map .s

def toDVs (h : Heap) : List AV → Option (List DV)
  | [] => some []
  | x :: xs => match toDV h x, toDVs h xs with
    | some d, some ds => some (d :: ds)
    | _, _ => none

def Dat.flat : Dat → Bool
  | .sl rows => rows.isEmpty
  | _ => true
def DV.flat : DV → Bool
  | .s x => x.flat
  | .g xs => xs.all Dat.flat

def oneOf : List AV → AV
  | [v] => v
  | vs => .tup vs

inductive Ex where
  | nm
  | ex (id : Nat)
  | gt (l : Nat)
  | rt

structure St where
  h : Heap
  pd : List (Option Ex)

structure LRec where
  ps : List Nat
  asg : CCode
  body : CCode
  env : Env

structure Rd where
  lp : List (Option LRec)
  wp : Nat

structure Tbl where
  code : Nat → Option CFun
  orc : Nat → Option (List DV → Option (List DV))

def putE (env : Env) : Option Nat → AV → Env
  | some t, v => (t, v) :: env
  | none, _ => env

abbrev Caller := AV → List AV → St → Option (AV × St)

/-- is the operation to be carried out? none: not known -/
def wants (env : Env) : Option (Nat × Bool) → Option Bool
  | none => some true
  | some (t, b) => match look env t with
    | some (.d (.bool c)) => some (c == b)
    | some (.tup []) => some false
    | _ => none

/-- an empty argument, told apart: nil, and not nil -/
def AV.isE : AV → Bool
  | .d (.sl []) => true
  | .nils => true
  | .ws [] _ => true
  | _ => false
def refine? (T : Tbl) : AV → List AV → Bool
  | .fn f [], [x] => x.isE && (T.orc f).isNone && (match T.code f with | some cf => cf.rf | none => false)
  | _, _ => false

def evOp (call : Caller) (wp : Nat) (o : COp) (env : Env) (st : St) : Option (Env × St) :=
  match wants env o.g with
  | some true => match o.k with
    | .call f args => match evX env f, evXs env args with
      | some fv, some vs => match call fv vs st with
        | some (v, st') => some (putE env o.dst v, st')
        | none => none
      | _, _ => none
    | k => match stepK env st.h st.h st.h.length wp k with
      | some (v, h) => some (putE env o.dst v, { st with h := h })
      | none => none
  | some false => some (putE env o.dst (.tup []), st)
  | none => none

def evOps (call : Caller) (wp : Nat) : List COp → Env → St → Option (Env × St)
  | [], env, st => some (env, st)
  | o :: os, env, st => match evOp call wp o env st with
    | some (env', st') => evOps call wp os env' st'
    | none => none

/-- keeps what grows from sight -/
def hideT : Option AObj → Option AObj
  | some (.tok _ _) => none
  | o => o

/-- One of the operations that come in any order: calls are made in what there was ahead of the region, and leave it as it was; a new object goes by its operation's number. -/
def preSt (env : Env) (h0 h : Heap) (id wp n : Nat) (x y : X) : Option (AV × Heap) := match evX env x with
  | some (.ptr l _) => match getO h0 l with
    | none => stepK env h0 h id wp (.st n x y)
    | some _ => none
  | _ => none
/-- what was made since goes to a call as what it holds -/
def frz (N : Nat) : AV → AV
  | .ws rows t => if t < N then .ws rows t else .d (.sl rows)
  | v => v
/-- what is new in the memory behind a call goes by its cells: nothing will write to it -/
def cutA (H : Heap) (N M : Nat) (y : AV) : Option AV :=
  if y.lows N M then some y else match y with
  | .ptr l o => match getO H l with
    | some (.cells cs) => (dats? cs).map fun ds => .iptr (ds.drop o)
    | _ => none
  | .ws rows _ => some (.d (.sl rows))
  | .slr l off n e _ => match getO H l with
    | some (.cells cs) => match dats? cs with
      | some ds => if off + n * e ≤ ds.length then some (.d (.sl (chunk e n ((ds.drop off).take (n * e))))) else none
      | none => none
    | _ => none
  | _ => none
def cutAs (H : Heap) (N M : Nat) : List AV → Option (List AV)
  | [] => some []
  | x :: xs => match cutA H N M x, cutAs H N M xs with
    | some y, some ys => some (y :: ys)
    | _, _ => none
def cutB (H : Heap) (N M : Nat) (y : AV) : Option AV := match y with
  | .fn f caps => (cutAs H N M caps).map (.fn f)
  | .agg cs => (cutAs H N M cs).map .agg
  | y => cutA H N M y
def cutBs (H : Heap) (N M : Nat) : List AV → Option (List AV)
  | [] => some []
  | x :: xs => match cutB H N M x, cutBs H N M xs with
    | some y, some ys => some (y :: ys)
    | _, _ => none
def cutR (N M : Nat) (v : AV) (H : Heap) : Option AV :=
  if H.length = N then some v
  else if N ≤ H.length then (match v with
    | .tup vs => (cutBs H N M vs).map .tup
    | v => cutB H N M v)
  else none
def preStep (call : Caller) (h0 : Heap) (wp p : Nat) (o : COp) (env : Env) (h : Heap) (pd : List (Option Ex)) : Option (AV × Heap) :=
  match wants env o.g with
  | some true => match o.k with
    | .call f args => match evX env f, evXs env args with
      | some fv, some vs => if (fv :: vs.map (frz h0.length)).all (AV.lows h0.length pd.length) then match call fv (vs.map (frz h0.length)) { h := h0.map hideT, pd := pd } with
          | some (v, st') => match cutR h0.length pd.length v st'.h with
            | some v' => some (v', h)
            | none => none
          | none => none
        else none
      | _, _ => none
    | .st n x y => preSt env h0 h (h0.length + p) wp n x y
    | .nw _ => none
    | k => stepK env h0 h (h0.length + p) wp k
  | some false => some (.tup [], h)
  | none => none

/-- what is written to among the operations in any order is not read -/
def eraseB (env : Env) : List Nat → Heap → Heap
  | [], h => h
  | t :: ts, h => match look env t with
    | some (.ptr l _) => eraseB env ts (h.set l none)
    | _ => eraseB env ts h

def evPre (call : Caller) (hP : Nat → Heap) (wp : Nat) : Nat → List COp → Env → Heap → List (Option Ex) → Option (Env × Heap)
  | _, [], env, h, _ => some (env, h)
  | p, o :: os, env, h, pd => match preStep call (hP p) wp p o env h pd with
    | some (v, h') => evPre call hP wp (p + 1) os (putE env o.dst v) h' pd
    | none => none
/-- the first one reads all, when f says so (what is written waits for it) -/
def hideF (f : Bool) (h hE : Heap) (i : Nat) : Heap := if f && i == 0 then h else hE

def padH (h : Heap) (n : Nat) : Heap := h ++ List.replicate (n - h.length) none

def restrict (keep : List Nat) (env : Env) : Env :=
  match keep with
  | [] => []
  | t :: ts => match look env t with
    | some v => (t, v) :: restrict ts env
    | none => restrict ts env

def AObj.lows (N M : Nat) : AObj → Bool
  | .cells cs => cs.all (AV.lows N M)
  | .tok _ _ => true
  | .map es => es.all fun e => e.2.lows N M
def lowObj (N M : Nat) : Option AObj → Bool
  | none => true
  | some o => o.lows N M

/-- what was made since is let go, if nothing leads to it -/
def gc (N M : Nat) (vs : List AV) (h : Heap) : Heap :=
  if vs.all (AV.lows N M) && (h.take N).all (lowObj N M) then h.take N else h

def bindPs : List Nat → List AV → Env → Env
  | t :: ts, v :: vs, env => bindPs ts vs ((t, v) :: env)
  | _, _, env => env

def argEnv : Nat → List AV → Env
  | _, [] => []
  | i, v :: vs => (i, v) :: argEnv (i + 1) vs

def findL : CCode → Nat → Option CCode
  | .seq a b, l => match findL a l with
    | some r => some (.seq r b)
    | none => findL b l
  | .label l', l => if l' == l then some .skip else none
  | _, _ => none

def evRes (env : Env) (h : Heap) : List RV → Option (List AV)
  | [] => some []
  | r :: rs => match (match r with
      | .tmp t => look env t
      | .cell t => match look env t with
        | some (.ptr l o) => match getO h l with
          | some (.cells cs) => cs[o]?
          | _ => none
        | _ => none
      | .cells t n => match look env t with
        | some (.ptr l o) => match getO h l with
          | some (.cells cs) => if o + n ≤ cs.length then some (.agg ((cs.drop o).take n)) else none
          | _ => none
        | _ => none), evRes env h rs with
    | some v, some vs => some (v :: vs)
    | _, _ => none

mutual
def evCode (T : Tbl) : Nat → Rd → CCode → Env → St → Option (Ex × Env × St)
  | 0, _, _, _, _ => none
  | n + 1, rd, c, env, st =>
    match c with
    | .skip => some (.nm, env, st)
    | .label _ => some (.nm, env, st)
    | .exit id => some (.ex id, env, st)
    | .goto l => some (.gt l, env, st)
    | .ret => some (.rt, env, st)
    | .bad => none
    | .seq a b => match evCode T n rd a env st with
      | some (.nm, env', st') => evCode T n rd b env' st'
      | r => r
    | .cond x a b => match evX env x with
      | some (.d (.bool t)) => bif t then evCode T n rd a env st else evCode T n rd b env st
      | _ => none
    | .block id b => match evCode T n rd b env st with
      | some (.ex id', env', st') => if id' = id then some (.nm, env', st') else some (.ex id', env', st')
      | r => r
    | .loop keep b => match evCode T n rd b env st with
      | some (.nm, env', st') => evCode T n rd (.loop keep b) (restrict keep env') { st' with h := gc st.h.length rd.lp.length ((restrict keep env').map (·.2)) st'.h }
      | r => r
    | .scope keep b => evScope T n rd keep b b env st
    | .range f ps asg b => match evX env f with
      | some (.fn g caps) => match evCall T n { rd with lp := rd.lp ++ [some { ps, asg, body := b, env }] } (.fn g caps) [.yld rd.lp.length] { st with pd := st.pd ++ [none] } with
        | some (_, st') =>
          if st'.h.all (lowObj st'.h.length rd.lp.length) then
            match st'.pd[rd.lp.length]? with
            | some none => some (.nm, env, { st' with pd := st'.pd.take rd.lp.length })
            | some (some e) => some (e, env, { st' with pd := st'.pd.take rd.lp.length })
            | none => none
          else none
        | none => none
      | _ => none
    | .reg ops => match evOps (evCall T n rd) rd.wp ops env st with
      | some (env', st') => some (.nm, env', st')
      | none => none
    | .dreg pre suf => match evPre (evCall T n { lp := rd.lp.map fun _ => none, wp := st.h.length }) (fun _ => st.h) rd.wp 0 pre env st.h st.pd with
      | some (env', h') => match evOps (evCall T n rd) rd.wp suf env' { st with h := padH h' (st.h.length + pre.length) } with
        | some (env2, st2) => some (.nm, env2, st2)
        | none => none
      | none => none
    | .sreg er f pre suf => match evPre (evCall T n { lp := rd.lp.map fun _ => none, wp := st.h.length }) (hideF f st.h (eraseB env er st.h)) rd.wp 0 pre env st.h st.pd with
      | some (env', h') => match evOps (evCall T n rd) rd.wp suf env' { st with h := padH h' (st.h.length + pre.length) } with
        | some (env2, st2) => some (.nm, env2, st2)
        | none => none
      | none => none
def evScope (T : Tbl) : Nat → Rd → List Nat → CCode → CCode → Env → St → Option (Ex × Env × St)
  | 0, _, _, _, _, _, _ => none
  | n + 1, rd, keep, whole, c, env, st => match evCode T n rd c env st with
    | some (.gt l, env', st') => match findL whole l with
      | some rest => evScope T n rd keep whole rest (restrict keep env') { st' with h := gc st.h.length rd.lp.length ((restrict keep env').map (·.2)) st'.h }
      | none => some (.gt l, env', st')
    | r => r
def evCall (T : Tbl) : Nat → Rd → AV → List AV → St → Option (AV × St)
  | 0, _, _, _, _ => none
  | n + 1, rd, fv, args, st =>
    bif refine? T fv args then
      match evCall T n { lp := rd.lp.map fun _ => none, wp := st.h.length } fv [.emp true] st, evCall T n { lp := rd.lp.map fun _ => none, wp := st.h.length } fv [.emp false] st with
      | some (.nils, s1), some (.nils, s2) => if s1.h.length = st.h.length ∧ s2.h.length = st.h.length then some (.nils, st) else none
      | _, _ => none
    else
    match fv with
    | .fn f caps => match T.orc f with
      | some F => match toDVs st.h args, caps with
        | some dvs, [] => match F dvs with
          | some rs => if !args.any AV.tied || rs.all DV.flat then some (oneOf (rs.map DV.av), st) else none
          | none => none
        | _, _ => none
      | none => match T.code f with
        | some cf => if (args ++ caps).length = cf.np then
            match evCode T n rd cf.body (argEnv 0 (args ++ caps)) st with
            | some (e, env, st') => match e with
              | .nm | .rt => match evRes env st'.h cf.res with
                | some vs => some (oneOf vs, { st' with h := gc st.h.length rd.lp.length vs st'.h })
                | none => none
              | _ => none
            | none => none
          else none
        | none => none
    | .yld i => match rd.lp[i]?, st.pd[i]? with
      | some (some r), some none => if args.length = r.ps.length then
          match evCode T n { rd with lp := rd.lp.set i none } r.asg (bindPs r.ps args r.env) st with
          | some (.nm, env, st') => match evCode T n { rd with lp := rd.lp.set i none } r.body env st' with
            | some (.nm, _, st2) => some (.d (.bool true), { st2 with h := gc st.h.length rd.lp.length [] st2.h })
            | some (e, _, st2) => some (.d (.bool false), { h := gc st.h.length rd.lp.length [] st2.h, pd := st2.pd.set i (some e) })
            | none => none
          | _ => none
        else none
      | _, _ => none
    | _ => none
end
end Go.Proofs.YtfifgiopdbdeoaaDoor.Lite
namespace Go.Proofs.YtfifgiopdbdeoaaDoor.Lite
open Go Go.RowKit

def Gh.own : Gh → Option Nat
  | .no => none
  | .box b => some b
  | .tok base cap _ tip => if tip < cap then base.map (·.block) else none
  | .map b => some b

structure HRel (c : Cx) (h : Heap) : Prop where
  box : ∀ l cs, getO h l = some (.cells cs) → l < c.N ∧ ∃ b arr T, c.ρ l = .box b ∧ c.w.heap[b]? = some (.cells arr T (0, 0)) ∧ cs.length ≤ arr.size ∧
    (∀ (j : Nat) x v, cs[j]? = some x → arr[j]? = some v → VRel c x v) ∧ (∀ o, ¬ c.S b o)
  tok : ∀ t e n, getO h t = some (.tok e n) → t < c.N ∧ ∃ base cap, c.ρ t = .tok base cap e n ∧ n ≤ cap ∧
    (n < cap → ∃ b o arr T, base = some ⟨b, o, none⟩ ∧ c.w.heap[b]? = some (.cells arr T (0, 0)) ∧ o + cap * e ≤ arr.size ∧ ∀ x, o + n * e ≤ x → ¬ c.S b x)
  nomap : ∀ l es, getO h l ≠ some (.map es)
  sep : ∀ l l' o o' b, getO h l = some o → getO h l' = some o' → (c.ρ l).own = some b → (c.ρ l').own = some b → l = l'
  stb : ∀ b o, c.S b o → ∃ v, c.w.cell? ⟨b, o, none⟩ = some v
  gi : GI c.S c.w

def OwnH (c : Cx) (h : Heap) (b : Nat) : Prop := ∃ l o, getO h l = some o ∧ (c.ρ l).own = some b

structure HExt (c c' : Cx) (h h' : Heap) (wp : Nat) : Prop where
  keeps : Keeps c.S c'.S c.w c'.w
  gh : ∀ l, l < c.N → (c.ρ l).le (c'.ρ l)
  n : c.N ≤ c'.N
  m : c'.M = c.M
  lm : c'.lm = c.lm
  lc : c'.lc = c.lc
  blk : ∀ b, b < c.w.heap.size → ¬ OwnH c h b → c'.w.heap[b]? = c.w.heap[b]?
  size : c.w.heap.size ≤ c'.w.heap.size
  own : ∀ b, OwnH c' h' b → OwnH c h b ∨ c.w.heap.size ≤ b
  os : c'.w.os = c.w.os
  tape : c'.w.tape = c.w.tape
  output : c'.w.output = c.w.output
  pre : ∀ l, l < wp → l < h.length → getO h' l = getO h l
  len : h.length ≤ h'.length
  dead : ∀ l, l < c.N → getO h l = none → c.ρ l ≠ .no → c'.ρ l = c.ρ l ∧ getO h' l = none
  sx : ∀ b x, c'.S b x → c.S b x ∨ OwnH c h b ∨ c.w.heap.size ≤ b

theorem HExt.refl (c : Cx) (h : Heap) (wp : Nat) : HExt c c h h wp :=
  ⟨.refl _ _, fun _ _ => Gh.le_refl _, Nat.le_refl _, rfl, rfl, rfl, fun _ _ _ => rfl, Nat.le_refl _, fun _ h => .inl h, rfl, rfl, rfl, fun _ _ _ => rfl, Nat.le_refl _, fun _ _ h _ => ⟨rfl, h⟩, fun _ _ h => .inl h⟩

theorem HExt.cx {c c' : Cx} {h h' : Heap} {wp : Nat} (x : HExt c c' h h' wp) : c.le c' :=
  ⟨x.n, by rw [x.m]; exact Nat.le_refl _, x.keeps, x.gh, fun i _ => by rw [x.lm], fun i _ => by rw [x.lc]⟩

theorem HExt.trans {a b c : Cx} {h1 h2 h3 : Heap} {wp : Nat} (x : HExt a b h1 h2 wp) (y : HExt b c h2 h3 wp) : HExt a c h1 h3 wp where
  keeps := x.keeps.trans y.keeps
  gh := fun l hl => Gh.le_trans (x.gh l hl) (y.gh l (Nat.lt_of_lt_of_le hl x.n))
  n := Nat.le_trans x.n y.n
  m := y.m.trans x.m
  lm := y.lm.trans x.lm
  lc := y.lc.trans x.lc
  blk := fun k hk ho => (y.blk k (Nat.lt_of_lt_of_le hk x.size) (fun h' => by rcases x.own k h' with h1 | h1; exact ho h1; omega)).trans (x.blk k hk ho)
  size := Nat.le_trans x.size y.size
  own := fun k hk => by
    rcases y.own k hk with h1 | h1
    · exact x.own k h1
    · exact .inr (Nat.le_trans x.size h1)
  os := y.os.trans x.os
  tape := y.tape.trans x.tape
  output := y.output.trans x.output
  pre := fun l hl hh => (y.pre l hl (Nat.lt_of_lt_of_le hh x.len)).trans (x.pre l hl hh)
  len := Nat.le_trans x.len y.len
  dead := fun l hl h0 hn => by
    obtain ⟨e1, e2⟩ := x.dead l hl h0 hn
    obtain ⟨e3, e4⟩ := y.dead l (Nat.lt_of_lt_of_le hl x.n) e2 (by rw [e1]; exact hn)
    exact ⟨e3.trans e1, e4⟩
  sx := fun k z hs => by
    rcases y.sx k z hs with h1 | h1 | h1
    · exact x.sx k z h1
    · rcases x.own k h1 with h2 | h2
      · exact .inr (.inl h2)
      · exact .inr (.inr h2)
    · exact .inr (.inr (Nat.le_trans x.size h1))

theorem HExt.wp_le {c c' : Cx} {h h' : Heap} {wp wp' : Nat} (x : HExt c c' h h' wp) (hw : wp' ≤ wp) : HExt c c' h h' wp' :=
  { x with pre := fun l hl hh => x.pre l (Nat.lt_of_lt_of_le hl hw) hh }

/-! ### Objects in a heap -/
theorem getO_putO_same (h : Heap) (l : Nat) (o : AObj) : getO (putO h l o) l = some o := by
  unfold getO putO
  split
  · rename_i hl; simp [List.getElem?_set, hl]
  · rename_i hl
    have : (h ++ List.replicate (l - h.length) none ++ [some o])[l]? = some (some o) := by
      rw [List.getElem?_append_right (by simp; omega)]
      simp
      have : l - (h.length + (l - h.length)) = 0 := by omega
      rw [this]; rfl
    rw [this]; rfl

theorem getO_putO_other (h : Heap) {l k : Nat} (o : AObj) (hne : k ≠ l) : getO (putO h l o) k = getO h k := by
  unfold getO putO
  split
  · rename_i hl; simp [List.getElem?_set, hne.symm]
  · rename_i hl
    by_cases hk : k < h.length
    · rw [List.append_assoc, List.getElem?_append_left hk]
    · have hn : h[k]? = none := by simp; omega
      rw [hn]
      by_cases hk2 : k < l
      · rw [List.getElem?_append_left (by simp; omega), List.getElem?_append_right (by omega)]
        rw [List.getElem?_replicate]
        split <;> rfl
      · rw [List.getElem?_append_right (by simp; omega)]
        simp
        have : k - (h.length + (l - h.length)) ≠ 0 := by omega
        obtain ⟨m, hm⟩ := Nat.exists_eq_succ_of_ne_zero this
        rw [hm]; rfl

theorem length_putO (h : Heap) (l : Nat) (o : AObj) : (putO h l o).length = max h.length (l + 1) := by
  unfold putO
  split
  · simp; omega
  · simp; omega

theorem getO_lt {h : Heap} {l : Nat} {o : AObj} (hg : getO h l = some o) : l < h.length := by
  unfold getO at hg
  rcases Nat.lt_or_ge l h.length with h1 | h1
  · exact h1
  · rw [List.getElem?_eq_none (by omega)] at hg; simp at hg

theorem cell_of_heap {w : World} {b : Nat} {arr : Array Value} {T : TypeId} {fr : Nat × Nat} (hg : w.heap[b]? = some (.cells arr T fr)) (o : Nat) : w.cell? ⟨b, o, none⟩ = arr[o]? := by
  unfold World.cell?
  rw [hg]
  rfl

theorem cell_lt {w : World} {b o : Nat} {v : Value} (h : w.cell? ⟨b, o, none⟩ = some v) : b < w.heap.size := by
  unfold World.cell? at h
  rcases Nat.lt_or_ge b w.heap.size with h1 | h1
  · exact h1
  · rw [Array.getElem?_eq_none (by omega)] at h; simp at h

/-- Objects' relation where nothing of memory was turned but the stable cells grew. -/
theorem HRel.mono_same {c c' : Cx} {h : Heap} (hr : HRel c h) (hle : c.le c') (hρ : c'.ρ = c.ρ) (hS : ∀ b o, c'.S b o → c.S b o ∨ (c.w.heap.size ≤ b ∧ ∃ v, c'.w.cell? ⟨b, o, none⟩ = some v))
    (hb : ∀ b, OwnH c h b → c'.w.heap[b]? = c.w.heap[b]?) : HRel c' h := by
  refine ⟨fun l cs hl => ?_, fun t e n ht => ?_, hr.nomap, fun l l' o o' b h1 h2 h3 h4 => ?_, fun b o hs => ?_, hr.gi.keep hle.keeps⟩
  · obtain ⟨h0, b, arr, T, h1, h2, h3, h4, h5⟩ := hr.box l cs hl
    refine ⟨Nat.lt_of_lt_of_le h0 hle.n, b, arr, T, by rw [hρ]; exact h1, ?_, h3, fun j x v hx hv => (h4 j x v hx hv).mono hle, fun o ho => ?_⟩
    · rw [hb b ⟨l, _, hl, by rw [h1]; rfl⟩]; exact h2
    · rcases hS b o ho with h6 | ⟨h6, _⟩
      · exact h5 o h6
      · have := (Array.getElem?_eq_some_iff.1 h2).1; omega
  · obtain ⟨h0, base, cap, h1, h2, h3⟩ := hr.tok t e n ht
    refine ⟨Nat.lt_of_lt_of_le h0 hle.n, base, cap, by rw [hρ]; exact h1, h2, fun hlt => ?_⟩
    obtain ⟨b, o, arr, T, h4, h5, h6, h7⟩ := h3 hlt
    refine ⟨b, o, arr, T, h4, ?_, h6, fun x hx hs => ?_⟩
    · rw [hb b ⟨t, _, ht, by rw [h1]; simp [Gh.own, hlt, h4]⟩]; exact h5
    · rcases hS b x hs with h8 | ⟨h8, _⟩
      · exact h7 x hx h8
      · have := (Array.getElem?_eq_some_iff.1 h5).1; omega
  · rw [hρ] at h3 h4; exact hr.sep l l' o o' b h1 h2 h3 h4
  · rcases hS b o hs with h1 | ⟨_, h1⟩
    · obtain ⟨v, hv⟩ := hr.stb b o h1
      exact ⟨v, (hle.keeps.cell b o h1).trans hv⟩
    · exact h1
end Go.Proofs.YtfifgiopdbdeoaaDoor.Lite
namespace Go.Proofs.YtfifgiopdbdeoaaDoor.Lite
open Go Go.RowKit

/-- A new world: one block more. -/
structure Pushed (w w' : World) (o : Obj) : Prop where
  heap : w'.heap = w.heap.push o
  os : w'.os = w.os
  tape : w'.tape = w.tape
  output : w'.output = w.output

theorem Pushed.alloc (w : World) (o : Obj) : Pushed w (w.alloc o) o := ⟨rfl, rfl, rfl, rfl⟩
theorem Pushed.drew (w : World) (o : Obj) : Pushed w (w.drew.alloc o) o := ⟨rfl, rfl, rfl, rfl⟩
theorem Pushed.old {w w' : World} {o : Obj} (h : Pushed w w' o) {b : Nat} (hb : b < w.heap.size) : w'.heap[b]? = w.heap[b]? := by
  rw [h.heap, Array.getElem?_push, if_neg (by omega)]
theorem Pushed.new {w w' : World} {o : Obj} (h : Pushed w w' o) : w'.heap[w.heap.size]? = some o := by
  rw [h.heap]; simp
theorem Pushed.size {w w' : World} {o : Obj} (h : Pushed w w' o) : w'.heap.size = w.heap.size + 1 := by
  rw [h.heap]; simp
theorem cell_of_block {w w' : World} {b : Nat} (h : w'.heap[b]? = w.heap[b]?) (o : Nat) : w'.cell? ⟨b, o, none⟩ = w.cell? ⟨b, o, none⟩ := by
  unfold World.cell?; rw [h]

def upd (ρ : Nat → Gh) (id : Nat) (g : Gh) : Nat → Gh := fun l => if l = id then g else ρ l
theorem upd_same (ρ : Nat → Gh) (id : Nat) (g : Gh) : upd ρ id g id = g := by simp [upd]
theorem upd_other (ρ : Nat → Gh) {id l : Nat} (g : Gh) (h : l ≠ id) : upd ρ id g l = ρ l := by simp [upd, h]

/-- The general step: one object is laid (or laid anew) at id; the world turns in blocks that nobody else owns. -/
theorem HRel.put {c : Cx} {h : Heap} (hr : HRel c h) {id wp : Nat} {o : AObj} {g : Gh} {S' : Stb} {w' : World} (hwp : wp ≤ id)
    (hg : id < c.N → (c.ρ id).le g) (hdead : id < c.N → getO h id = none → c.ρ id = .no)
    (hkeep : Keeps c.S S' c.w w')
    (hsz : c.w.heap.size ≤ w'.heap.size) (hos : w'.os = c.w.os) (htp : w'.tape = c.w.tape) (hout : w'.output = c.w.output)
    -- a block that turned was owned by id's object, or is new
    (hblk : ∀ b, b < c.w.heap.size → ¬ (∃ o', getO h id = some o' ∧ (c.ρ id).own = some b) → w'.heap[b]? = c.w.heap[b]?)
    (hown : ∀ b, g.own = some b → (∃ o', getO h id = some o' ∧ (c.ρ id).own = some b) ∨ c.w.heap.size ≤ b)
    (hS : ∀ b x, S' b x → c.S b x ∨ (∃ o', getO h id = some o' ∧ (c.ρ id).own = some b) ∨ c.w.heap.size ≤ b)
    (hstb : ∀ b x, S' b x → ∃ v, w'.cell? ⟨b, x, none⟩ = some v)
    (hbox : ∀ cs, o = .cells cs → ∃ b arr T, g = .box b ∧ w'.heap[b]? = some (.cells arr T (0, 0)) ∧ cs.length ≤ arr.size ∧
      (∀ (j : Nat) x v, cs[j]? = some x → arr[j]? = some v → VRel { c with N := max c.N (id + 1), S := S', ρ := upd c.ρ id g, w := w' } x v) ∧ (∀ o, ¬ S' b o))
    (htok : ∀ e n, o = .tok e n → ∃ base cap, g = .tok base cap e n ∧ n ≤ cap ∧
      (n < cap → ∃ b o arr T, base = some ⟨b, o, none⟩ ∧ w'.heap[b]? = some (.cells arr T (0, 0)) ∧ o + cap * e ≤ arr.size ∧ ∀ x, o + n * e ≤ x → ¬ S' b x))
    (hmap : ∀ es, o ≠ .map es) :
    HRel { c with N := max c.N (id + 1), S := S', ρ := upd c.ρ id g, w := w' } (putO h id o) ∧
    HExt c { c with N := max c.N (id + 1), S := S', ρ := upd c.ρ id g, w := w' } h (putO h id o) wp := by
  have hle : c.le { c with N := max c.N (id + 1), S := S', ρ := upd c.ρ id g, w := w' } :=
    ⟨Nat.le_max_left _ _, Nat.le_refl _, hkeep, fun l hl => by
      by_cases e : l = id
      · subst e; simp only [upd_same]; exact hg hl
      · simp only [upd_other _ _ e]; exact Gh.le_refl _, fun _ _ => rfl, fun _ _ => rfl⟩
  -- a block owned by another object
  have hoth : ∀ l o' b, l ≠ id → getO h l = some o' → (c.ρ l).own = some b → w'.heap[b]? = c.w.heap[b]? ∨ ¬ b < c.w.heap.size := by
    intro l o' b hne ho hb
    by_cases hlt : b < c.w.heap.size
    · refine .inl (hblk b hlt ?_)
      rintro ⟨o2, h1, h2⟩
      exact hne (hr.sep l id o' o2 b ho h1 hb h2)
    · exact .inr hlt
  constructor
  · refine ⟨fun l cs hl => ?_, fun t e n ht => ?_, fun l es hl => ?_, fun l l' o1 o2 b h1 h2 h3 h4 => ?_, hstb, hr.gi.keep hkeep⟩
    · by_cases e : l = id
      · subst e
        rw [getO_putO_same] at hl
        obtain ⟨b, arr, T, h1, h2, h3, h4, h5⟩ := hbox cs (by injection hl)
        exact ⟨by show l < max c.N (l + 1); omega, b, arr, T, by show upd c.ρ l g l = _; rw [upd_same]; exact h1, h2, h3, h4, h5⟩
      · rw [getO_putO_other _ _ e] at hl
        obtain ⟨h0, b, arr, T, h1, h2, h3, h4, h5⟩ := hr.box l cs hl
        have hlt := (Array.getElem?_eq_some_iff.1 h2).1
        have hb : w'.heap[b]? = c.w.heap[b]? := (hoth l _ b e hl (by rw [h1]; rfl)).resolve_right (by omega)
        refine ⟨by show l < max c.N (id + 1); omega, b, arr, T, by show upd c.ρ id g l = _; rw [upd_other _ _ e]; exact h1, by rw [← h2]; exact hb, h3, fun j x v hx hv => (h4 j x v hx hv).mono hle, fun x hx => ?_⟩
        rcases hS b x hx with h6 | ⟨o2, h6, h7⟩ | h6
        · exact h5 x h6
        · exact e (hr.sep l id _ o2 b hl h6 (by rw [h1]; rfl) h7)
        · omega
    · by_cases e' : t = id
      · subst e'
        rw [getO_putO_same] at ht
        obtain ⟨base, cap, h1, h2, h3⟩ := htok e n (by injection ht)
        exact ⟨by show t < max c.N (t + 1); omega, base, cap, by show upd c.ρ t g t = _; rw [upd_same]; exact h1, h2, h3⟩
      · rw [getO_putO_other _ _ e'] at ht
        obtain ⟨h0, base, cap, h1, h2, h3⟩ := hr.tok t e n ht
        refine ⟨by show t < max c.N (id + 1); omega, base, cap, by show upd c.ρ id g t = _; rw [upd_other _ _ e']; exact h1, h2, fun hlt => ?_⟩
        obtain ⟨b, o3, arr, T, h4, h5, h6, h7⟩ := h3 hlt
        have hltb := (Array.getElem?_eq_some_iff.1 h5).1
        have hown' : (c.ρ t).own = some b := by rw [h1]; simp [Gh.own, hlt, h4]
        have hb : w'.heap[b]? = c.w.heap[b]? := (hoth t _ b e' ht hown').resolve_right (by omega)
        refine ⟨b, o3, arr, T, h4, by rw [← h5]; exact hb, h6, fun x hx hs => ?_⟩
        rcases hS b x hs with h8 | ⟨o2, h8, h9⟩ | h8
        · exact h7 x hx h8
        · exact e' (hr.sep t id _ o2 b ht h8 hown' h9)
        · omega
    · by_cases e : l = id
      · subst e; rw [getO_putO_same] at hl; exact hmap es (by injection hl)
      · rw [getO_putO_other _ _ e] at hl; exact hr.nomap l es hl
    · simp only at h3 h4
      by_cases e : l = id
      · by_cases e' : l' = id
        · rw [e, e']
        · exfalso
          subst e
          rw [getO_putO_other _ _ e'] at h2
          rw [upd_same] at h3
          rw [upd_other _ _ e'] at h4
          rcases hown b h3 with ⟨o3, h5, h6⟩ | h5
          · exact e' (hr.sep l' l o2 o3 b h2 h5 h4 h6)
          · obtain ⟨bx, hbx⟩ := own_lt hr h2 h4; omega
      · by_cases e' : l' = id
        · exfalso
          subst e'
          rw [getO_putO_other _ _ e] at h1
          rw [upd_same] at h4
          rw [upd_other _ _ e] at h3
          rcases hown b h4 with ⟨o3, h5, h6⟩ | h5
          · exact e (hr.sep l l' o1 o3 b h1 h5 h3 h6)
          · obtain ⟨bx, hbx⟩ := own_lt hr h1 h3; omega
        · rw [getO_putO_other _ _ e] at h1
          rw [getO_putO_other _ _ e'] at h2
          rw [upd_other _ _ e] at h3
          rw [upd_other _ _ e'] at h4
          exact hr.sep l l' o1 o2 b h1 h2 h3 h4
  · refine ⟨hkeep, hle.gh, Nat.le_max_left _ _, rfl, rfl, rfl, fun b hb hno => hblk b hb (fun ⟨o', h1, h2⟩ => hno ⟨id, o', h1, h2⟩), hsz, fun b hb => ?_, hos, htp, hout, fun l hl _ => getO_putO_other _ _ (by omega), by rw [length_putO]; omega, fun l hl h0 hn => ?_, fun b x hs => ?_⟩
    · obtain ⟨l, o', h1, h2⟩ := hb
      by_cases e : l = id
      · subst e
        simp only [upd_same] at h2
        rcases hown b h2 with ⟨o3, h5, h6⟩ | h5
        · exact .inl ⟨l, o3, h5, h6⟩
        · exact .inr h5
      · rw [getO_putO_other _ _ e] at h1
        simp only [upd_other _ _ e] at h2
        exact .inl ⟨l, o', h1, h2⟩
    · have e : l ≠ id := fun e => by subst e; exact hn (hdead hl h0)
      exact ⟨upd_other _ _ e, by rw [getO_putO_other _ _ e]; exact h0⟩
    · rcases hS b x hs with h1 | ⟨o2, h1, h2⟩ | h1
      · exact .inl h1
      · exact .inr (.inl ⟨id, o2, h1, h2⟩)
      · exact .inr (.inr h1)
where
  own_lt {c : Cx} {h : Heap} (hr : HRel c h) {l b : Nat} {o : AObj} (ho : getO h l = some o) (hb : (c.ρ l).own = some b) : ∃ _ : Unit, b < c.w.heap.size := by
    cases o with
    | cells cs =>
      obtain ⟨_, b', arr, T, h1, h2, _⟩ := hr.box l cs ho
      rw [h1] at hb; simp [Gh.own] at hb; subst hb
      exact ⟨(), (Array.getElem?_eq_some_iff.1 h2).1⟩
    | tok e n =>
      obtain ⟨_, base, cap, h1, h2, h3⟩ := hr.tok l e n ho
      rw [h1] at hb
      simp only [Gh.own] at hb
      split at hb
      · rename_i hlt
        obtain ⟨b', o', arr, T, h4, h5, _⟩ := h3 hlt
        rw [h4] at hb; simp at hb; subst hb
        exact ⟨(), (Array.getElem?_eq_some_iff.1 h5).1⟩
      · simp at hb
    | map es => exact absurd ho (hr.nomap l es)
end Go.Proofs.YtfifgiopdbdeoaaDoor.Lite
namespace Go.Proofs.YtfifgiopdbdeoaaDoor.Lite
open Go Go.RowKit

abbrev Cx.with (c : Cx) (id : Nat) (S' : Stb) (g : Gh) (w' : World) : Cx := { c with N := max c.N (id + 1), S := S', ρ := upd c.ρ id g, w := w' }

theorem HRel.lt_of_S {c : Cx} {h : Heap} (hr : HRel c h) {b x : Nat} (hs : c.S b x) : b < c.w.heap.size := by
  obtain ⟨v, hv⟩ := hr.stb b x hs
  exact cell_lt hv

theorem keeps_pushed {c : Cx} {h : Heap} (hr : HRel c h) {w' : World} {o : Obj} (hp : Pushed c.w w' o) {S' : Stb} (hS : ∀ b x, c.S b x → S' b x) : Keeps c.S S' c.w w' :=
  ⟨hS, fun b x hs => cell_of_block (hp.old (hr.lt_of_S hs)) x⟩

/-- A new variable. -/
theorem HRel.new_box {c : Cx} {h : Heap} (hr : HRel c h) {id wp : Nat} (hwp : wp ≤ id) (hid : getO h id = none) (hN : id < c.N → c.ρ id = .no) {cs : List AV} {arr : Array Value} {T : TypeId}
    (hz : cs.length ≤ arr.size) (hv : ∀ (j : Nat) x v, cs[j]? = some x → arr[j]? = some v → VRel c x v) {w' : World} (hp : Pushed c.w w' (.cells arr T (0, 0))) :
    HRel (c.with id c.S (.box c.w.heap.size) w') (putO h id (.cells cs)) ∧ HExt c (c.with id c.S (.box c.w.heap.size) w') h (putO h id (.cells cs)) wp := by
  have hk := keeps_pushed hr hp (S' := c.S) fun _ _ h => h
  have hle : c.le (c.with id c.S (.box c.w.heap.size) w') := ⟨Nat.le_max_left _ _, Nat.le_refl _, hk, fun l hl => by
      by_cases e : l = id
      · subst e; rw [hN hl]; trivial
      · show (c.ρ l).le (upd c.ρ id _ l); rw [upd_other _ _ e]; exact Gh.le_refl _, fun _ _ => rfl, fun _ _ => rfl⟩
  refine hr.put hwp (fun hl => by rw [hN hl]; trivial) (fun hl _ => hN hl) hk (by rw [hp.size]; omega) hp.os hp.tape hp.output (fun b hb _ => hp.old hb) (fun b hb => .inr ?_) (fun b x hs => .inl hs)
    (fun b x hs => ?_) (fun cs' he => ?_) (fun e n he => by cases he) (fun es he => by cases he)
  · simp [Gh.own] at hb; omega
  · obtain ⟨v, hv⟩ := hr.stb b x hs; exact ⟨v, (hk.cell b x hs).trans hv⟩
  · cases he
    exact ⟨_, arr, T, rfl, hp.new, hz, fun j x v hx hv' => (hv j x v hx hv').mono hle, fun o hs => by have := hr.lt_of_S hs; omega⟩

/-- A store into a variable. -/
theorem HRel.store {c : Cx} {h : Heap} (hr : HRel c h) {l wp : Nat} (hwp : wp ≤ l) {cs cs' : List AV} (hl : getO h l = some (.cells cs)) {b : Nat} (hb : c.ρ l = .box b) {arr arr' : Array Value} {T : TypeId}
    (hblk : c.w.heap[b]? = some (.cells arr T (0, 0))) (hz : cs'.length ≤ arr'.size) (hv : ∀ (j : Nat) x v, cs'[j]? = some x → arr'[j]? = some v → VRel c x v) :
    HRel (c.with l c.S (.box b) (c.w.setRow b arr')) (putO h l (.cells cs')) ∧ HExt c (c.with l c.S (.box b) (c.w.setRow b arr')) h (putO h l (.cells cs')) wp := by
  obtain ⟨h0, b', _, _, h1, _, _, _, hns⟩ := hr.box l cs hl
  rw [hb] at h1; cases h1
  have hk : Keeps c.S c.S c.w (c.w.setRow b arr') := ⟨fun _ _ h => h, fun b' x hs => cell_of_block (setRow_other _ _ _ _ (fun e => by subst e; exact hns x hs)) x⟩
  have hle : c.le (c.with l c.S (.box b) (c.w.setRow b arr')) := ⟨Nat.le_max_left _ _, Nat.le_refl _, hk, fun l' hl' => by
      by_cases e : l' = l
      · subst e; show (c.ρ l').le (upd c.ρ l' _ l'); rw [upd_same, hb]; rfl
      · show (c.ρ l').le (upd c.ρ l _ l'); rw [upd_other _ _ e]; exact Gh.le_refl _, fun _ _ => rfl, fun _ _ => rfl⟩
  refine hr.put hwp (fun _ => by rw [hb]; rfl) (fun _ h0 => by rw [hl] at h0; cases h0) hk (by simp [World.setRow]) rfl rfl rfl (fun b' hb' hno => setRow_other _ _ _ _ (fun e => hno ⟨_, hl, by rw [hb, e]; rfl⟩)) (fun b' hb' => .inl ⟨_, hl, by rw [hb]; exact hb'⟩) (fun b x hs => .inl hs)
    (fun b x hs => ?_) (fun cs'' he => ?_) (fun e n he => by cases he) (fun es he => by cases he)
  · obtain ⟨v, hv⟩ := hr.stb b x hs; exact ⟨v, (hk.cell b x hs).trans hv⟩
  · cases he
    exact ⟨_, arr', T, rfl, setRow_heap _ _ _ _ _ _ hblk, hz, fun j x v hx hv' => (hv j x v hx hv').mono hle, hns⟩

/-- A slice that may grow: its block is new (whatever lay at id before is let go). -/
theorem HRel.tok_new {c : Cx} {h : Heap} (hr : HRel c h) {id wp : Nat} (hwp : wp ≤ id) (hdead : id < c.N → getO h id = none → c.ρ id = .no) {e n cap : Nat} (hle : id < c.N → (c.ρ id).le (.tok (some ⟨c.w.heap.size, 0, none⟩) cap e n)) {arr : Array Value} {T : TypeId} {w' : World}
    (hp : Pushed c.w w' (.cells arr T (0, 0))) (hn : n ≤ cap) (hc : cap * e ≤ arr.size) :
    HRel (c.with id (fun b x => c.S b x ∨ (b = c.w.heap.size ∧ x < n * e)) (.tok (some ⟨c.w.heap.size, 0, none⟩) cap e n) w') (putO h id (.tok e n)) ∧
    HExt c (c.with id (fun b x => c.S b x ∨ (b = c.w.heap.size ∧ x < n * e)) (.tok (some ⟨c.w.heap.size, 0, none⟩) cap e n) w') h (putO h id (.tok e n)) wp := by
  have hk := keeps_pushed hr hp (S' := fun b x => c.S b x ∨ (b = c.w.heap.size ∧ x < n * e)) fun _ _ h => .inl h
  have hne : n * e ≤ cap * e := Nat.mul_le_mul_right _ hn
  refine hr.put hwp hle hdead hk (by rw [hp.size]; omega) hp.os hp.tape hp.output (fun b hb _ => hp.old hb) (fun b hb => .inr ?_) (fun b x hs => ?_)
    (fun b x hs => ?_) (fun cs' he => by cases he) (fun e' n' he => ?_) (fun es he => by cases he)
  · simp only [Gh.own] at hb; split at hb
    · simp at hb; omega
    · simp at hb
  · rcases hs with hs | ⟨rfl, _⟩
    · exact .inl hs
    · exact .inr (.inr (Nat.le_refl _))
  · rcases hs with hs | ⟨rfl, hx⟩
    · obtain ⟨v, hv⟩ := hr.stb b x hs; exact ⟨v, (hk.cell b x hs).trans hv⟩
    · rw [cell_of_heap hp.new]; exact ⟨arr[x]'(by omega), by rw [Array.getElem?_eq_getElem]⟩
  · cases he
    refine ⟨_, cap, rfl, hn, fun hlt => ⟨_, 0, arr, T, rfl, hp.new, by omega, fun x hx hs => ?_⟩⟩
    rcases hs with hs | ⟨_, hs⟩
    · have := hr.lt_of_S hs; omega
    · omega

/-- A slice without cells of its own. -/
theorem HRel.tok_nil {c : Cx} {h : Heap} (hr : HRel c h) {id wp : Nat} (hwp : wp ≤ id) (hdead : id < c.N → getO h id = none → c.ρ id = .no) {e n : Nat} {base : Option Addr} (hle : id < c.N → (c.ρ id).le (.tok base n e n)) :
    HRel (c.with id c.S (.tok base n e n) c.w) (putO h id (.tok e n)) ∧ HExt c (c.with id c.S (.tok base n e n) c.w) h (putO h id (.tok e n)) wp := by
  refine hr.put hwp hle hdead (Keeps.refl _ _) (Nat.le_refl _) rfl rfl rfl (fun b hb _ => rfl) (fun b hb => by simp [Gh.own] at hb) (fun b x hs => .inl hs)
    (fun b x hs => hr.stb b x hs) (fun cs' he => by cases he) (fun e' n' he => ?_) (fun es he => by cases he)
  cases he
  exact ⟨_, n, rfl, Nat.le_refl _, fun hlt => by omega⟩

/-- A slice that grows in place. -/
theorem HRel.tok_place {c : Cx} {h : Heap} (hr : HRel c h) {t wp : Nat} (hwp : wp ≤ t) {e n m cap b o : Nat} (hm : 0 < m) (ht : getO h t = some (.tok e n)) (hg : c.ρ t = .tok (some ⟨b, o, none⟩) cap e n) (hcap : n + m ≤ cap)
    {arr arr' : Array Value} {T : TypeId} (hblk : c.w.heap[b]? = some (.cells arr T (0, 0))) (hsz : arr'.size = arr.size) (hoc : o + cap * e ≤ arr.size) (hold : ∀ x, x < o + n * e → arr'[x]? = arr[x]?)
    (hS : ∀ x, o + n * e ≤ x → ¬ c.S b x) :
    HRel (c.with t (fun b' x => c.S b' x ∨ (b' = b ∧ o + n * e ≤ x ∧ x < o + (n + m) * e)) (.tok (some ⟨b, o, none⟩) cap e (n + m)) (c.w.setRow b arr')) (putO h t (.tok e (n + m))) ∧
    HExt c (c.with t (fun b' x => c.S b' x ∨ (b' = b ∧ o + n * e ≤ x ∧ x < o + (n + m) * e)) (.tok (some ⟨b, o, none⟩) cap e (n + m)) (c.w.setRow b arr')) h (putO h t (.tok e (n + m))) wp := by
  have hown : (c.ρ t).own = some b := by rw [hg]; simp [Gh.own]; omega
  have hnew := setRow_heap c.w b arr arr' T (0, 0) hblk
  have hk : Keeps c.S (fun b' x => c.S b' x ∨ (b' = b ∧ o + n * e ≤ x ∧ x < o + (n + m) * e)) c.w (c.w.setRow b arr') :=
    ⟨fun _ _ h => .inl h, fun b' x hs => by
      by_cases eb : b' = b
      · subst eb
        rw [cell_of_heap hnew, cell_of_heap hblk]
        exact hold x (Nat.lt_of_not_le fun hx => hS x hx hs)
      · exact cell_of_block (setRow_other _ _ _ _ eb) x⟩
  have hmul : (n + m) * e ≤ cap * e := Nat.mul_le_mul_right _ hcap
  refine hr.put hwp (fun _ => by rw [hg]; exact ⟨_, _, _, _, rfl, .inl (by omega)⟩) (fun _ h0 => by rw [ht] at h0; cases h0) hk (by simp [World.setRow]) rfl rfl rfl (fun b' hb' hno => setRow_other _ _ _ _ (fun e => hno ⟨_, ht, by rw [hown, e]⟩))
    (fun b' hb' => .inl ⟨_, ht, ?_⟩) (fun b' x hs => ?_) (fun b' x hs => ?_) (fun cs' he => by cases he) (fun e' n' he => ?_) (fun es he => by cases he)
  · simp only [Gh.own] at hb'; split at hb'
    · simp at hb'; rw [hown, hb']
    · simp at hb'
  · rcases hs with hs | ⟨rfl, _⟩
    · exact .inl hs
    · exact .inr (.inl ⟨_, ht, hown⟩)
  · rcases hs with hs | ⟨rfl, h1, h2⟩
    · obtain ⟨v, hv⟩ := hr.stb b' x hs; exact ⟨v, (hk.cell b' x hs).trans hv⟩
    · rw [cell_of_heap hnew]; exact ⟨arr'[x]'(by omega), by rw [Array.getElem?_eq_getElem]⟩
  · cases he
    refine ⟨_, cap, rfl, hcap, fun hlt => ⟨b, o, arr', T, rfl, hnew, by omega, fun x hx hs => ?_⟩⟩
    rcases hs with hs | ⟨_, _, hs⟩
    · exact hS x (by have : n * e ≤ (n + m) * e := Nat.mul_le_mul_right _ (by omega); omega) hs
    · omega
end Go.Proofs.YtfifgiopdbdeoaaDoor.Lite
namespace Go.Proofs.YtfifgiopdbdeoaaDoor.Lite
open Go Go.RowKit

structure EnvRel (c : Cx) (env : Env) (tm : Array Value) : Prop where
  get : ∀ t x, look env t = some x → t < tm.size ∧ VRel c x (tm.getD t undef)
  gi : GI c.S c.w
instance {c : Cx} {env : Env} {tm : Array Value} : CoeFun (EnvRel c env tm) (fun _ => ∀ t x, look env t = some x → t < tm.size ∧ VRel c x (tm.getD t undef)) := ⟨EnvRel.get⟩

theorem EnvRel.mono {c c' : Cx} (hc : c.le c') {env : Env} {tm : Array Value} (h : EnvRel c env tm) : EnvRel c' env tm :=
  ⟨fun t x hx => ⟨(h t x hx).1, (h t x hx).2.mono hc⟩, h.gi.keep hc.keeps⟩

theorem EnvRel.put {c : Cx} {env : Env} {a : Act} (h : EnvRel c env a.tmps) {x : AV} {v : Value} (hv : VRel c x v) : ∀ (dst : Option Nat), (∀ t, dst = some t → t < a.tmps.size) → EnvRel c (putE env dst x) (a.put dst v).tmps
  | none, _ => h
  | some d, hd => by
    refine ⟨fun t y hy => ?_, h.gi⟩
    have hlt := hd d rfl
    simp only [putE, look] at hy
    simp only [Act.put, Array.size_setIfInBounds]
    split at hy
    · rename_i e; subst e
      injection hy with hy; subst hy
      exact ⟨hlt, by simpa [Array.getD, hlt] using hv⟩
    · rename_i e
      obtain ⟨h1, h2⟩ := h t y hy
      refine ⟨h1, ?_⟩
      have : (a.tmps.setIfInBounds d v).getD t undef = a.tmps.getD t undef := by
        simp [Array.getD, h1, Array.getElem_setIfInBounds, e]
      rw [this]; exact h2

def chkV : Value → AV → Bool
  | .int k n, .d (.int k' n') => k == k' && n == n'
  | .bool b, .d (.bool b') => b == b'
  | .string s, .d (.str l) => s.data.toList == l
  | .nilFunc, .nilf => true
  | .pointer none, .nilp => true
  | .slice none 0 0, .nils => true
  | .tuple vs, .tup [] => vs.isEmpty
  | _, _ => false

theorem chkV_sound {v : Value} {x : AV} (h : chkV v x = true) (c : Cx) : VRel c x v := by
  unfold chkV at h
  split at h
  · simp only [Bool.and_eq_true, beq_iff_eq] at h; obtain ⟨rfl, rfl⟩ := h; exact .d (.int _ _)
  · simp only [beq_iff_eq] at h; subst h; exact .d (.bool _)
  · simp only [beq_iff_eq] at h; subst h; exact .d (.str _)
  · exact .nilf
  · exact .nilp
  · exact .nils
  · rename_i vs
    have : vs = #[] := by simpa using h
    subst this
    exact VRel.tup (by simp) (fun j x v hx => by simp at hx)
  · cases h

def chkVs : List Value → List AV → Bool
  | [], [] => true
  | v :: vs, x :: xs => chkV v x && chkVs vs xs
  | _, _ => false

theorem chkVs_sound : ∀ {vs : List Value} {xs : List AV}, chkVs vs xs = true → ∀ c, vs.length = xs.length ∧ ∀ (j : Nat) x v, xs[j]? = some x → vs[j]? = some v → VRel c x v
  | [], [], _, c => ⟨rfl, fun j x v hx => by simp at hx⟩
  | v :: vs, x :: xs, h, c => by
    simp only [chkVs, Bool.and_eq_true] at h
    obtain ⟨h1, h2⟩ := chkVs_sound h.2 c
    refine ⟨by simp [h1], fun j y u hy hu => ?_⟩
    cases j with
    | zero => simp at hy hu; subst hy; subst hu; exact chkV_sound h.1 c
    | succ j => simp at hy hu; exact h2 j y u hy hu

def datEq : Dat → Dat → Bool
  | .int k n, .int k' n' => k == k' && n == n'
  | .bool a, .bool b => a == b
  | .str a, .str b => a == b
  | _, _ => false
theorem datEq_eq {x y : Dat} (h : datEq x y = true) : x = y := by
  unfold datEq at h
  split at h <;> simp_all
def datsEq : List Dat → List Dat → Bool
  | [], [] => true
  | x :: xs, y :: ys => datEq x y && datsEq xs ys
  | _, _ => false
theorem datsEq_eq : ∀ {xs ys : List Dat}, datsEq xs ys = true → xs = ys
  | [], [], _ => rfl
  | x :: xs, y :: ys, h => by
    simp only [datsEq, Bool.and_eq_true] at h
    rw [datEq_eq h.1, datsEq_eq h.2]
  | [], _ :: _, h => by simp [datsEq] at h
  | _ :: _, [], h => by simp [datsEq] at h
theorem glob_rel {c : Cx} (hg : GI c.S c.w) {g : Nat} {cells : List Dat} (h : (GLOB.any fun p => p.1 == g && datsEq p.2 cells) = true) : VRel c (.iptr cells) (.pointer (some ⟨g, 0, none⟩)) := by
  rw [List.any_eq_true] at h
  obtain ⟨⟨g', cs⟩, hm, h⟩ := h
  simp only [Bool.and_eq_true, beq_iff_eq] at h
  obtain ⟨rfl, h2⟩ := h
  have := datsEq_eq h2
  subst this
  refine .iptr (vals := fun j => (c.w.cell? ⟨g', j, none⟩).getD undef) (fun j x hx => ?_) (fun j x hx => ?_)
  · obtain ⟨h1, v, h2, h3⟩ := hg g' cs hm j x hx
    rw [Nat.zero_add]
    exact ⟨h1, by rw [h2]; rfl⟩
  · obtain ⟨h1, v, h2, h3⟩ := hg g' cs hm j x hx
    rw [h2]; exact h3

def chkX : Operand → X → Bool
  | .tmp t, .t n => t == n
  | .const v, .c x => chkV v x
  | .func f, .c (.fn g []) => f == g
  | .global g, .c (.iptr cells) => GLOB.any fun p => p.1 == g && datsEq p.2 cells
  | _, _ => false

theorem chkX_sound {o : Operand} {x : X} (h : chkX o x = true) {c : Cx} {env : Env} {a : Act} (he : EnvRel c env a.tmps) {v : AV} (hv : evX env x = some v) : VRel c v (a.eval o) := by
  unfold chkX at h
  split at h
  · simp only [beq_iff_eq] at h; subst h; exact (he _ _ hv).2
  · simp only [evX, Option.some.injEq] at hv; subst hv; exact chkV_sound h c
  · simp only [beq_iff_eq] at h; subst h
    simp only [evX, Option.some.injEq] at hv; subst hv
    exact VRel.fn (by simp) (fun j x v hx => by simp at hx)
  · simp only [evX, Option.some.injEq] at hv; subst hv
    exact glob_rel he.gi h
  · cases h

def chkXs : List Operand → List X → Bool
  | [], [] => true
  | o :: os, x :: xs => chkX o x && chkXs os xs
  | _, _ => false

theorem chkXs_sound : ∀ {os : List Operand} {xs : List X}, chkXs os xs = true → ∀ {c : Cx} {env : Env} {a : Act}, EnvRel c env a.tmps → ∀ {vs : List AV}, evXs env xs = some vs →
    (os.map a.eval).length = vs.length ∧ ∀ (j : Nat) x v, vs[j]? = some x → (os.map a.eval)[j]? = some v → VRel c x v
  | [], [], _, c, env, a, _, vs, h => by simp only [evXs, Option.some.injEq] at h; subst h; exact ⟨rfl, fun j x v hx => by simp at hx⟩
  | o :: os, x :: xs, h, c, env, a, he, vs, hv => by
    simp only [chkXs, Bool.and_eq_true] at h
    simp only [evXs] at hv
    split at hv
    · rename_i v vs' h1 h2
      injection hv with hv; subst hv
      obtain ⟨h3, h4⟩ := chkXs_sound h.2 he h2
      refine ⟨by simpa using h3, fun j y u hy hu => ?_⟩
      cases j with
      | zero => simp at hy hu; subst hy; subst hu; exact chkX_sound h.1 he h1
      | succ j => simp only [List.getElem?_cons_succ, List.map_cons] at hy hu; exact h4 j y u hy hu
    · cases hv

def sz (P : Program) (t : TypeId) : Option Nat := (P.info? t).map (·.size)
def aggB (P : Program) (t : TypeId) : Bool := match P.underlying t with | some (.struct _) | some (.array _ _) => true | _ => false
def scalB (P : Program) (t : TypeId) : Bool := match P.underlying t with | none | some (.struct _) | some (.array _ _) => false | _ => true

section runs
variable {P : Program} {t : TypeId} (w : World)
theorem run_sizeOf {n : Nat} (h : sz P t = some n) : (sizeOf t).run P w = .ok n w := by
  unfold sz at h
  cases hi : P.info? t with
  | none => rw [hi] at h; cases h
  | some i => rw [hi] at h; simp at h; subst h; simp [sizeOf, typeInfo, hi]
theorem run_isAgg_true (h : aggB P t = true) : (isAgg t).run P w = .ok true w := by
  unfold aggB at h
  split at h <;> first | (rename_i hu; simp [isAgg, run_underlying hu]) | cases h
theorem run_isAgg_false (h : scalB P t = true) : (isAgg t).run P w = .ok false w := by
  unfold scalB at h
  unfold isAgg
  cases hu : P.underlying t with
  | none => rw [hu] at h; cases h
  | some d => rw [hu] at h; simp [run_underlying hu]; cases d <;> first | rfl | cases h
end runs

theorem add_plain (b o n : Nat) : (⟨b, o, none⟩ : Addr).add n = ⟨b, o + n, none⟩ := by
  unfold Addr.add; split <;> simp_all

section exec
variable {o : Oper} {ρ : Operand → Value}
theorem exec_load {t x} (ho : o.op = .load t x) : execOp ρ o = (do pure (.value (← Instr.loadAt t (ρ x)))) := by unfold execOp; rw [ho]
end exec

/-- What an operation comes to. -/
def OpRes (P : Program) (o : Oper) (a : Act) (c : Cx) (h h' : Heap) (wp : Nat) (x : AV) : Prop :=
  ∃ nx v c', (execOp a.eval o).run P c.w = .ok nx c'.w ∧ (nx = .value v ∨ (nx = .skip ∧ v = undef)) ∧ VRel c' x v ∧ HRel c' h' ∧ HExt c c' h h' wp ∧ c'.N = max c.N h'.length ∧ (∀ l, getO h' l = none → c'.ρ l = c.ρ l)

section inv
variable {c : Cx} {v : Value}
theorem VRel.inv_bool {t : Bool} (h : VRel c (.d (.bool t)) v) : v = .bool t := by cases h with | d h => cases h; rfl
theorem VRel.inv_int {k : IntKind} {n : Int} (h : VRel c (.d (.int k n)) v) : v = .int k n := by cases h with | d h => cases h; rfl
theorem VRel.inv_str {l : List UInt8} (h : VRel c (.d (.str l)) v) : ∃ s : ByteArray, v = .string s ∧ s.data.toList = l := by cases h with | d h => cases h; exact ⟨_, rfl, rfl⟩
theorem VRel.inv_ptr {l o : Nat} (h : VRel c (.ptr l o) v) : ∃ b, v = .pointer (some ⟨b, o, none⟩) ∧ l < c.N ∧ c.ρ l = .box b := by cases h with | ptr h1 h2 => exact ⟨_, rfl, h1, h2⟩
theorem VRel.inv_iptr {cells : List Dat} (h : VRel c (.iptr cells) v) : ∃ (b o : Nat) (vals : Nat → Value), v = .pointer (some ⟨b, o, none⟩) ∧
    (∀ (j : Nat) x, cells[j]? = some x → c.S b (o + j) ∧ c.w.cell? ⟨b, o + j, none⟩ = some (vals j)) ∧ ∀ (j : Nat) x, cells[j]? = some x → DRel c.S c.w x (vals j) := by
  cases h with | iptr h1 h2 => exact ⟨_, _, _, rfl, h1, h2⟩
theorem VRel.inv_agg {cs : List AV} (h : VRel c (.agg cs) v) : ∃ arr : Array Value, v = .agg arr ∧ arr.size = cs.length ∧ ∀ (j : Nat) x v, cs[j]? = some x → arr[j]? = some v → VRel c x v := by
  cases h with | agg h1 h2 => exact ⟨_, rfl, h1, h2⟩
theorem VRel.inv_tup {cs : List AV} (h : VRel c (.tup cs) v) : ∃ arr : Array Value, v = .tuple arr ∧ arr.size = cs.length ∧ ∀ (j : Nat) x v, cs[j]? = some x → arr[j]? = some v → VRel c x v := by
  cases h with | tup h1 h2 => exact ⟨_, rfl, h1, h2⟩
theorem VRel.inv_fn {f : Nat} {cs : List AV} (h : VRel c (.fn f cs) v) : ∃ arr : Array Value, v = .func (.func f) #[] arr ∧ arr.size = cs.length ∧ ∀ (j : Nat) x v, cs[j]? = some x → arr[j]? = some v → VRel c x v := by
  cases h with | fn h1 h2 => exact ⟨_, rfl, h1, h2⟩
theorem VRel.inv_yld {i : Nat} (h : VRel c (.yld i) v) : v = .func (.yield (c.lm i)) #[] #[] ∧ i < c.M := by cases h with | yld h1 => exact ⟨rfl, h1⟩
theorem VRel.inv_nilp (h : VRel c .nilp v) : v = .pointer none := by cases h; rfl
theorem VRel.inv_emp {b : Bool} (h : VRel c (.emp b) v) : ∃ base cap, v = .slice base 0 cap ∧ b = base.isNone := by cases h; exact ⟨_, _, rfl, rfl⟩
theorem VRel.inv_nilf (h : VRel c .nilf v) : v = .nilFunc := by cases h; rfl
theorem VRel.inv_nils (h : VRel c .nils v) : ∃ b, v = .slice b 0 0 := by cases h; exact ⟨_, rfl⟩
theorem VRel.inv_slr {l o n e m : Nat} (h : VRel c (.slr l o n e m) v) : ∃ b cap, v = .slice (some ⟨b, o, none⟩) n cap ∧ l < c.N ∧ c.ρ l = .box b ∧ n ≤ cap ∧ n ≤ m ∧ m ≤ cap := by cases h with | slr h1 h2 h3 h4 => exact ⟨_, _, rfl, h1, h2, Nat.le_trans h3 h4, h3, h4⟩
theorem VRel.inv_sl {rows : List (List Dat)} (h : VRel c (.d (.sl rows)) v) : DRel c.S c.w (.sl rows) v := by cases h with | d h => exact h
theorem VRel.inv_ws {rows : List (List Dat)} {t : Nat} (h : VRel c (.ws rows t) v) : DRel c.S c.w (.sl rows) v ∧ t < c.N ∧ ∃ base cap e tip, c.ρ t = .tok base cap e tip ∧ rows.length ≤ tip ∧ (rows.length = tip → v = .slice base tip cap) := by
  cases h with | ws h1 h2 h3 h4 h5 => exact ⟨h2, h1, _, _, _, _, h3, h4, h5⟩
theorem DRel.inv_sl {S : Stb} {w : World} {rows : List (List Dat)} (h : DRel S w (.sl rows) v) : (rows = [] ∧ ∃ base cap, v = .slice base 0 cap) ∨
    ∃ (b off e cap : Nat) (vals : Nat → Nat → Value), v = .slice (some ⟨b, off, none⟩) rows.length cap ∧ (∀ row ∈ rows, row.length = e) ∧ rows.length ≤ cap ∧
      (∀ i j x, at2 rows i j = some x → S b (off + i * e + j) ∧ w.cell? ⟨b, off + i * e + j, none⟩ = some (vals i j)) ∧ ∀ i j x, at2 rows i j = some x → DRel S w x (vals i j) := by
  cases h with
  | nil base cap => exact .inl ⟨rfl, _, _, rfl⟩
  | sl _ b off e cap vals he hc hs hr => exact .inr ⟨b, off, e, cap, vals, rfl, he, hc, hs, hr⟩
theorem DRel.slice_len {S : Stb} {w : World} {rows : List (List Dat)} (h : DRel S w (.sl rows) v) : ∃ base cap, v = .slice base rows.length cap := by
  rcases h.inv_sl with ⟨rfl, b, c, rfl⟩ | ⟨b, off, e, cap, vals, rfl, _⟩
  · exact ⟨_, _, rfl⟩
  · exact ⟨_, _, rfl⟩
end inv

section ops
variable {P : Program} {o : Oper} {a : Act} {c : Cx} {h : Heap} {wp : Nat} {env : Env}

theorem OpRes.pure (hr : HRel c h) (hl : h.length ≤ c.N) {x : AV} {v : Value} (hrun : (execOp a.eval o).run P c.w = .ok (.value v) c.w) (hv : VRel c x v) : OpRes P o a c h h wp x :=
  ⟨_, v, c, hrun, .inl rfl, hv, hr, HExt.refl _ _ _, by omega, fun _ _ => rfl⟩

theorem ok_mv (hr : HRel c h) (hl : h.length ≤ c.N) {x : Operand} (ho : o.op = .move x ∨ o.op = .assign x) {v : AV} (hv : VRel c v (a.eval x)) : OpRes P o a c h h wp v := by
  refine .pure hr hl (v := a.eval x) ?_ hv
  unfold execOp
  rcases ho with ho | ho <;> rw [ho] <;> rfl

theorem ok_pick (hr : HRel c h) (hl : h.length ≤ c.N) {x y z : Operand} (ho : o.op = .pick x y z) {t : Bool} (hx : VRel c (.d (.bool t)) (a.eval x)) {v : AV} (hv : VRel c v (if t then a.eval y else a.eval z)) : OpRes P o a c h h wp v := by
  refine .pure hr hl (v := if t then a.eval y else a.eval z) ?_ hv
  have e := hx.inv_bool
  unfold execOp; rw [ho]; simp [e, asBool]

theorem ok_ld_ptr (hr : HRel c h) (hl : h.length ≤ c.N) {t : TypeId} {x : Operand} (ho : o.op = .load t x) (hs : scalB P t = true) {l off : Nat} (hx : VRel c (.ptr l off) (a.eval x))
    {cs : List AV} (hg : getO h l = some (.cells cs)) {v : AV} (hv : cs[off]? = some v) : OpRes P o a c h h wp v := by
  obtain ⟨_, b, arr, T, h1, h2, h3, h4, _⟩ := hr.box l cs hg
  obtain ⟨_, hxe, _, hb⟩ := hx.inv_ptr
  rw [h1] at hb; cases hb
  · skip
    have hlt : off < arr.size := Nat.lt_of_lt_of_le (List.getElem?_eq_some_iff.1 hv).1 h3
    refine .pure hr hl (v := arr[off]) ?_ (h4 off v _ hv (Array.getElem?_eq_getElem hlt))
    rw [exec_load ho, hxe]
    have hc : c.w.cell? ⟨b, off, none⟩ = some arr[off] := by rw [cell_of_heap h2]; exact Array.getElem?_eq_getElem hlt
    simp [Instr.loadAt, Instr.sureAddr, loadVar, run_isAgg_false _ hs, hc]

theorem ok_ld_iptr (hr : HRel c h) (hl : h.length ≤ c.N) {t : TypeId} {x : Operand} (ho : o.op = .load t x) (hs : scalB P t = true) {cells : List Dat} (hx : VRel c (.iptr cells) (a.eval x))
    {d : Dat} (hv : cells[0]? = some d) : OpRes P o a c h h wp (.d d) := by
  obtain ⟨b, off, vals, hxe, hs', hr'⟩ := hx.inv_iptr
  · skip
    obtain ⟨_, hc⟩ := hs' 0 d hv
    refine .pure hr hl (v := vals 0) ?_ (.d (hr' 0 d hv))
    rw [exec_load ho, hxe]
    simp only [Nat.add_zero] at hc
    simp [Instr.loadAt, Instr.sureAddr, loadVar, run_isAgg_false _ hs, hc]

theorem ok_ldn_ptr (hr : HRel c h) (hl : h.length ≤ c.N) {t : TypeId} {x : Operand} (ho : o.op = .load t x) (hs : aggB P t = true) {n : Nat} (hn : sz P t = some n) {l off : Nat} (hx : VRel c (.ptr l off) (a.eval x))
    {cs : List AV} (hg : getO h l = some (.cells cs)) (hle : off + n ≤ cs.length) : OpRes P o a c h h wp (.agg ((cs.drop off).take n)) := by
  obtain ⟨_, b, arr, T, h1, h2, h3, h4, _⟩ := hr.box l cs hg
  obtain ⟨_, hxe, _, hb⟩ := hx.inv_ptr
  rw [h1] at hb; cases hb
  · skip
    have hrun := run_loadCells_list (P := P) c.w ⟨b, off, none⟩ ((arr.toList.drop off).take n) (fun j v hj => by
      rw [add_plain, cell_of_heap h2]
      simp only [List.getElem?_take, List.getElem?_drop] at hj
      split at hj
      · simpa using hj
      · cases hj)
    have hlen : ((arr.toList.drop off).take n).length = n := by simp; omega
    rw [hlen] at hrun
    refine .pure hr hl (v := .agg ((arr.toList.drop off).take n).toArray) ?_ (.agg (by simp; omega) fun j x v hx hv => ?_)
    · rw [exec_load ho, hxe]
      simp [Instr.loadAt, Instr.sureAddr, loadVar, run_isAgg_true _ hs, run_sizeOf _ hn, hrun]
    · simp only [List.getElem?_take, List.getElem?_drop, List.getElem?_toArray] at hx hv
      split at hx
      · rename_i hj; simp only [hj, if_true] at hv; exact h4 (off + j) x v hx (by simpa using hv)
      · cases hx

theorem ok_ldn_iptr (hr : HRel c h) (hl : h.length ≤ c.N) {t : TypeId} {x : Operand} (ho : o.op = .load t x) (hs : aggB P t = true) {n : Nat} (hn : sz P t = some n) {cells : List Dat} (hx : VRel c (.iptr cells) (a.eval x))
    (hle : n ≤ cells.length) : OpRes P o a c h h wp (.agg ((cells.take n).map .d)) := by
  obtain ⟨b, off, vals, hxe, hs', hr'⟩ := hx.inv_iptr
  · skip
    have hrun := run_loadCells_list (P := P) c.w ⟨b, off, none⟩ ((List.range n).map vals) (fun j v hj => by
      rw [add_plain]
      simp only [List.getElem?_map, List.getElem?_range'] at hj
      by_cases hjn : j < n
      · simp [List.getElem?_range hjn] at hj
        subst hj
        exact (hs' j (cells[j]'(by omega)) (by simp)).2
      · rw [List.getElem?_eq_none (by simp; omega)] at hj; cases hj)
    simp only [List.length_map, List.length_range] at hrun
    refine .pure hr hl (v := .agg ((List.range n).map vals).toArray) ?_ (.agg (by simp; omega) fun j x v hx hv => ?_)
    · rw [exec_load ho, hxe]
      simp [Instr.loadAt, Instr.sureAddr, loadVar, run_isAgg_true _ hs, run_sizeOf _ hn, hrun]
    · simp only [List.getElem?_map, List.getElem?_take, List.getElem?_toArray] at hx hv
      by_cases hjn : j < n
      · simp only [hjn, if_true] at hx
        simp [List.getElem?_range hjn] at hv
        subst hv
        cases hc : cells[j]? with
        | none => rw [hc] at hx; cases hx
        | some d => rw [hc] at hx; simp at hx; subst hx; exact .d (hr' j d hc)
      · simp [hjn] at hx
end ops
end Go.Proofs.YtfifgiopdbdeoaaDoor.Lite
namespace Go.Proofs.YtfifgiopdbdeoaaDoor.Lite
open Go Go.RowKit

section exec
variable {o : Oper} {ρ : Operand → Value}
theorem exec_alloc {t} (ho : o.op = .alloc t) : execOp ρ o = (do pure (.value (← Instr.alloc t true (.tuple #[])))) := by unfold execOp; rw [ho]
theorem exec_box {t x} (ho : o.op = .box t x) : execOp ρ o = (do pure (.value (← Instr.box t (ρ x)))) := by unfold execOp; rw [ho]
theorem exec_store {t x v} (ho : o.op = .store t x v) : execOp ρ o = (do Instr.storeAt t (ρ x) (ρ v); pure .skip) := by unfold execOp; rw [ho]
theorem exec_fieldAddr {t x f} (ho : o.op = .fieldAddr t x f) : execOp ρ o = (do pure (.value (← Instr.fieldAt t (ρ x) f))) := by unfold execOp; rw [ho]
theorem exec_indexAddr {t x i} (ho : o.op = .indexAddr t x i) : execOp ρ o = (do pure (.value (← Instr.indexAt t (ρ x) (ρ i)))) := by unfold execOp; rw [ho]
theorem exec_field {t x f} (ho : o.op = .field t x f) : execOp ρ o = (do pure (.value (← Instr.field t (ρ x) f))) := by unfold execOp; rw [ho]
theorem exec_index {t x i} (ho : o.op = .index t x i) : execOp ρ o = (do pure (.value (← Instr.index t (ρ x) (ρ i)))) := by unfold execOp; rw [ho]
theorem exec_binOp {op t x y u} (ho : o.op = .binOp op t x y u) : execOp ρ o = (do pure (.value (← (do eqGuard op t x y (ρ x) (ρ y); binOp op t (ρ x) (ρ y))))) := by unfold execOp; rw [ho]
theorem exec_unOp {op t x} (ho : o.op = .unOp op t x) : execOp ρ o = (do pure (.value (← Op.unary op (ρ x)))) := by unfold execOp; rw [ho]
theorem exec_convert {s t x} (ho : o.op = .convert s t x) : execOp ρ o = (do pure (.value (← convert s t (ρ x)))) := by unfold execOp; rw [ho]
theorem exec_makeFunc {f p q} (ho : o.op = .makeFunc f p q) : execOp ρ o = (do pure (.value (← Instr.makeFunc f (p.map ρ) (q.map ρ)))) := by unfold execOp; rw [ho]
theorem exec_build {t ps} (ho : o.op = .build t ps) : execOp ρ o = (do pure (.value (← Instr.build t (ps.map fun (i, x) => (i, ρ x))))) := by unfold execOp; rw [ho]
theorem exec_buildSlice {t n ps} (ho : o.op = .buildSlice t n ps) : execOp ρ o = (do pure (.value (← Instr.buildSlice t n (ps.map fun (i, x) => (i, ρ x))))) := by unfold execOp; rw [ho]
theorem exec_slice {t x l h m} (ho : o.op = .slice t x l h m) : execOp ρ o = (do pure (.value (← Instr.sliceAt t (ρ x) (l.map ρ) (h.map ρ) (m.map ρ)))) := by unfold execOp; rw [ho]
theorem exec_extract {x i} (ho : o.op = .extract x i) : execOp ρ o = (do pure (.value (← Instr.extract (ρ x) i))) := by unfold execOp; rw [ho]
theorem exec_call {c} (ho : o.op = .call c) : execOp ρ o = (do let d ← resolve ρ c o.type; invoke d.target d.args) := by unfold execOp; rw [ho]
end exec

section ops
variable {P : Program} {o : Oper} {a : Act} {c : Cx} {h : Heap} {wp : Nat} {env : Env}

theorem OpRes.of_put (hl : h.length ≤ c.N) {x : AV} {v : Value} {id : Nat} {ob : AObj} {c' : Cx} (hN : c'.N = max c.N (id + 1)) (hrun : (execOp a.eval o).run P c.w = .ok (.value v) c'.w) (hv : VRel c' x v)
    (hh : HRel c' (putO h id ob) ∧ HExt c c' h (putO h id ob) wp) (hρ : ∀ l, l ≠ id → c'.ρ l = c.ρ l := by intro l hl; exact upd_other _ _ hl) : OpRes P o a c h (putO h id ob) wp x :=
  ⟨_, v, c', hrun, .inl rfl, hv, hh.1, hh.2, by rw [hN, length_putO]; omega, fun l h0 => hρ l fun e => by subst e; rw [getO_putO_same] at h0; cases h0⟩

theorem ok_new (hr : HRel c h) (hl : h.length ≤ c.N) {t : TypeId} (ho : o.op = .alloc t) {i : TypeInfo} {z : Value} (hi : P.info? t = some i) (hz : i.zero = some z) {zero : List AV} (hc : chkVs z.cells.toList zero = true)
    {id : Nat} (hwp : wp ≤ id) (hid : getO h id = none) (hN : id < c.N → c.ρ id = .no) : OpRes P o a c h (putO h id (.cells zero)) wp (.ptr id 0) := by
  obtain ⟨hlen, hrel⟩ := chkVs_sound hc c
  have hp : Pushed c.w (c.w.alloc (.cells z.cells t (0, 0))) (.cells z.cells t (0, 0)) := .alloc _ _
  have hh := hr.new_box hwp hid hN (cs := zero) (arr := z.cells) (T := t) (Nat.le_of_eq (by simpa using hlen.symm)) (fun j x v hx hv => hrel j x v hx (by simpa using hv)) hp
  refine .of_put hl (c' := c.with id c.S (.box c.w.heap.size) _) rfl (v := .pointer (some ⟨c.w.heap.size, 0, none⟩)) ?_ (.ptr (by show id < max c.N (id + 1); omega) (upd_same _ _ _)) hh
  rw [exec_alloc ho]
  simp [Instr.alloc, zeroValue, typeInfo, hi, hz, newVar, newRow]

theorem cells_rel {x : AV} {v : Value} (hv : VRel c x v) : v.cells.size = x.cellsOf.length ∧ ∀ (j : Nat) y u, x.cellsOf[j]? = some y → v.cells[j]? = some u → VRel c y u := by
  have one : ∀ (x : AV) (v : Value), VRel c x v → x.cellsOf = [x] → v.cells = #[v] → v.cells.size = x.cellsOf.length ∧ ∀ (j : Nat) y u, x.cellsOf[j]? = some y → v.cells[j]? = some u → VRel c y u := by
    intro x v hv h1 h2
    rw [h1, h2]
    refine ⟨rfl, fun j y u hy hu => ?_⟩
    cases j with
    | zero => simp at hy hu; subst hy; subst hu; exact hv
    | succ j => simp at hy
  cases hv with
  | agg hz h => exact ⟨hz, h⟩
  | d h => refine one _ _ (.d h) rfl ?_; cases h <;> rfl
  | nils => exact one _ _ .nils rfl rfl
  | ws h1 h2 h3 h4 h5 => refine one _ _ (.ws h1 h2 h3 h4 h5) rfl ?_; obtain ⟨_, _, rfl⟩ := h2.slice_len; rfl
  | slr h1 h2 h3 h4 => exact one _ _ (.slr h1 h2 h3 h4) rfl rfl
  | ptr h1 h2 => exact one _ _ (.ptr h1 h2) rfl rfl
  | nilp => exact one _ _ .nilp rfl rfl
  | iptr h1 h2 => exact one _ _ (.iptr h1 h2) rfl rfl
  | fn h1 h2 => exact one _ _ (.fn h1 h2) rfl rfl
  | yld h1 => exact one _ _ (.yld h1) rfl rfl
  | nilf => exact one _ _ .nilf rfl rfl
  | tup h1 h2 => exact one _ _ (.tup h1 h2) rfl rfl
  | mp h1 h2 => exact one _ _ (.mp h1 h2) rfl rfl
  | emp => exact one _ _ .emp rfl rfl

theorem isCell_one {x : AV} {v : Value} (hv : VRel c x v) (h : x.isCell = true) : v.oneCell' = true := by
  cases hv with
  | d h => cases h <;> rfl
  | ws h1 h2 => obtain ⟨_, _, rfl⟩ := h2.slice_len; rfl
  | agg => cases h
  | tup => cases h
  | _ => rfl

theorem ok_box (hr : HRel c h) (hl : h.length ≤ c.N) {t : TypeId} {x : Operand} (ho : o.op = .box t x) {v : AV} (hv : VRel c v (a.eval x))
    {id : Nat} (hwp : wp ≤ id) (hid : getO h id = none) (hN : id < c.N → c.ρ id = .no) : OpRes P o a c h (putO h id (.cells v.cellsOf)) wp (.ptr id 0) := by
  obtain ⟨hlen, hrel⟩ := cells_rel hv
  have hp : Pushed c.w (c.w.alloc (.cells (a.eval x).cells t (0, 0))) (.cells (a.eval x).cells t (0, 0)) := .alloc _ _
  have hh := hr.new_box hwp hid hN (cs := v.cellsOf) (arr := (a.eval x).cells) (T := t) (Nat.le_of_eq hlen.symm) hrel hp
  refine .of_put hl (c' := c.with id c.S (.box c.w.heap.size) _) rfl (v := .pointer (some ⟨c.w.heap.size, 0, none⟩)) ?_ (.ptr (by show id < max c.N (id + 1); omega) (upd_same _ _ _)) hh
  rw [exec_box ho]
  simp [Instr.box, newVar, newRow]

theorem lay_get {cs vs : List AV} {off : Nat} (hle : off + vs.length ≤ cs.length) (j : Nat) :
    (lay cs off vs)[j]? = if j < off then cs[j]? else if j < off + vs.length then vs[j - off]? else cs[j]? := by
  unfold lay
  by_cases h1 : j < off
  · rw [List.append_assoc, List.getElem?_append_left (by simp; omega)]; simp [h1]
  · rw [List.append_assoc, List.getElem?_append_right (by simp; omega)]
    have e1 : (cs.take off).length = off := by simp; omega
    rw [e1]
    by_cases h2 : j < off + vs.length
    · rw [List.getElem?_append_left (by omega)]; simp [h1, h2]
    · rw [List.getElem?_append_right (by omega)]; simp [h1, h2]; congr 1; omega

theorem lay_length {cs vs : List AV} {off : Nat} (hle : off + vs.length ≤ cs.length) : (lay cs off vs).length = cs.length := by
  unfold lay; simp; omega

theorem layV_get {cs vs : List Value} {off : Nat} (hle : off + vs.length ≤ cs.length) (j : Nat) :
    (cs.take off ++ vs ++ cs.drop (off + vs.length))[j]? = if j < off then cs[j]? else if j < off + vs.length then vs[j - off]? else cs[j]? := by
  by_cases h1 : j < off
  · rw [List.append_assoc, List.getElem?_append_left (by simp; omega)]; simp [h1]
  · rw [List.append_assoc, List.getElem?_append_right (by simp; omega)]
    have e1 : (cs.take off).length = off := by simp; omega
    rw [e1]
    by_cases h2 : j < off + vs.length
    · rw [List.getElem?_append_left (by omega)]; simp [h1, h2]
    · rw [List.getElem?_append_right (by omega)]; simp [h1, h2]; congr 1; omega

theorem ok_st (hr : HRel c h) (hl : h.length ≤ c.N) {t : TypeId} {x u : Operand} (ho : o.op = .store t x u) {n : Nat} (hn : sz P t = some n) {l off : Nat} (hx : VRel c (.ptr l off) (a.eval x)) {v : AV} (hv : VRel c v (a.eval u))
    {cs : List AV} (hg : getO h l = some (.cells cs)) (hwp : wp ≤ l) (hvn : v.cellsOf.length = n) (hle : off + n ≤ cs.length) (hcell : v.cellsOf.all AV.isCell = true) :
    OpRes P o a c h (putO h l (.cells (lay cs off v.cellsOf))) wp (.tup []) := by
  obtain ⟨h0, b, arr, T, h1, h2, h3, h4, _⟩ := hr.box l cs hg
  obtain ⟨_, hxe, _, hb⟩ := hx.inv_ptr
  rw [h1] at hb; cases hb
  obtain ⟨hlen, hrel⟩ := cells_rel hv
  have hvl : (a.eval u).cells.toList.length = n := by simp; omega
  have hone : ∀ y ∈ (a.eval u).cells.toList, y.oneCell' = true := by
    intro y hy
    obtain ⟨j, hj, rfl⟩ := List.mem_iff_getElem.1 hy
    have hj' : j < v.cellsOf.length := by omega
    have := hrel j v.cellsOf[j] ((a.eval u).cells.toList[j]) (by simp) (by simp)
    exact isCell_one this (by rw [List.all_eq_true] at hcell; exact hcell _ (List.getElem_mem _))
  have hst := run_storeCells_at P b off T (a.eval u).cells.toList 0 arr c.w h2 (by rw [hvl]; omega) hone
  simp only [Nat.add_zero] at hst
  have hlv : off + (a.eval u).cells.toList.length ≤ arr.toList.length := by simp at hvl ⊢; omega
  have hlay : off + v.cellsOf.length ≤ cs.length := by omega
  have hh := hr.store hwp hg h1 h2 (cs' := lay cs off v.cellsOf) (arr' := (arr.toList.take off ++ (a.eval u).cells.toList ++ arr.toList.drop (off + (a.eval u).cells.toList.length)).toArray)
    (by rw [lay_length hlay]; simp at hvl ⊢; omega) (fun j y w hy hw => by
      rw [lay_get hlay] at hy
      rw [List.getElem?_toArray, layV_get hlv] at hw
      rw [hvl] at hw
      rw [hvn] at hy
      by_cases e1 : j < off
      · simp only [e1, if_true] at hy hw; exact h4 j y w hy (by simpa using hw)
      · simp only [e1, if_false] at hy hw
        by_cases e2 : j < off + n
        · simp only [e2, if_true] at hy hw; exact hrel (j - off) y w hy (by simpa using hw)
        · simp only [e2, if_false] at hy hw; exact h4 j y w hy (by simpa using hw))
  refine ⟨.skip, undef, c.with l c.S (.box b) _, ?_, .inr ⟨rfl, rfl⟩, VRel.tup (by simp) (fun j x v hx => by simp at hx), hh.1, hh.2, by show max c.N (l + 1) = _; rw [length_putO]; omega, fun k h0 => upd_other _ _ fun e => by subst e; rw [getO_putO_same] at h0; cases h0⟩
  rw [exec_store ho, hxe]
  have hszv : (a.eval u).cells.size = n := by simpa using hvl
  simp only [Instr.storeAt, Instr.sureAddr, storeVar, Sem.run_bind, Sem.run_pure, Result.andThen_ok, run_sizeOf _ hn, hszv, hst, ne_eq, not_true_eq_false, if_false]

theorem ok_off_ptr (hr : HRel c h) (hl : h.length ≤ c.N) {t : TypeId} {x : Operand} {f : Nat} (ho : o.op = .fieldAddr t x f) {fs : Array Field} (ht : P.underlying t = some (.struct fs)) {fd : Field} (hf : fs[f]? = some fd)
    {s : Nat} (hs : sz P fd.type = some s) (hpos : 0 < s) {l off : Nat} (hx : VRel c (.ptr l off) (a.eval x)) : OpRes P o a c h h wp (.ptr l (off + fd.offset)) := by
  obtain ⟨b, hxe, h1, hb⟩ := hx.inv_ptr
  refine .pure hr hl (v := .pointer (some ⟨b, off + fd.offset, none⟩)) ?_ (.ptr h1 hb)
  rw [exec_fieldAddr ho, hxe]
  have : ¬ s = 0 := by omega
  simp [Instr.fieldAt, run_underlying ht, hf, Instr.sureAddr, fieldPlace, run_sizeOf _ hs, this, add_plain]

theorem iptr_drop {cells : List Dat} {b o n : Nat} (h : VRel c (.iptr cells) (.pointer (some ⟨b, o, none⟩))) : VRel c (.iptr (cells.drop n)) (.pointer (some ⟨b, o + n, none⟩)) := by
  obtain ⟨b', o', vals, he, hs, hr⟩ := h.inv_iptr
  cases he
  refine .iptr (vals := fun j => vals (n + j)) (fun j x hx => ?_) fun j x hx => ?_
  · rw [List.getElem?_drop] at hx
    have := hs (n + j) x hx
    rw [Nat.add_assoc]; exact this
  · rw [List.getElem?_drop] at hx; exact hr (n + j) x hx

theorem ok_off_iptr (hr : HRel c h) (hl : h.length ≤ c.N) {t : TypeId} {x : Operand} {f : Nat} (ho : o.op = .fieldAddr t x f) {fs : Array Field} (ht : P.underlying t = some (.struct fs)) {fd : Field} (hf : fs[f]? = some fd)
    {s : Nat} (hs : sz P fd.type = some s) (hpos : 0 < s) {cells : List Dat} (hx : VRel c (.iptr cells) (a.eval x)) : OpRes P o a c h h wp (.iptr (cells.drop fd.offset)) := by
  obtain ⟨b, off, vals, hxe, _, _⟩ := hx.inv_iptr
  refine .pure hr hl (v := .pointer (some ⟨b, off + fd.offset, none⟩)) ?_ (iptr_drop (by rw [← hxe]; exact hx))
  rw [exec_fieldAddr ho, hxe]
  have : ¬ s = 0 := by omega
  simp [Instr.fieldAt, run_underlying ht, hf, Instr.sureAddr, fieldPlace, run_sizeOf _ hs, this, add_plain]

theorem ok_ixa_ptr (hr : HRel c h) (hl : h.length ≤ c.N) {t : TypeId} {x y : Operand} (ho : o.op = .indexAddr t x y) {n e : Nat} {el : TypeId} (ht : P.underlying t = some (.array n el)) (he : sz P el = some e)
    {l off : Nat} (hx : VRel c (.ptr l off) (a.eval x)) {k : IntKind} {i : Int} (hy : VRel c (.d (.int k i)) (a.eval y)) (h0 : 0 ≤ i) (h1 : i < n) : OpRes P o a c h h wp (.ptr l (off + i.toNat * e)) := by
  obtain ⟨b, hxe, h2, hb⟩ := hx.inv_ptr
  have hye := hy.inv_int
  refine .pure hr hl (v := .pointer (some ⟨b, off + i.toNat * e, none⟩)) ?_ (.ptr h2 hb)
  rw [exec_indexAddr ho, hxe, hye]
  simp [Instr.indexAt, asIntOf, run_underlying ht, Instr.sureAddr, h0, h1, run_sizeOf _ he, add_plain]

theorem ok_ixa_iptr (hr : HRel c h) (hl : h.length ≤ c.N) {t : TypeId} {x y : Operand} (ho : o.op = .indexAddr t x y) {n e : Nat} {el : TypeId} (ht : P.underlying t = some (.array n el)) (he : sz P el = some e)
    {cells : List Dat} (hx : VRel c (.iptr cells) (a.eval x)) {k : IntKind} {i : Int} (hy : VRel c (.d (.int k i)) (a.eval y)) (h0 : 0 ≤ i) (h1 : i < n) : OpRes P o a c h h wp (.iptr (cells.drop (i.toNat * e))) := by
  obtain ⟨b, off, vals, hxe, _, _⟩ := hx.inv_iptr
  have hye := hy.inv_int
  refine .pure hr hl (v := .pointer (some ⟨b, off + i.toNat * e, none⟩)) ?_ (iptr_drop (by rw [← hxe]; exact hx))
  rw [exec_indexAddr ho, hxe, hye]
  simp [Instr.indexAt, asIntOf, run_underlying ht, Instr.sureAddr, h0, h1, run_sizeOf _ he, add_plain]

theorem at2_some {rows : List (List Dat)} {i j : Nat} {row : List Dat} (h : rows[i]? = some row) : at2 rows i j = row[j]? := by simp [at2, h]

theorem ok_ixs_sl (hr : HRel c h) (hl : h.length ≤ c.N) {t : TypeId} {x y : Operand} (ho : o.op = .indexAddr t x y) {e : Nat} {el : TypeId} (ht : P.underlying t = some (.slice el)) (he : sz P el = some e)
    {rows : List (List Dat)} (hx : DRel c.S c.w (.sl rows) (a.eval x)) {k : IntKind} {i : Int} (hy : VRel c (.d (.int k i)) (a.eval y)) (h0 : 0 ≤ i) {row : List Dat} (hrow : rows[i.toNat]? = some row) (hre : row.length = e) :
    OpRes P o a c h h wp (.iptr row) := by
  have hye := hy.inv_int
  have hlt := (List.getElem?_eq_some_iff.1 hrow).1
  rcases hx.inv_sl with ⟨rfl, _⟩ | ⟨b, off, e', cap, vals, hxe, hall, _, hs, hr'⟩
  · simp at hrow
  · have hee : e' = e := by rw [← hre, hall row (List.mem_of_getElem? hrow)]
    subst hee
    refine .pure hr hl (v := .pointer (some ⟨b, off + i.toNat * e', none⟩)) ?_ (.iptr (vals := fun j => vals i.toNat j) (fun j z hz => hs i.toNat j z (by rw [at2_some hrow]; exact hz)) fun j z hz => hr' i.toNat j z (by rw [at2_some hrow]; exact hz))
    rw [exec_indexAddr ho, hxe, hye]
    have : i < (rows.length : Int) := by omega
    simp [Instr.indexAt, asIntOf, run_underlying ht, h0, this, run_sizeOf _ he, add_plain]

theorem ok_ixs_slr (hr : HRel c h) (hl : h.length ≤ c.N) {t : TypeId} {x y : Operand} (ho : o.op = .indexAddr t x y) {e : Nat} {el : TypeId} (ht : P.underlying t = some (.slice el)) (he : sz P el = some e)
    {l off n m : Nat} (hx : VRel c (.slr l off n e m) (a.eval x)) {k : IntKind} {i : Int} (hy : VRel c (.d (.int k i)) (a.eval y)) (h0 : 0 ≤ i) (h1 : i < n) : OpRes P o a c h h wp (.ptr l (off + i.toNat * e)) := by
  obtain ⟨b, cap, hxe, h2, hb, _⟩ := hx.inv_slr
  have hye := hy.inv_int
  refine .pure hr hl (v := .pointer (some ⟨b, off + i.toNat * e, none⟩)) ?_ (.ptr h2 hb)
  rw [exec_indexAddr ho, hxe, hye]
  simp [Instr.indexAt, asIntOf, run_underlying ht, h0, h1, run_sizeOf _ he, add_plain]

theorem ok_fld (hr : HRel c h) (hl : h.length ≤ c.N) {t : TypeId} {x : Operand} {f : Nat} (ho : o.op = .field t x f) {fs : Array Field} (ht : P.underlying t = some (.struct fs)) {fd : Field} (hf : fs[f]? = some fd)
    (hs : scalB P fd.type = true) {cs : List AV} (hx : VRel c (.agg cs) (a.eval x)) {v : AV} (hv : cs[fd.offset]? = some v) : OpRes P o a c h h wp v := by
  obtain ⟨arr, hxe, hz, hrel⟩ := hx.inv_agg
  have hlt : fd.offset < arr.size := by rw [hz]; exact (List.getElem?_eq_some_iff.1 hv).1
  have ha : arr[fd.offset]? = some arr[fd.offset] := Array.getElem?_eq_getElem hlt
  refine .pure hr hl (v := arr[fd.offset]) ?_ (hrel _ v _ hv ha)
  rw [exec_field ho, hxe]
  simp [Instr.field, run_underlying ht, hf, asAgg, part, run_isAgg_false _ hs, ha]

theorem agg_seg {arr : Array Value} {cs : List AV} (hz : arr.size = cs.length) (hrel : ∀ (j : Nat) x v, cs[j]? = some x → arr[j]? = some v → VRel c x v) {off n : Nat} (hle : off + n ≤ cs.length) :
    VRel c (.agg ((cs.drop off).take n)) (.agg (arr.extract off (off + n))) := by
  refine .agg (by simp; omega) fun j x v hx hv => ?_
  simp only [List.getElem?_take, List.getElem?_drop] at hx
  split at hx
  · rename_i hj
    rw [Array.getElem?_extract] at hv
    split at hv
    · exact hrel _ x v hx hv
    · cases hv
  · cases hx

theorem ok_fldn (hr : HRel c h) (hl : h.length ≤ c.N) {t : TypeId} {x : Operand} {f : Nat} (ho : o.op = .field t x f) {fs : Array Field} (ht : P.underlying t = some (.struct fs)) {fd : Field} (hf : fs[f]? = some fd)
    (hs : aggB P fd.type = true) {n : Nat} (hn : sz P fd.type = some n) {cs : List AV} (hx : VRel c (.agg cs) (a.eval x)) (hle : fd.offset + n ≤ cs.length) : OpRes P o a c h h wp (.agg ((cs.drop fd.offset).take n)) := by
  obtain ⟨arr, hxe, hz, hrel⟩ := hx.inv_agg
  refine .pure hr hl (v := .agg (arr.extract fd.offset (fd.offset + n))) ?_ (agg_seg hz hrel hle)
  rw [exec_field ho, hxe]
  simp [Instr.field, run_underlying ht, hf, asAgg, part, run_isAgg_true _ hs, run_sizeOf _ hn]

theorem ok_ixv (hr : HRel c h) (hl : h.length ≤ c.N) {t : TypeId} {x y : Operand} (ho : o.op = .index t x y) {n : Nat} {el : TypeId} (ht : P.underlying t = some (.array n el)) (hs : scalB P el = true) (he : sz P el = some 1)
    {cs : List AV} (hx : VRel c (.agg cs) (a.eval x)) {k : IntKind} {i : Int} (hy : VRel c (.d (.int k i)) (a.eval y)) (h0 : 0 ≤ i) (h1 : i < n) {v : AV} (hv : cs[i.toNat]? = some v) : OpRes P o a c h h wp v := by
  obtain ⟨arr, hxe, hz, hrel⟩ := hx.inv_agg
  have hye := hy.inv_int
  have hlt : i.toNat < arr.size := by rw [hz]; exact (List.getElem?_eq_some_iff.1 hv).1
  have ha : arr[i.toNat]? = some arr[i.toNat] := Array.getElem?_eq_getElem hlt
  refine .pure hr hl (v := arr[i.toNat]) ?_ (hrel _ v _ hv ha)
  rw [exec_index ho, hxe, hye]
  simp [Instr.index, asIntOf, run_underlying ht, h0, h1, run_sizeOf _ he, part, run_isAgg_false _ hs, ha]

theorem ok_ixvn (hr : HRel c h) (hl : h.length ≤ c.N) {t : TypeId} {x y : Operand} (ho : o.op = .index t x y) {n e : Nat} {el : TypeId} (ht : P.underlying t = some (.array n el)) (hs : aggB P el = true) (he : sz P el = some e)
    {cs : List AV} (hx : VRel c (.agg cs) (a.eval x)) {k : IntKind} {i : Int} (hy : VRel c (.d (.int k i)) (a.eval y)) (h0 : 0 ≤ i) (h1 : i < n) (hle : i.toNat * e + e ≤ cs.length) : OpRes P o a c h h wp (.agg ((cs.drop (i.toNat * e)).take e)) := by
  obtain ⟨arr, hxe, hz, hrel⟩ := hx.inv_agg
  have hye := hy.inv_int
  refine .pure hr hl (v := .agg (arr.extract (i.toNat * e) (i.toNat * e + e))) ?_ (agg_seg hz hrel hle)
  rw [exec_index ho, hxe, hye]
  simp [Instr.index, asIntOf, run_underlying ht, h0, h1, run_sizeOf _ he, part, run_isAgg_true _ hs]

theorem ok_ixb (hr : HRel c h) (hl : h.length ≤ c.N) {t : TypeId} {x y : Operand} (ho : o.op = .index t x y) (ht : P.underlying t = some .string)
    {s : List UInt8} (hx : VRel c (.d (.str s)) (a.eval x)) {k : IntKind} {i : Int} (hy : VRel c (.d (.int k i)) (a.eval y)) (h0 : 0 ≤ i) {b : UInt8} (hv : s[i.toNat]? = some b) : OpRes P o a c h h wp (.d (.int .u8 b.toNat)) := by
  obtain ⟨bs, hxe, hbs⟩ := hx.inv_str
  have hye := hy.inv_int
  refine .pure hr hl (v := .int .u8 b.toNat) ?_ (.d (.int _ _))
  rw [exec_index ho, hxe, hye]
  have hlt : i.toNat < bs.size := by
    have := (List.getElem?_eq_some_iff.1 hv).1
    rw [← hbs] at this; simpa using this
  have hb : bs[i.toNat]? = some b := by
    rw [← hbs] at hv
    rw [getElem?_pos bs i.toNat hlt]
    simpa [ByteArray.getElem_eq_getElem_data, hlt] using hv
  simp [Instr.index, asIntOf, run_underlying ht, h0, hb]
end ops
end Go.Proofs.YtfifgiopdbdeoaaDoor.Lite
namespace Go.Proofs.YtfifgiopdbdeoaaDoor.Lite
open Go Go.RowKit

section ops
variable {P : Program} {o : Oper} {a : Act} {c : Cx} {h : Heap} {wp : Nat} {env : Env}

theorem ok_bin (hr : HRel c h) (hl : h.length ≤ c.N) {op : BinOp} {t u : TypeId} {x y : Operand} (ho : o.op = .binOp op t x y u) {p q v : AV} (hx : VRel c p (a.eval x)) (hy : VRel c q (a.eval y)) (hv : binOpA op p q = some v) : OpRes P o a c h h wp v := by
  unfold binOpA at hv
  split at hv
  · rename_i k m k' n
    split at hv
    · rename_i e; subst e
      have hxe := hx.inv_int
      have hye := hy.inv_int
      have key : ∀ w : Value, binOp op t (.int k m) (.int k n) = Pure.pure w → VRel c v w → OpRes P o a c h h wp v := fun w e hw => by
        refine .pure hr hl (v := w) ?_ hw
        rw [exec_binOp ho, hxe, hye]
        have hg : (eqGuard op t x y (.int k m) (.int k n)).run P c.w = .ok () c.w := by unfold eqGuard; split <;> rfl
        simp [hg, e]
      unfold intOp at hv
      split at hv
      all_goals first
        | (injection hv with hv; subst hv; refine key _ ?_ (.d (by first | exact .int _ _ | exact .bool _)); simp [binOp, Op.intArith, Op.intCmp, Op.intBits])
        | (split at hv
           · cases hv
           · rename_i h0
             injection hv with hv; subst hv; refine key _ ?_ (.d (.int _ _)); simp [binOp, Op.intDiv, h0])
        | cases hv
    · cases hv
  · rename_i s1 s2
    obtain ⟨b1, hxe, h1⟩ := hx.inv_str
    obtain ⟨b2, hye, h2⟩ := hy.inv_str
    have key : ∀ w : Value, binOp op t (.string b1) (.string b2) = Pure.pure w → VRel c v w → OpRes P o a c h h wp v := fun w e hw => by
      refine .pure hr hl (v := w) ?_ hw
      rw [exec_binOp ho, hxe, hye]
      have hg : (eqGuard op t x y (.string b1) (.string b2)).run P c.w = .ok () c.w := by unfold eqGuard; split <;> rfl
      simp [hg, e]
    have e1 : b1.toList = s1 := by rw [ByteArray.toList_eq]; exact h1
    have e2 : b2.toList = s2 := by rw [ByteArray.toList_eq]; exact h2
    unfold strOp at hv
    split at hv
    all_goals first
      | (injection hv with hv; subst hv; refine key _ ?_ (.d (.bool _)); simp [binOp, Op.stringOp, e1, e2])
      | cases hv
  · cases hv

theorem ok_eqb (hr : HRel c h) (hl : h.length ≤ c.N) {neg : Bool} {t u : TypeId} {x y : Operand} (ho : o.op = .binOp (if neg then .neq else .eql) t x y u) (ht : P.underlying t = some .bool) {p q : Bool}
    (hx : VRel c (.d (.bool p)) (a.eval x)) (hy : VRel c (.d (.bool q)) (a.eval y)) : OpRes P o a c h h wp (.d (.bool ((p == q) != neg))) := by
  refine .pure hr hl (v := .bool ((p == q) != neg)) ?_ (.d (.bool _))
  rw [exec_binOp ho, hx.inv_bool, hy.inv_bool]
  have he := run_equalIn_bool' (P := P) c.w 9999 t p q ht
  cases neg
  · have hg : (eqGuard .eql t x y (.bool p) (.bool q)).run P c.w = .ok () c.w := by unfold eqGuard; rfl
    simp [hg, binOp, Op.equal, Op.maxDepth, he]
  · have hg : (eqGuard .neq t x y (.bool p) (.bool q)).run P c.w = .ok () c.w := by unfold eqGuard; rfl
    simp [hg, binOp, Op.equal, Op.maxDepth, he]

def nilConst (P : Program) (isF : Bool) (t : TypeId) (y : Operand) : Bool :=
  match isF, P.underlying t, y with
  | false, some (.pointer _), .const (.pointer none) => true
  | true, some (.func _ _ _), .const .nilFunc => true
  | _, _, _ => false

theorem run_eqNil_ptr {P : Program} {w : World} {t el : TypeId} (hu : P.underlying t = some (.pointer el)) (q : Option Addr) (neg : Bool) : (binOp (if neg then .neq else .eql) t (.pointer q) (.pointer none)).run P w = .ok (.bool (q.isNone != neg)) w := by
  have e : (Op.equal t (.pointer q) (.pointer none)).run P w = .ok q.isNone w := by
    unfold Op.equal Op.maxDepth Op.equalIn
    cases q <;> simp [run_underlying hu]
  have e1 : binOp .eql t (.pointer q) (.pointer none) = (do pure (.bool (← Op.equal t (.pointer q) (.pointer none)))) := by cases q <;> rfl
  have e2 : binOp .neq t (.pointer q) (.pointer none) = (do pure (.bool (!(← Op.equal t (.pointer q) (.pointer none))))) := by cases q <;> rfl
  cases neg
  · simp only [Bool.false_eq_true, if_false, e1, Sem.run_bind, e, Result.andThen_ok, Sem.run_pure, Bool.bne_false]
  · simp only [if_true, e2, Sem.run_bind, e, Result.andThen_ok, Sem.run_pure, Bool.bne_true]

theorem run_eqNil_fn {P : Program} {w : World} {t : TypeId} {ps rs : Array TypeId} {vr : Bool} (hu : P.underlying t = some (.func ps rs vr)) (x : Value) (b neg : Bool) (hx : (∃ f, ∃ p q : Array Value, x = .func f p q ∧ b = false) ∨ (x = .nilFunc ∧ b = true)) :
    (binOp (if neg then .neq else .eql) t x .nilFunc).run P w = .ok (.bool (b != neg)) w := by
  have e : (Op.equal t x .nilFunc).run P w = .ok b w := by
    unfold Op.equal Op.maxDepth Op.equalIn
    rcases hx with ⟨f, p, q, rfl, rfl⟩ | ⟨rfl, rfl⟩ <;> simp [run_underlying hu]
  have e1 : binOp .eql t x .nilFunc = (do pure (.bool (← Op.equal t x .nilFunc))) := by rcases hx with ⟨f, p, q, rfl, rfl⟩ | ⟨rfl, rfl⟩ <;> rfl
  have e2 : binOp .neq t x .nilFunc = (do pure (.bool (!(← Op.equal t x .nilFunc)))) := by rcases hx with ⟨f, p, q, rfl, rfl⟩ | ⟨rfl, rfl⟩ <;> rfl
  cases neg
  · simp only [Bool.false_eq_true, if_false, e1, Sem.run_bind, e, Result.andThen_ok, Sem.run_pure, Bool.bne_false]
  · simp only [if_true, e2, Sem.run_bind, e, Result.andThen_ok, Sem.run_pure, Bool.bne_true]

theorem ok_isn (hr : HRel c h) (hl : h.length ≤ c.N) {neg isF : Bool} {t u : TypeId} {x y : Operand} (ho : o.op = .binOp (if neg then .neq else .eql) t x y u) (ht : nilConst P isF t y = true) {p : AV} {b : Bool}
    (hx : VRel c p (a.eval x)) (hb : isNil? isF p = some b) : OpRes P o a c h h wp (.d (.bool (b != neg))) := by
  have fin : ∀ (xv yv : Value), a.eval x = xv → a.eval y = yv → (eqGuard (if neg then .neq else .eql) t x y xv yv).run P c.w = .ok () c.w → (binOp (if neg then .neq else .eql) t xv yv).run P c.w = .ok (.bool (b != neg)) c.w → OpRes P o a c h h wp (.d (.bool (b != neg))) := by
    intro xv yv e1 e2 e3 e4
    refine .pure hr hl (v := .bool (b != neg)) ?_ (.d (.bool _))
    rw [exec_binOp ho, e1, e2]
    simp only [Sem.run_bind, e3, e4, Result.andThen_ok, Sem.run_pure]
  unfold nilConst at ht
  split at ht
  · rename_i el hu
    have hg : ∀ q, (eqGuard (if neg then .neq else .eql) t x (.const (.pointer none)) (.pointer q) (.pointer none)).run P c.w = .ok () c.w := by intro q; unfold eqGuard; cases neg <;> rfl
    cases p <;> simp only [isNil?, reduceCtorEq, Option.some.injEq] at hb
    case ptr l off =>
      obtain ⟨blk, hxe, _⟩ := hx.inv_ptr
      subst hb
      exact fin _ (.pointer none) hxe rfl (hg _) (by simpa using run_eqNil_ptr (w := c.w) hu (some ⟨blk, off, none⟩) neg)
    case iptr cells =>
      obtain ⟨blk, off, vals, hxe, _⟩ := hx.inv_iptr
      subst hb
      exact fin _ (.pointer none) hxe rfl (hg _) (by simpa using run_eqNil_ptr (w := c.w) hu (some ⟨blk, off, none⟩) neg)
    case nilp =>
      subst hb
      exact fin _ (.pointer none) hx.inv_nilp rfl (hg _) (by simpa using run_eqNil_ptr (w := c.w) hu none neg)
  · rename_i q1 q2 q3 hu
    cases p <;> simp only [isNil?, reduceCtorEq, Option.some.injEq] at hb
    case fn f caps =>
      obtain ⟨arr, hxe, _⟩ := hx.inv_fn
      subst hb
      exact fin _ _ hxe rfl (by unfold eqGuard; cases neg <;> rfl) (run_eqNil_fn hu _ false neg (.inl ⟨_, _, _, rfl, rfl⟩))
    case nilf =>
      subst hb
      exact fin _ _ hx.inv_nilf rfl (by unfold eqGuard; cases neg <;> rfl) (run_eqNil_fn hu _ true neg (.inr ⟨rfl, rfl⟩))
  · cases ht

theorem ok_not (hr : HRel c h) (hl : h.length ≤ c.N) {t : TypeId} {x : Operand} (ho : o.op = .unOp .not t x) {b : Bool} (hx : VRel c (.d (.bool b)) (a.eval x)) : OpRes P o a c h h wp (.d (.bool (!b))) := by
  refine .pure hr hl (v := .bool (!b)) ?_ (.d (.bool _))
  rw [exec_unOp ho, hx.inv_bool]
  simp [Op.unary]

theorem ok_conv (hr : HRel c h) (hl : h.length ≤ c.N) {s t : TypeId} {x : Operand} (ho : o.op = .convert s t x) {k' k : IntKind} (hs : P.underlying s = some (.int k')) (ht : P.underlying t = some (.int k)) {q : IntKind} {n : Int} (hx : VRel c (.d (.int q n)) (a.eval x)) :
    OpRes P o a c h h wp (.d (.int k (k.wrap n))) := by
  refine .pure hr hl (v := .int k (k.wrap n)) ?_ (.d (.int _ _))
  rw [exec_convert ho, hx.inv_int]
  simp [convert, run_underlying hs, run_underlying ht, Conv.intToInt]

theorem ok_mkf (hr : HRel c h) (hl : h.length ≤ c.N) {f : Nat} {caps : Array Operand} (ho : o.op = .makeFunc (.func f) #[] caps) {vs : List AV} (hz : caps.size = vs.length)
    (hv : ∀ (j : Nat) x v, vs[j]? = some x → (caps.map a.eval)[j]? = some v → VRel c x v) : OpRes P o a c h h wp (.fn f vs) := by
  refine .pure hr hl (v := .func (.func f) #[] (caps.map a.eval)) ?_ (.fn (by simpa using hz) hv)
  rw [exec_makeFunc ho]
  simp [Instr.makeFunc]

theorem ok_ext (hr : HRel c h) (hl : h.length ≤ c.N) {x : Operand} {i : Nat} (ho : o.op = .extract x i) {vs : List AV} (hx : VRel c (.tup vs) (a.eval x)) {v : AV} (hv : vs[i]? = some v) : OpRes P o a c h h wp v := by
  obtain ⟨arr, hxe, hz, hrel⟩ := hx.inv_tup
  have hlt : i < arr.size := by rw [hz]; exact (List.getElem?_eq_some_iff.1 hv).1
  have ha : arr[i]? = some arr[i] := Array.getElem?_eq_getElem hlt
  refine .pure hr hl (v := arr[i]) ?_ (hrel _ v _ hv ha)
  rw [exec_extract ho, hxe]
  simp [Instr.extract, ha]

theorem ok_nilc (hr : HRel c h) (hl : h.length ≤ c.N) {x : Operand} (ho : o.op = .nilCheck x) {v : AV} (hx : VRel c v (a.eval x)) (hv : match v with | .ptr _ _ | .iptr _ | .fn _ _ | .yld _ => True | _ => False) : OpRes P o a c h h wp v := by
  refine .pure hr hl (v := a.eval x) ?_ hx
  unfold execOp; rw [ho]
  cases v <;> simp only at hv
  case ptr => obtain ⟨b, hxe, _⟩ := hx.inv_ptr; simp [hxe]
  case iptr => obtain ⟨b, o', vals, hxe, _⟩ := hx.inv_iptr; simp [hxe]
  case fn => obtain ⟨arr, hxe, _⟩ := hx.inv_fn; simp [hxe]
  case yld => obtain ⟨hxe, _⟩ := hx.inv_yld; simp [hxe]

/-! ### bounds of slices -/
theorem run_bounds {P : Program} {w : World} {isSlice : Bool} {len cap : Nat} {lo hi : Option Value} {l h : Nat} (hlo : (lo = none ∧ l = 0) ∨ ∃ k, lo = some (.int k l)) (hhi : (hi = none ∧ h = len) ∨ ∃ k, hi = some (.int k h))
    (h1 : l ≤ h) (h2 : h ≤ cap) : (Instr.sliceBounds isSlice len cap lo hi none).run P w = .ok (l, h, cap) w := by
  have hl1 : (l : Int) ≤ (h : Int) := by omega
  have hl2 : (h : Int) ≤ (cap : Int) := by omega
  rcases hlo with ⟨rfl, rfl⟩ | ⟨k, rfl⟩ <;> rcases hhi with ⟨rfl, rfl⟩ | ⟨k', rfl⟩ <;> simp [Instr.sliceBounds, run_sliceBound, *]

theorem take_drop_at2 {rows : List (List Dat)} {lo hi i j : Nat} {x : Dat} (h : at2 ((rows.take hi).drop lo) i j = some x) : lo + i < hi ∧ at2 rows (lo + i) j = some x := by
  unfold at2 at *
  rw [List.getElem?_drop, List.getElem?_take] at h
  by_cases hlt : lo + i < hi
  · rw [if_pos hlt] at h; exact ⟨hlt, h⟩
  · rw [if_neg hlt] at h; simp at h

theorem rowsOk_spec {e : Nat} {rows : List (List Dat)} (h : rowsOk e rows = true) : ∀ row ∈ rows, row.length = e := by
  intro row hrow
  unfold rowsOk at h
  rw [List.all_eq_true] at h
  simpa using h row hrow

theorem ok_sls_rows (hr : HRel c h) (hl : h.length ≤ c.N) {t el : TypeId} {x : Operand} {lo hi : Option Operand} (ho : o.op = .slice t x lo hi none) (ht : P.underlying t = some (.slice el)) {e : Nat} (he : sz P el = some e)
    {rows : List (List Dat)} (hx : DRel c.S c.w (.sl rows) (a.eval x)) (hok : rowsOk e rows = true) {l r : Nat} (hlo : (lo.map a.eval = none ∧ l = 0) ∨ ∃ k, lo.map a.eval = some (.int k l)) (hhi : (hi.map a.eval = none ∧ r = rows.length) ∨ ∃ k, hi.map a.eval = some (.int k r))
    (h1 : l ≤ r) (h2 : r ≤ rows.length) : OpRes P o a c h h wp (.d (.sl ((rows.take r).drop l))) := by
  have hlen : ((rows.take r).drop l).length = r - l := by simp; omega
  rcases hx.inv_sl with ⟨rfl, base, cap, hxe⟩ | ⟨b, off, e', cap, vals, hxe, hall, hcap, hs, hrr⟩
  · simp at h2; subst h2
    have : l = 0 := by omega
    subst this
    refine .pure hr hl (v := .slice (if cap = 0 then base else base.map (·.add (0 * e))) (0 - 0) (cap - 0)) ?_ (.d (by simpa using DRel.nil _ _))
    rw [exec_slice ho, hxe]
    have hb := run_bounds (P := P) (w := c.w) (isSlice := true) (len := 0) (cap := cap) hlo hhi (Nat.le_refl _) (Nat.zero_le _)
    simp [Instr.sliceAt, run_underlying ht, Instr.slice, hb, run_sizeOf _ he]
  · have hb := run_bounds (P := P) (w := c.w) (isSlice := true) (len := rows.length) (cap := cap) hlo hhi h1 (by omega)
    refine .pure hr hl (v := .slice (if cap = l then some ⟨b, off, none⟩ else some ⟨b, off + l * e, none⟩) (r - l) (cap - l)) ?_ (.d ?_)
    · rw [exec_slice ho, hxe]
      simp only [Instr.sliceAt, Instr.slice, Sem.run_bind, run_underlying ht, Result.andThen_ok, Option.map_none, hb, run_sizeOf _ he, Sem.run_pure, Option.map_some, add_plain]
    · by_cases hlr : l = r
      · subst hlr
        have : (rows.take l).drop l = [] := List.length_eq_zero_iff.1 (by omega)
        rw [this, Nat.sub_self]; exact .nil _ _
      · rw [if_neg (by omega), ← hlen]
        have hee : e' = e := by
          have hne : 0 < rows.length := by omega
          rw [← rowsOk_spec hok rows[0] (List.getElem_mem _), hall rows[0] (List.getElem_mem _)]
        subst hee
        refine .sl _ b (off + l * e') e' (cap - l) (fun i j => vals (l + i) j) (fun row hrow => hall row (List.mem_of_mem_take (List.mem_of_mem_drop hrow))) (by omega) (fun i j x hx => ?_) fun i j x hx => ?_
        · obtain ⟨_, h4⟩ := take_drop_at2 hx
          have := hs _ _ _ h4
          rw [Nat.add_mul] at this
          have e2 : off + l * e' + i * e' + j = off + (l * e' + i * e') + j := by omega
          rw [e2]; exact this
        · exact hrr _ _ _ (take_drop_at2 hx).2

theorem ok_sls_nils (hr : HRel c h) (hl : h.length ≤ c.N) {t el : TypeId} {x : Operand} {lo hi : Option Operand} (ho : o.op = .slice t x lo hi none) (ht : P.underlying t = some (.slice el)) {e : Nat} (he : sz P el = some e)
    (hx : VRel c .nils (a.eval x)) (hlo : (lo.map a.eval = none) ∨ ∃ k, lo.map a.eval = some (.int k 0)) (hhi : (hi.map a.eval = none) ∨ ∃ k, hi.map a.eval = some (.int k 0)) : OpRes P o a c h h wp .nils := by
  obtain ⟨base, hxe⟩ := hx.inv_nils
  have hb := run_bounds (P := P) (w := c.w) (isSlice := true) (len := 0) (cap := 0) (l := 0) (h := 0) (lo := lo.map a.eval) (hi := hi.map a.eval) (hlo.imp (fun h => ⟨h, rfl⟩) id) (hhi.imp (fun h => ⟨h, rfl⟩) id) (Nat.le_refl _) (Nat.le_refl _)
  refine .pure hr hl (v := .slice base 0 0) ?_ .nils
  rw [exec_slice ho, hxe]
  simp [Instr.sliceAt, run_underlying ht, Instr.slice, hb, run_sizeOf _ he]

theorem ok_sls_slr (hr : HRel c h) (hl : h.length ≤ c.N) {t el : TypeId} {x : Operand} {lo hi : Option Operand} (ho : o.op = .slice t x lo hi none) (ht : P.underlying t = some (.slice el)) {e : Nat} (he : sz P el = some e)
    {l0 off n m : Nat} (hx : VRel c (.slr l0 off n e m) (a.eval x)) {l r : Nat} (hlo : (lo.map a.eval = none ∧ l = 0) ∨ ∃ k, lo.map a.eval = some (.int k l)) (hhi : (hi.map a.eval = none ∧ r = n) ∨ ∃ k, hi.map a.eval = some (.int k r))
    (h1 : l ≤ r) (h2 : r ≤ n) : OpRes P o a c h h wp (if l = r then .d (.sl []) else .slr l0 (off + l * e) (r - l) e (r - l)) := by
  obtain ⟨b, cap, hxe, h3, hb, hc, _⟩ := hx.inv_slr
  have hbd := run_bounds (P := P) (w := c.w) (isSlice := true) (len := n) (cap := cap) hlo hhi h1 (by omega)
  refine .pure hr hl (v := .slice (if cap = l then some ⟨b, off, none⟩ else some ⟨b, off + l * e, none⟩) (r - l) (cap - l)) ?_ ?_
  · rw [exec_slice ho, hxe]
    simp only [Instr.sliceAt, Instr.slice, Sem.run_bind, run_underlying ht, Result.andThen_ok, Option.map_none, hbd, run_sizeOf _ he, Sem.run_pure, Option.map_some, add_plain]
  · by_cases hlr : l = r
    · subst hlr; rw [if_pos rfl, Nat.sub_self]; exact .d (.nil _ _)
    · rw [if_neg hlr, if_neg (by omega)]; exact .slr h3 hb (Nat.le_refl _) (by omega)

theorem ok_sla (hr : HRel c h) (hl : h.length ≤ c.N) {t el : TypeId} {x : Operand} {lo hi : Option Operand} {n : Nat} (ho : o.op = .slice t x lo hi none) (ht : P.underlying t = some (.array n el)) {e : Nat} (he : sz P el = some e)
    {l0 off : Nat} (hx : VRel c (.ptr l0 off) (a.eval x)) {l r : Nat} (hlo : (lo.map a.eval = none ∧ l = 0) ∨ ∃ k, lo.map a.eval = some (.int k l)) (hhi : (hi.map a.eval = none ∧ r = n) ∨ ∃ k, hi.map a.eval = some (.int k r))
    (h1 : l ≤ r) (h2 : r ≤ n) : OpRes P o a c h h wp (if l = r then .d (.sl []) else .slr l0 (off + l * e) (r - l) e (r - l)) := by
  obtain ⟨b, hxe, h3, hb⟩ := hx.inv_ptr
  have hbd := run_bounds (P := P) (w := c.w) (isSlice := false) (len := n) (cap := n) hlo hhi h1 (by omega)
  refine .pure hr hl (v := .slice (if n = l then some ⟨b, off, none⟩ else some ⟨b, off + l * e, none⟩) (r - l) (n - l)) ?_ ?_
  · rw [exec_slice ho, hxe]
    simp only [Instr.sliceAt, Sem.run_bind, run_underlying ht, Result.andThen_ok, Instr.sureAddr, Option.map_none, hbd, run_sizeOf _ he, Sem.run_pure, add_plain]
    congr 2
    split <;> rfl
  · by_cases hlr : l = r
    · subst hlr; rw [if_pos rfl, Nat.sub_self]; exact .d (.nil _ _)
    · rw [if_neg hlr, if_neg (by omega)]; exact .slr h3 hb (Nat.le_refl _) (by omega)

theorem ok_sl0 (hr : HRel c h) (hl : h.length ≤ c.N) {t el : TypeId} {x : Operand} {lo hi mx : Option Operand} (ho : o.op = .slice t x lo hi mx) (ht : P.underlying t = some (.slice el)) {e : Nat} (he : sz P el = some e)
    {base : Option Addr} {n cap : Nat} (hx : a.eval x = .slice base n cap) (hlo : lo.map a.eval = none ∨ lo.map a.eval = some (.int .i64 0)) (hhi : hi.map a.eval = some (.int .i64 0)) (hmx : mx.map a.eval = some (.int .i64 0)) : OpRes P o a c h h wp .nils := by
  refine .pure hr hl (v := .slice base 0 0) ?_ .nils
  rw [exec_slice ho, hx]
  rcases hlo with hlo | hlo <;> simp [Instr.sliceAt, run_underlying ht, Instr.slice, Instr.sliceBounds, run_sliceBound, hlo, hhi, hmx, run_sizeOf _ he]

theorem ok_len_str (hr : HRel c h) (hl : h.length ≤ c.N) {x : Operand} {t : TypeId} (ho : o.op = .call { callee := .builtin .len, args := #[x], argTypes := #[t] }) (ht : P.underlying t = some .string) {s : List UInt8} (hx : VRel c (.d (.str s)) (a.eval x)) :
    OpRes P o a c h h wp (.d (.int .i64 s.length)) := by
  obtain ⟨b, hxe, hs⟩ := hx.inv_str
  have hn : (b.size : Int) = s.length := by rw [← hs]; simp
  refine .pure hr hl (v := .int .i64 b.size) ?_ (by rw [hn]; exact .d (.int _ _))
  rw [exec_call ho]
  simp [resolve, invoke, builtin, Builtin.len_, run_underlying ht, hxe, goInt]

theorem ok_len_sl (hr : HRel c h) (hl : h.length ≤ c.N) {x : Operand} {t el : TypeId} (ho : o.op = .call { callee := .builtin .len, args := #[x], argTypes := #[t] }) (ht : P.underlying t = some (.slice el)) {base : Option Addr} {n cap : Nat} (hx : a.eval x = .slice base n cap) :
    OpRes P o a c h h wp (.d (.int .i64 n)) := by
  refine .pure hr hl (v := .int .i64 n) ?_ (.d (.int _ _))
  rw [exec_call ho]
  simp [resolve, invoke, builtin, Builtin.len_, run_underlying ht, hx, goInt]

theorem ok_mnx (hr : HRel c h) (hl : h.length ≤ c.N) {x y : Operand} {ts : Array TypeId} {mx : Bool} (ho : o.op = .call { callee := .builtin (if mx then .max else .min), args := #[x, y], argTypes := ts }) {k k' : IntKind} {p q : Int}
    (hx : VRel c (.d (.int k p)) (a.eval x)) (hy : VRel c (.d (.int k' q)) (a.eval y)) : OpRes P o a c h h wp (.d (.int k (if mx then (if q > p then q else p) else (if q < p then q else p)))) := by
  refine .pure hr hl (v := .int k (if mx then (if q > p then q else p) else (if q < p then q else p))) ?_ (.d (.int _ _))
  rw [exec_call ho]
  cases mx <;> simp [resolve, invoke, builtin, Builtin.max_, Builtin.min_, Builtin.max2, Builtin.min2, hx.inv_int, hy.inv_int]
end ops
end Go.Proofs.YtfifgiopdbdeoaaDoor.Lite
namespace Go.Proofs.YtfifgiopdbdeoaaDoor.Lite
open Go Go.RowKit

/-! ### Parts laid into cells -/
theorem foldl_set_get : ∀ (l : List Value) (k off : Nat) (cs : Array Value), off + k + l.length ≤ cs.size → ∀ j,
    ((l.zipIdx k).foldl (fun cs (x : Value × Nat) => cs.setIfInBounds (off + x.2) x.1) cs)[j]? = if j < off + k then cs[j]? else if j < off + k + l.length then l[j - (off + k)]? else cs[j]?
  | [], k, off, cs, _, j => by
    simp only [List.zipIdx_nil, List.foldl_nil, List.length_nil, Nat.add_zero]
    split
    · rfl
    · rfl
  | v :: l, k, off, cs, h, j => by
    simp only [List.zipIdx_cons, List.foldl_cons]
    simp only [List.length_cons] at h
    rw [foldl_set_get l (k + 1) off (cs.setIfInBounds (off + k) v) (by simp; omega) j]
    by_cases h1 : j < off + k
    · rw [if_pos (by omega), if_pos h1, Array.getElem?_setIfInBounds]
      rw [if_neg (by omega)]
    · by_cases h2 : j = off + k
      · subst h2
        rw [if_pos (by omega), if_neg h1, if_pos (by simp), Array.getElem?_setIfInBounds, if_pos rfl, if_pos (by omega)]
        simp
      · rw [if_neg (by omega), if_neg h1]
        by_cases h3 : j < off + k + (l.length + 1)
        · rw [if_pos (by omega), if_pos (by simpa using h3)]
          have : j - (off + k) = (j - (off + (k + 1))) + 1 := by omega
          rw [this, List.getElem?_cons_succ]
        · rw [if_neg (by omega), if_neg (by simpa using h3), Array.getElem?_setIfInBounds, if_neg (by omega)]

theorem foldl_set_size : ∀ (l : List (Value × Nat)) (off : Nat) (cs : Array Value), (l.foldl (fun cs (x : Value × Nat) => cs.setIfInBounds (off + x.2) x.1) cs).size = cs.size
  | [], _, _ => rfl
  | _ :: l, off, cs => by rw [List.foldl_cons, foldl_set_size l off]; simp

section parts
variable {c : Cx} {env : Env} {a : Act}

def chkParts (place : Nat → Option (Nat × Nat)) : List (Nat × Operand) → List (Nat × Nat × X) → Bool
  | [], [] => true
  | (i, x) :: r, (off, size, y) :: s => place i == some (off, size) && chkX x y && chkParts place r s
  | _, _ => false

theorem fill_sound {place : Nat → Option (Nat × Nat)} (he : EnvRel c env a.tmps) : ∀ {ps : List (Nat × Operand)} {qs : List (Nat × Nat × X)}, chkParts place ps qs = true → ∀ {cells : List AV} {arr : Array Value}, arr.size = cells.length →
    (∀ (j : Nat) x v, cells[j]? = some x → arr[j]? = some v → VRel c x v) → ∀ {out : List AV}, fillA env cells qs = some out →
    ∃ arr', Instr.fill place arr (ps.map fun p => (p.1, a.eval p.2)) = some arr' ∧ arr'.size = out.length ∧ ∀ (j : Nat) x v, out[j]? = some x → arr'[j]? = some v → VRel c x v
  | [], [], _, cells, arr, hz, hrel, out, ho => by
    simp only [fillA, Option.some.injEq] at ho; subst ho
    exact ⟨arr, rfl, hz, hrel⟩
  | (i, x) :: r, (off, size, y) :: s, hc, cells, arr, hz, hrel, out, ho => by
    simp only [chkParts, Bool.and_eq_true, beq_iff_eq] at hc
    obtain ⟨⟨h1, h2⟩, h3⟩ := hc
    simp only [fillA] at ho
    split at ho
    · rename_i v hv
      split at ho
      · rename_i hcond
        have hvr := chkX_sound h2 he hv
        obtain ⟨hl, hr⟩ := cells_rel hvr
        have hlay : off + v.cellsOf.length ≤ cells.length := by omega
        have key := fill_sound (place := place) he h3 (cells := lay cells off v.cellsOf)
          (arr := (a.eval x).cells.toList.zipIdx.foldl (fun cs (x : Value × Nat) => cs.setIfInBounds (off + x.2) x.1) arr)
          (by rw [foldl_set_size, lay_length hlay]; exact hz) (fun j z w hz' hw => by
            rw [lay_get hlay] at hz'
            have := foldl_set_get (a.eval x).cells.toList 0 off arr (by simp; omega) j
            rw [this] at hw
            simp only [Nat.add_zero, Array.length_toList, hl] at hw
            by_cases e1 : j < off
            · rw [if_pos e1] at hz' hw; exact hrel j z w hz' hw
            · rw [if_neg e1] at hz' hw
              by_cases e2 : j < off + v.cellsOf.length
              · rw [if_pos e2] at hz' hw; exact hr _ z w hz' (by simpa using hw)
              · rw [if_neg e2] at hz' hw; exact hrel j z w hz' hw) ho
        obtain ⟨arr', k1, k2, k3⟩ := key
        refine ⟨arr', ?_, k2, k3⟩
        simp only [List.map_cons, Instr.fill, h1]
        rw [if_neg (by simp; omega)]
        rw [← Array.foldl_toList, Array.toList_zipIdx]
        exact k1
      · cases ho
    · cases ho
  | [], _ :: _, hc, _, _, _, _, _, _ => by simp [chkParts] at hc
  | _ :: _, [], hc, _, _, _, _, _, _ => by simp [chkParts] at hc
end parts

section ops
variable {P : Program} {o : Oper} {a : Act} {c : Cx} {h : Heap} {wp : Nat} {env : Env}

/-- the places of an aggregate's parts -/
def placeOf (P : Program) (t : TypeId) : Nat → Option (Nat × Nat) := fun i =>
  match P.underlying t with
  | some (.array _ e) => (P.info? e).map fun ie => (i * ie.size, ie.size)
  | some (.struct fs) => match fs[i]? with
    | some f => (P.info? f.type).map fun k => (f.offset, k.size)
    | none => none
  | _ => none

def chkBld (P : Program) (t : TypeId) (ps : Array (Nat × Operand)) (zero : List AV) (qs : List (Nat × Nat × X)) : Bool :=
  (match P.info? t with | some i => (match i.zero with | some z => chkVs z.cells.toList zero | none => false) | none => false) &&
  (match P.underlying t with | some (.array _ e) => (P.info? e).isSome | some (.struct fs) => fs.toList.all fun f => (P.info? f.type).isSome | _ => false) &&
  chkParts (placeOf P t) ps.toList qs

theorem mapM_some {α β : Type} (f : α → Option β) : ∀ (l : List α), (∀ x ∈ l, (f x).isSome = true) → ∃ r, l.mapM f = some r ∧ r.length = l.length ∧ ∀ (i : Nat) (x : α), l[i]? = some x → r[i]? = f x
  | [], _ => ⟨[], by simp, rfl, fun i x h => by simp at h⟩
  | x :: l, h => by
    obtain ⟨r, hr, hl, hi⟩ := mapM_some f l fun y hy => h y (by simp [hy])
    obtain ⟨y, hy⟩ := Option.isSome_iff_exists.1 (h x (by simp))
    refine ⟨y :: r, by simp [List.mapM_cons, hy, hr], by simp [hl], fun i z hz => ?_⟩
    cases i with
    | zero => simp at hz; subst hz; simp [hy]
    | succ i => simp at hz ⊢; exact hi i z hz

theorem fill_congr {p q : Nat → Option (Nat × Nat)} (hpq : ∀ i, p i = q i) : ∀ (l : List (Nat × Value)) (cs : Array Value), Instr.fill p cs l = Instr.fill q cs l
  | [], cs => rfl
  | (i, v) :: l, cs => by
    simp only [Instr.fill, hpq i]
    cases q i with
    | none => rfl
    | some x => obtain ⟨off, size⟩ := x; simp only; split; · rfl
                exact fill_congr hpq l _

theorem ok_bld (hr : HRel c h) (hl : h.length ≤ c.N) {t : TypeId} {ps : Array (Nat × Operand)} (ho : o.op = .build t ps) {zero : List AV} {qs : List (Nat × Nat × X)} (hc : chkBld P t ps zero qs = true) (he : EnvRel c env a.tmps) {cs : List AV}
    (hf : fillA env zero qs = some cs) : OpRes P o a c h h wp (.agg cs) := by
  unfold chkBld at hc
  simp only [Bool.and_eq_true] at hc
  obtain ⟨⟨h1, h2⟩, h3⟩ := hc
  split at h1
  · rename_i i hi
    split at h1
    · rename_i z hz
      obtain ⟨hlen, hrel⟩ := chkVs_sound h1 c
      obtain ⟨arr', k1, k2, k3⟩ := fill_sound he h3 (cells := zero) (arr := z.cells) (by simpa using hlen) (fun j x v hx hv => hrel j x v hx (by simpa using hv)) hf
      refine .pure hr hl (v := .agg arr') ?_ (.agg k2 k3)
      rw [exec_build ho]
      have hb : P.built t (ps.map fun (i, x) => (i, a.eval x)).toList = some arr' := by
        have e1 : (ps.map fun (i, x) => (i, a.eval x)).toList = ps.toList.map fun p => (p.1, a.eval p.2) := by simp [Array.toList_map]
        rw [e1]
        unfold Program.built
        rw [hi]
        cases hu : P.underlying t with
        | none => rw [hu] at h2; cases h2
        | some d =>
          rw [hu] at h2
          cases d <;> try (cases h2; done)
          case array n e =>
            obtain ⟨ie, hie⟩ := Option.isSome_iff_exists.1 h2
            simp only [hz, hie]
            rw [← k1]
            exact fill_congr (fun i => by simp [placeOf, hu, hie]) _ _
          case struct fs =>
            simp only [hz]
            obtain ⟨r, hr1, hr2, hr3⟩ := mapM_some (fun f : Field => (P.info? f.type).map fun i => (f.offset, i.size)) fs.toList (by
              simp only [List.all_eq_true] at h2
              intro f hf; obtain ⟨y, hy⟩ := Option.isSome_iff_exists.1 (h2 f hf); simp [hy])
            rw [hr1]
            simp only
            rw [← k1]
            refine fill_congr (fun i => ?_) _ _
            simp only [placeOf, hu]
            rw [List.getElem?_toArray]
            cases hfi : fs[i]? with
            | none =>
              have : fs.size ≤ i := by simpa using hfi
              rw [List.getElem?_eq_none (by simp at hr2; omega)]
            | some f => rw [hr3 i f (by simpa using hfi)]
      rw [Sem.run_bind, run_build _ _ _ _ hb]
      rfl
    · cases h1
  · cases h1

/-! ### Aggregates held against each other -/
def plainK (P : Program) (t : TypeId) (k : Nat) : Bool :=
  match P.underlying t with
  | some (.int _) => k == 0
  | some .bool => k == 1
  | some .string => k == 2
  | _ => false

def flatFs (P : Program) : Nat → List Field → List Nat → Bool
  | _, [], [] => true
  | i, f :: fs, k :: ks => f.name != "_" && f.offset == i && plainK P f.type k && flatFs P (i + 1) fs ks
  | _, _, _ => false

def flatAgg (P : Program) (t : TypeId) (ks : List Nat) : Bool :=
  (P.eqGuardType P.depth t == false) &&
  match P.underlying t with
  | some (.struct fs) => !P.stoodInHeld t && flatFs P 0 fs.toList ks
  | some (.array n e) => (P.info? e).isSome && (sz P e == some 1) && ks.length == n && ks.all (plainK P e)
  | _ => false

theorem plain_scal {t : TypeId} {k : Nat} (h : plainK P t k = true) : scalB P t = true := by
  unfold plainK at h; unfold scalB
  split at h <;> first | (rename_i hu; rw [hu]) | cases h

theorem plain_eq (w : World) {t : TypeId} {k d : Nat} (h : plainK P t k = true) {x y : AV} {v u : Value} (hx : VRel c x v) (hy : VRel c y u) {b : Bool} (hb : eqCell k x y = some b) : (Op.equalIn (d + 1) t v u).run P w = .ok b w := by
  unfold plainK at h
  unfold eqCell at hb
  split at hb
  · split at hb
    · rename_i e; subst e; injection hb with hb; subst hb
      rw [hx.inv_int, hy.inv_int]
      split at h <;> first | (rename_i hu; exact run_equalIn_int w d t _ _ _ _ hu) | (simp at h)
    · cases hb
  · injection hb with hb; subst hb
    rw [hx.inv_bool, hy.inv_bool]
    split at h <;> first | (rename_i hu; exact run_equalIn_bool' w d t _ _ hu) | (simp at h)
  · injection hb with hb; subst hb
    obtain ⟨s1, e1, f1⟩ := hx.inv_str
    obtain ⟨s2, e2, f2⟩ := hy.inv_str
    rw [e1, e2]
    split at h <;> first | (rename_i hu; rw [run_equalIn_string w d t _ _ hu, ByteArray.toList_eq, ByteArray.toList_eq, f1, f2]) | (simp at h)
  · cases hb

theorem run_part {w : World} {t : TypeId} (hs : scalB P t = true) {arr : Array Value} {i : Nat} {v : Value} (hv : arr[i]? = some v) : (part t arr i).run P w = .ok v w := by
  simp [part, run_isAgg_false _ hs, hv]

theorem flatFs_eq (w : World) (d : Nat) {xs ys : Array Value} {cx cy : List AV} (hzx : xs.size = cx.length) (hzy : ys.size = cy.length) (hx : ∀ (j : Nat) x v, cx[j]? = some x → xs[j]? = some v → VRel c x v) (hy : ∀ (j : Nat) x v, cy[j]? = some x → ys[j]? = some v → VRel c x v) :
    ∀ (fs : List Field) (ks : List Nat) (i : Nat) (lx ly : List AV) (b : Bool), flatFs P i fs ks = true → cx.drop i = lx → cy.drop i = ly → eqCells ks lx ly = some b → (Op.eqFields (d + 1) xs ys fs).run P w = .ok b w
  | [], [], i, lx, ly, b, _, _, _, hb => by
    cases lx <;> cases ly <;> simp [eqCells] at hb
    subst hb; simp [Op.eqFields]
  | f :: fs, k :: ks, i, lx, ly, b, hf, e1, e2, hb => by
    simp only [flatFs, Bool.and_eq_true, bne_iff_ne, ne_eq, beq_iff_eq] at hf
    obtain ⟨⟨⟨h1, h2⟩, h3⟩, h4⟩ := hf
    cases lx with
    | nil => simp [eqCells] at hb
    | cons x lx =>
      cases ly with
      | nil => simp [eqCells] at hb
      | cons y ly =>
        have gx : cx[i]? = some x := by have := congrArg (·[0]?) e1; simpa using this
        have gy : cy[i]? = some y := by have := congrArg (·[0]?) e2; simpa using this
        have lx' : i < xs.size := by rw [hzx]; exact (List.getElem?_eq_some_iff.1 gx).1
        have ly' : i < ys.size := by rw [hzy]; exact (List.getElem?_eq_some_iff.1 gy).1
        have vx : xs[i]? = some xs[i] := Array.getElem?_eq_getElem lx'
        have vy : ys[i]? = some ys[i] := Array.getElem?_eq_getElem ly'
        simp only [eqCells] at hb
        have hsc := plain_scal h3
        split at hb
        · rename_i hc
          have he := plain_eq (P := P) w (d := d) h3 (hx i x _ gx vx) (hy i y _ gy vy) hc
          have ih := flatFs_eq w d hzx hzy hx hy fs ks (i + 1) lx ly b h4 (by rw [← List.drop_drop, e1]; rfl) (by rw [← List.drop_drop, e2]; rfl) hb
          simp only [Op.eqFields, h1, ne_eq, not_false_eq_true, if_true, Sem.run_bind, h2, run_part hsc vx, run_part hsc vy, he, Result.andThen_ok, Bool.not_true, Bool.false_eq_true, if_false, ih]
        · rename_i hc
          injection hb with hb; subst hb
          have he := plain_eq (P := P) w (d := d) h3 (hx i x _ gx vx) (hy i y _ gy vy) hc
          simp only [Op.eqFields, h1, ne_eq, not_false_eq_true, if_true, Sem.run_bind, h2, run_part hsc vx, run_part hsc vy, he, Result.andThen_ok, Bool.not_false, Sem.run_pure]
        · cases hb
  | [], _ :: _, _, _, _, _, hf, _, _, _ => by simp [flatFs] at hf
  | _ :: _, [], _, _, _, _, hf, _, _, _ => by simp [flatFs] at hf

theorem flatItems_eq (w : World) (d : Nat) {e : TypeId} {xs ys : Array Value} {cx cy : List AV} (hzx : xs.size = cx.length) (hzy : ys.size = cy.length) (hx : ∀ (j : Nat) x v, cx[j]? = some x → xs[j]? = some v → VRel c x v) (hy : ∀ (j : Nat) x v, cy[j]? = some x → ys[j]? = some v → VRel c x v) :
    ∀ (ks : List Nat) (i : Nat) (lx ly : List AV) (b : Bool), ks.all (plainK P e) = true → cx.drop i = lx → cy.drop i = ly → eqCells ks lx ly = some b → (Op.eqItems (d + 1) e 1 xs ys (List.range' i ks.length)).run P w = .ok b w
  | [], i, lx, ly, b, _, _, _, hb => by
    cases lx <;> cases ly <;> simp [eqCells] at hb
    subst hb; simp [Op.eqItems]
  | k :: ks, i, lx, ly, b, hf, e1, e2, hb => by
    simp only [List.all_cons, Bool.and_eq_true] at hf
    obtain ⟨h3, h4⟩ := hf
    cases lx with
    | nil => simp [eqCells] at hb
    | cons x lx =>
      cases ly with
      | nil => simp [eqCells] at hb
      | cons y ly =>
        have gx : cx[i]? = some x := by have := congrArg (·[0]?) e1; simpa using this
        have gy : cy[i]? = some y := by have := congrArg (·[0]?) e2; simpa using this
        have lx' : i < xs.size := by rw [hzx]; exact (List.getElem?_eq_some_iff.1 gx).1
        have ly' : i < ys.size := by rw [hzy]; exact (List.getElem?_eq_some_iff.1 gy).1
        have vx : xs[i]? = some xs[i] := Array.getElem?_eq_getElem lx'
        have vy : ys[i]? = some ys[i] := Array.getElem?_eq_getElem ly'
        simp only [eqCells] at hb
        have hsc := plain_scal h3
        simp only [List.length_cons, List.range'_succ, Op.eqItems, Nat.mul_one]
        split at hb
        · rename_i hc
          have he := plain_eq (P := P) w (d := d) h3 (hx i x _ gx vx) (hy i y _ gy vy) hc
          have ih := flatItems_eq w d hzx hzy hx hy ks (i + 1) lx ly b h4 (by rw [← List.drop_drop, e1]; rfl) (by rw [← List.drop_drop, e2]; rfl) hb
          simp only [Sem.run_bind, run_part hsc vx, run_part hsc vy, he, Result.andThen_ok, Bool.not_true, Bool.false_eq_true, if_false, ih]
        · rename_i hc
          injection hb with hb; subst hb
          have he := plain_eq (P := P) w (d := d) h3 (hx i x _ gx vx) (hy i y _ gy vy) hc
          simp only [Sem.run_bind, run_part hsc vx, run_part hsc vy, he, Result.andThen_ok, Bool.not_false, if_true, Sem.run_pure]
        · cases hb

theorem ok_eqs (hr : HRel c h) (hl : h.length ≤ c.N) {neg : Bool} {t u : TypeId} {x y : Operand} (ho : o.op = .binOp (if neg then .neq else .eql) t x y u) {ks : List Nat} (ht : flatAgg P t ks = true) {xs ys : List AV}
    (hx : VRel c (.agg xs) (a.eval x)) (hy : VRel c (.agg ys) (a.eval y)) {b : Bool} (hb : eqCells ks xs ys = some b) : OpRes P o a c h h wp (.d (.bool (b != neg))) := by
  obtain ⟨ax, hxe, zx, rx⟩ := hx.inv_agg
  obtain ⟨ay, hye, zy, ry⟩ := hy.inv_agg
  unfold flatAgg at ht
  simp only [Bool.and_eq_true, beq_iff_eq] at ht
  obtain ⟨hg, ht⟩ := ht
  have key : (Op.equalIn 10000 t (.agg ax) (.agg ay)).run P c.w = .ok b c.w := by
    split at ht
    · rename_i fs hu
      simp only [Bool.and_eq_true, Bool.not_eq_true'] at ht
      have hfo : P.fieldsOf t = fs := by simp [Program.fieldsOf, hu]
      rw [run_equalIn_struct c.w 9999 t ax ay (by rw [hu, hfo]) ht.1, hfo]
      exact flatFs_eq c.w 9998 zx zy rx ry fs.toList ks 0 xs ys b ht.2 rfl rfl hb
    · rename_i n e hu
      simp only [Bool.and_eq_true, beq_iff_eq] at ht
      obtain ⟨⟨⟨h1, h2⟩, h3⟩, h4⟩ := ht
      obtain ⟨i, hi⟩ := Option.isSome_iff_exists.1 h1
      have hc : P.cellsOf e = 1 := by unfold sz at h2; unfold Program.cellsOf; rw [h2]; rfl
      rw [run_equalIn_array c.w 9999 ax ay hu hi, hc, List.range_eq_range', ← h3]
      exact flatItems_eq c.w 9998 zx zy rx ry ks 0 xs ys b h4 rfl rfl hb
    · cases ht
  refine .pure hr hl (v := .bool (b != neg)) ?_ (.d (.bool _))
  rw [exec_binOp ho, hxe, hye]
  cases neg
  · have e0 := run_eqGuard_agg (P := P) c.w .eql t x y ax ay hg
    have e1 := run_eql_struct (P := P) c.w t ax ay
    simp only [Bool.false_eq_true, if_false, Sem.run_bind, e0, e1, key, Result.andThen_ok, Sem.run_pure, Bool.bne_false]
  · have e0 := run_eqGuard_agg (P := P) c.w .neq t x y ax ay hg
    have e1 := run_neq_struct (P := P) c.w t ax ay
    simp only [if_true, Sem.run_bind, e0, e1, key, Result.andThen_ok, Sem.run_pure, Bool.bne_true]
end ops
end Go.Proofs.YtfifgiopdbdeoaaDoor.Lite
namespace Go.Proofs.YtfifgiopdbdeoaaDoor.Lite
open Go Go.RowKit

theorem dats_get : ∀ {cs : List AV} {ds : List Dat}, dats? cs = some ds → cs.length = ds.length ∧ ∀ (j : Nat) d, ds[j]? = some d → ∃ x, cs[j]? = some x ∧ x.dat? = some d
  | [], ds, h => by simp only [dats?, Option.some.injEq] at h; subst h; exact ⟨rfl, fun j d hd => by simp at hd⟩
  | x :: xs, ds, h => by
    simp only [dats?] at h
    split at h
    · rename_i d ds' h1 h2
      injection h with h; subst h
      obtain ⟨h3, h4⟩ := dats_get h2
      refine ⟨by simp [h3], fun j d' hd => ?_⟩
      cases j with
      | zero => simp at hd; subst hd; exact ⟨x, rfl, h1⟩
      | succ j => simp at hd ⊢; exact h4 j d' hd
    · cases h

theorem dat_rel {c : Cx} {x : AV} {d : Dat} {v : Value} (h : x.dat? = some d) (hv : VRel c x v) : DRel c.S c.w d v := by
  cases x <;> simp only [AV.dat?, Option.some.injEq, reduceCtorEq] at h
  case d y => subst h; cases hv with | d h => exact h
  case nils => subst h; obtain ⟨b, rfl⟩ := hv.inv_nils; exact .nil _ _
  case ws rows t => subst h; exact hv.inv_ws.1

theorem chunk_length (e : Nat) : ∀ (n : Nat) (l : List Dat), (chunk e n l).length = n
  | 0, _ => rfl
  | n + 1, l => by simp [chunk, chunk_length e n]

theorem chunk_get (e : Nat) : ∀ (n : Nat) (l : List Dat) (i : Nat), i < n → (chunk e n l)[i]? = some ((l.drop (i * e)).take e)
  | 0, _, _, h => by omega
  | n + 1, l, 0, _ => by simp [chunk]
  | n + 1, l, i + 1, h => by
    simp only [chunk, List.getElem?_cons_succ]
    rw [chunk_get e n (l.drop e) i (by omega), List.drop_drop]
    congr 3; rw [Nat.add_mul]; omega

theorem chunk_at2 {e n : Nat} {l : List Dat} {i j : Nat} {x : Dat} (h : at2 (chunk e n l) i j = some x) : i < n ∧ j < e ∧ l[i * e + j]? = some x := by
  unfold at2 at h
  by_cases hi : i < n
  · rw [chunk_get e n l i hi] at h
    simp only [Option.bind_some, List.getElem?_take, List.getElem?_drop] at h
    split at h
    · rename_i hj; exact ⟨hi, hj, h⟩
    · cases h
  · rw [List.getElem?_eq_none (by rw [chunk_length]; omega)] at h; cases h

theorem chunk_rows {e n : Nat} {l : List Dat} (hl : l.length = n * e) : ∀ row ∈ chunk e n l, row.length = e := by
  intro row hrow
  obtain ⟨i, hi, rfl⟩ := List.mem_iff_getElem.1 hrow
  rw [chunk_length] at hi
  have := chunk_get e n l i hi
  rw [List.getElem?_eq_getElem (by rw [chunk_length]; omega)] at this
  injection this with this
  rw [this]
  have h1 : i * e + e ≤ n * e := by have := Nat.mul_le_mul_right e (show i + 1 ≤ n by omega); rw [Nat.add_mul] at this; omega
  simp; omega

section ops
variable {P : Program} {o : Oper} {a : Act} {c : Cx} {h : Heap} {wp : Nat} {env : Env}

def chkBls (P : Program) (t : TypeId) (n : Nat) (ps : Array (Nat × Operand)) (zero : List AV) (n' e : Nat) (qs : List (Nat × Nat × X)) : Bool :=
  (match P.underlying t with
   | some (.slice el) => sz P el == some e &&
     (match P.info? el with
      | some i => (match i.zero with
        | some z => decide (zero.length = n * e) && (List.range (n * e)).all fun j => match zero[j]? with | some x => chkV (z.cells[j % z.cells.size]!) x | none => false
        | none => false)
      | none => false)
   | _ => false) && n == n' && decide (n * e ≤ 2 ^ 24) && chkParts (fun i => some (i * e, e)) ps.toList qs

theorem ok_bls (hr : HRel c h) (hl : h.length ≤ c.N) {t : TypeId} {n n' e : Nat} {ps : Array (Nat × Operand)} (ho : o.op = .buildSlice t n ps) {zero : List AV} {qs : List (Nat × Nat × X)} (hc : chkBls P t n ps zero n' e qs = true) (he : EnvRel c env a.tmps) {cs : List AV}
    (hf : fillA env zero qs = some cs) {ds : List Dat} (hd : dats? cs = some ds) (hn : ds.length = n' * e) {id : Nat} (hwp : wp ≤ id) (hid : getO h id = none) (hN : id < c.N → c.ρ id = .no) :
    OpRes P o a c h (putO h id (.tok e n')) wp (.ws (chunk e n' ds) id) := by
  unfold chkBls at hc
  simp only [Bool.and_eq_true, beq_iff_eq, decide_eq_true_eq] at hc
  obtain ⟨⟨⟨h1, rfl⟩, h3⟩, h4⟩ := hc
  split at h1
  · rename_i el hu
    simp only [Bool.and_eq_true, beq_iff_eq] at h1
    obtain ⟨hsz, h1⟩ := h1
    split at h1
    · rename_i ti hi
      split at h1
      · rename_i z hz
        simp only [Bool.and_eq_true, decide_eq_true_eq, List.all_eq_true, List.mem_range] at h1
        obtain ⟨hzl, hzr⟩ := h1
        -- the zero cells
        obtain ⟨zc, hzc⟩ : ∃ zc : Array Value, zc = if n * e = 0 then #[] else z.cells := ⟨_, rfl⟩
        obtain ⟨arr', k1, k2, k3⟩ := fill_sound he h4 (cells := zero) (arr := (Array.range (n * e)).map (zc[· % zc.size]!)) (by simp [hzl]) (fun j x v hx hv => by
          have hj : j < n * e := by rw [← hzl]; exact (List.getElem?_eq_some_iff.1 hx).1
          have hne : ¬ n * e = 0 := by omega
          have hzz := hzr j hj
          rw [hx] at hzz
          simp only at hzz
          rw [Array.getElem?_map, Array.getElem?_eq_getElem (by simpa using hj)] at hv
          simp only [Option.map_some, Array.getElem_range, Option.some.injEq] at hv
          rw [← hv, hzc, if_neg hne]
          exact chkV_sound hzz c) hf
        obtain ⟨g1, g2⟩ := dats_get hd
        have hasz : arr'.size = n * e := by rw [k2, g1, hn]
        have hp : Pushed c.w (c.w.alloc (.cells arr' el (0, 0))) (.cells arr' el (0, 0)) := .alloc _ _
        have hh := hr.tok_new (wp := wp) hwp (fun hl _ => hN hl) (e := e) (n := n) (cap := n) (fun hl => by rw [hN hl]; trivial) hp (Nat.le_refl _) (by omega)
        have hkeep := hh.2.keeps
        refine .of_put hl (c' := c.with id _ _ _) rfl (v := .slice (some ⟨c.w.heap.size, 0, none⟩) n n) ?_ ?_ hh
        · rw [exec_buildSlice ho]
          have e1 : (ps.map fun (i, x) => (i, a.eval x)).toList = ps.toList.map fun p => (p.1, a.eval p.2) := by simp [Array.toList_map]
          have h3' : ¬ (16777216 < n * e) := by omega
          by_cases hne : n * e = 0
          · rw [if_pos hne] at hzc
            have hz2 : zc = #[] := hzc
            simp only [Instr.buildSlice, Sem.run_bind, run_underlying hu, Result.andThen_ok, run_sizeOf _ hsz, hne, if_true, Sem.run_pure, Nat.reducePow, gt_iff_lt, Nat.not_lt_zero, if_false, e1]
            rw [hne, hz2] at k1
            simp only [k1]
            simp [newRow]
          · rw [if_neg hne] at hzc
            simp only [Instr.buildSlice, Sem.run_bind, run_underlying hu, Result.andThen_ok, run_sizeOf _ hsz, hne, if_false, Sem.run_pure, Nat.reducePow, gt_iff_lt, h3', e1, zeroValue, typeInfo, run_program, hi, hz]
            rw [hzc] at k1
            simp only [k1]
            simp [newRow]
        · have hD : DRel (fun b x => c.S b x ∨ (b = c.w.heap.size ∧ x < n * e)) (c.w.alloc (.cells arr' el (0, 0))) (.sl (chunk e n ds)) (.slice (some ⟨c.w.heap.size, 0, none⟩) n n) := by
            have := DRel.sl (S := fun b x => c.S b x ∨ (b = c.w.heap.size ∧ x < n * e)) (w := c.w.alloc (.cells arr' el (0, 0))) (chunk e n ds) c.w.heap.size 0 e n (fun i j => arr'.getD (i * e + j) undef) (chunk_rows hn) (by rw [chunk_length]; exact Nat.le_refl _) (fun i j x hx => ?_) (fun i j x hx => ?_)
            · rw [chunk_length] at this; exact this
            · obtain ⟨hi', hj', hx'⟩ := chunk_at2 hx
              have hlt : i * e + j < n * e := by have := (List.getElem?_eq_some_iff.1 hx').1; omega
              refine ⟨.inr ⟨rfl, by omega⟩, ?_⟩
              rw [Nat.zero_add, cell_of_heap hp.new]
              simp [Array.getD, show i * e + j < arr'.size by omega]
            · obtain ⟨hi', hj', hx'⟩ := chunk_at2 hx
              have hlt : i * e + j < arr'.size := by have := (List.getElem?_eq_some_iff.1 hx').1; omega
              obtain ⟨y, hy, hyd⟩ := g2 _ _ hx'
              have hv := k3 (i * e + j) y (arr'[i * e + j]) hy (Array.getElem?_eq_getElem hlt)
              have := (dat_rel hyd hv).mono hkeep
              simpa [Array.getD, hlt] using this
          exact .ws (by show id < max c.N (id + 1); omega) hD (upd_same _ _ _) (by rw [chunk_length]; exact Nat.le_refl _) (fun _ => rfl)
      · cases h1
    · cases h1
  · cases h1

/-- What is known of a slice's rows: its cells. -/
structure RowsAre (c : Cx) (e : Nat) (r : List (List Dat)) (v : Value) (news : List Value) : Prop where
  shape : ∃ base cap, v = .slice base r.length cap ∧ (r ≠ [] → ∃ ad, base = some ad ∧ ∀ (j : Nat) u, news[j]? = some u → c.w.cell? (ad.add j) = some u)
  len : news.length = r.length * e
  one : ∀ u ∈ news, u.oneCell' = true
  row : ∀ x ∈ r, x.length = e
  rel : ∀ i j x, at2 r i j = some x → ∃ u, news[i * e + j]? = some u ∧ DRel c.S c.w x u

theorem drel_one {S : Stb} {w : World} {x : Dat} {v : Value} (h : DRel S w x v) : v.oneCell' = true := by cases h <;> rfl

theorem div_lt_of {j n e : Nat} (h : j < n * e) : j / e < n ∧ j % e < e ∧ j / e * e + j % e = j := by
  have he : 0 < e := by
    rcases Nat.eq_zero_or_pos e with rfl | h'
    · simp at h
    · exact h'
  exact ⟨(Nat.div_lt_iff_lt_mul he).2 h, Nat.mod_lt _ he, by rw [Nat.mul_comm]; exact Nat.div_add_mod j e⟩

theorem at2_of {r : List (List Dat)} {e : Nat} (hrow : ∀ x ∈ r, x.length = e) {i j : Nat} (hi : i < r.length) (hj : j < e) : ∃ x, at2 r i j = some x := by
  have : (r[i]).length = e := hrow _ (List.getElem_mem _)
  exact ⟨(r[i])[j], by simp [at2, hi, this, hj]⟩

theorem rows_of_drel {r : List (List Dat)} {v : Value} {e : Nat} (h : DRel c.S c.w (.sl r) v) (hok : rowsOk e r = true) : ∃ news, RowsAre c e r v news := by
  have hrow := rowsOk_spec hok
  rcases h.inv_sl with ⟨rfl, base, cap, rfl⟩ | ⟨b, off, e', cap, vals, rfl, hall, hcap, hs, hrr⟩
  · exact ⟨[], ⟨base, cap, rfl, fun h => absurd rfl h⟩, by simp, by simp, by simp, fun i j x hx => by simp [at2] at hx⟩
  · by_cases hne : r = []
    · subst hne
      exact ⟨[], ⟨_, cap, rfl, fun h => absurd rfl h⟩, by simp, by simp, by simp, fun i j x hx => by simp [at2] at hx⟩
    · have hee : e' = e := by
        have hpos : 0 < r.length := List.length_pos_iff.2 hne
        rw [← hrow r[0] (List.getElem_mem _), hall r[0] (List.getElem_mem _)]
      subst hee
      refine ⟨(List.range (r.length * e')).map fun k => vals (k / e') (k % e'), ⟨_, cap, rfl, fun _ => ⟨_, rfl, fun j u hj => ?_⟩⟩, by simp, fun u hu => ?_, hall, fun i j x hx => ?_⟩
      · rw [List.getElem?_map] at hj
        by_cases hjl : j < r.length * e'
        · rw [List.getElem?_range hjl] at hj
          simp only [Option.map_some, Option.some.injEq] at hj
          obtain ⟨h1, h2, h3⟩ := div_lt_of hjl
          obtain ⟨x, hx⟩ := at2_of hall h1 h2
          rw [add_plain, ← hj]
          have := (hs _ _ _ hx).2
          rw [Nat.add_assoc, h3] at this
          exact this
        · rw [List.getElem?_eq_none (by simpa using hjl)] at hj; cases hj
      · simp only [List.mem_map, List.mem_range] at hu
        obtain ⟨k, hk, rfl⟩ := hu
        obtain ⟨h1, h2, h3⟩ := div_lt_of hk
        obtain ⟨x, hx⟩ := at2_of hall h1 h2
        exact drel_one (hrr _ _ _ hx)
      · have hi : i < r.length := by
          unfold at2 at hx
          rcases Nat.lt_or_ge i r.length with h1 | h1
          · exact h1
          · rw [List.getElem?_eq_none (by omega)] at hx; cases hx
        have hj : j < e' := by
          unfold at2 at hx
          rw [List.getElem?_eq_getElem hi] at hx
          simp only [Option.bind_some] at hx
          have := (List.getElem?_eq_some_iff.1 hx).1
          rw [hall _ (List.getElem_mem _)] at this; exact this
        have hlt : i * e' + j < r.length * e' := by have := Nat.mul_le_mul_right e' (show i + 1 ≤ r.length by omega); rw [Nat.add_mul] at this; omega
        refine ⟨vals i j, ?_, hrr _ _ _ hx⟩
        rw [List.getElem?_map, List.getElem?_range hlt]
        have e1 : (i * e' + j) / e' = i := by rw [Nat.add_comm, Nat.add_mul_div_right _ _ (by omega), Nat.div_eq_of_lt hj, Nat.zero_add]
        have e2 : (i * e' + j) % e' = j := by rw [Nat.add_comm, Nat.add_mul_mod_self_right, Nat.mod_eq_of_lt hj]
        simp [e1, e2]

theorem rows_sound {hh : Heap} (hr : HRel c h) (hsub : ∀ l cs, getO hh l = some (.cells cs) → getO h l = some (.cells cs)) {e : Nat} {x : AV} {v : Value} (hv : VRel c x v) {r : List (List Dat)} (h1 : rows? hh e x = some r) : ∃ news, RowsAre c e r v news := by
  unfold rows? at h1
  split at h1
  · split at h1
    · rename_i hok; injection h1 with h1; subst h1; exact rows_of_drel hv.inv_sl hok
    · cases h1
  · injection h1 with h1; subst h1
    obtain ⟨b, rfl⟩ := hv.inv_nils
    exact ⟨[], ⟨b, 0, rfl, fun h => absurd rfl h⟩, by simp, by simp, by simp, fun i j x hx => by simp [at2] at hx⟩
  · split at h1
    · rename_i hok; injection h1 with h1; subst h1; exact rows_of_drel hv.inv_ws.1 hok
    · cases h1
  · rename_i l off n e' m'
    split at h1
    · rename_i hee; subst hee
      split at h1
      · rename_i cs hg
        split at h1
        · rename_i hle
          cases hds : dats? ((cs.drop off).take (n * e')) with
          | none => rw [hds] at h1; cases h1
          | some ds =>
            rw [hds] at h1
            simp only [Option.map_some, Option.some.injEq] at h1
            subst h1
            obtain ⟨g1, g2⟩ := dats_get hds
            have hdl : ds.length = n * e' := by rw [← g1]; simp; omega
            obtain ⟨b, cap, rfl, _, hb, _⟩ := hv.inv_slr
            obtain ⟨_, b', arr, T, k1, k2, k3, k4, _⟩ := hr.box l cs (hsub l cs hg)
            rw [hb] at k1; cases k1
            have hget : ∀ j, j < n * e' → ∃ d y, ds[j]? = some d ∧ cs[off + j]? = some y ∧ y.dat? = some d ∧ ∃ hlt : off + j < arr.size, DRel c.S c.w d arr[off + j] := by
              intro j hj
              have hdj : ds[j]? = some (ds[j]'(by omega)) := List.getElem?_eq_getElem (by omega)
              obtain ⟨y, hy, hyd⟩ := g2 j _ hdj
              rw [List.getElem?_take, if_pos hj, List.getElem?_drop] at hy
              have hlt : off + j < arr.size := Nat.lt_of_lt_of_le (List.getElem?_eq_some_iff.1 hy).1 k3
              exact ⟨_, y, hdj, hy, hyd, hlt, dat_rel hyd (k4 _ y _ hy (Array.getElem?_eq_getElem hlt))⟩
            refine ⟨(arr.toList.drop off).take (n * e'), ⟨_, cap, by rw [chunk_length], fun _ => ⟨_, rfl, fun j u hj => ?_⟩⟩, ?_, fun u hu => ?_, chunk_rows hdl, fun i j x hx => ?_⟩
            · rw [List.getElem?_take] at hj
              split at hj
              · rw [List.getElem?_drop] at hj
                rw [add_plain, cell_of_heap k2]; simpa using hj
              · cases hj
            · rw [chunk_length]; simp; omega
            · obtain ⟨j, hj, rfl⟩ := List.mem_iff_getElem.1 hu
              have hj' : j < n * e' := by simp at hj; omega
              obtain ⟨d, y, _, _, _, hlt, hD⟩ := hget j hj'
              have := drel_one hD
              simpa using this
            · obtain ⟨hi', hj', hx'⟩ := chunk_at2 hx
              have hlt' : i * e' + j < n * e' := by have := (List.getElem?_eq_some_iff.1 hx').1; omega
              obtain ⟨d, y, hd1, _, _, hlt, hD⟩ := hget _ hlt'
              rw [hx'] at hd1; injection hd1 with hd1; subst hd1
              refine ⟨arr[off + (i * e' + j)], ?_, hD⟩
              rw [List.getElem?_take, if_pos hlt', List.getElem?_drop]
              simp [hlt]
        · cases h1
      · cases h1
    · cases h1
  · injection h1 with h1; subst h1
    obtain ⟨b, cap, rfl, _⟩ := hv.inv_emp
    exact ⟨[], ⟨b, cap, rfl, fun h => absurd rfl h⟩, by simp, by simp, by simp, fun i j x hx => by simp [at2] at hx⟩
  · cases h1
end ops
end Go.Proofs.YtfifgiopdbdeoaaDoor.Lite
namespace Go.Proofs.YtfifgiopdbdeoaaDoor.Lite
open Go Go.RowKit

section runs
variable {P : Program} {w w1 : World} {t t' ty el el' : TypeId} {i : TypeInfo} {z : Value}

theorem run_app_place (ht : P.underlying t = some (.slice el)) (ht' : P.underlying t' = some (.slice el')) (hi : P.info? el = some i) {base base2 : Option Addr} {sLen sCap n c2 : Nat} (hcap : sLen + n ≤ sCap) {news : List Value}
    (hfc : (Builtin.firstCells i.size n (.slice base2 n c2)).run P w = .ok news.toArray w)
    (hst : (match base with | some a => storeCells (a.add (sLen * i.size)) news | none => pure ()).run P w = .ok () w1) :
    (Builtin.append_ #[t, t'] ty #[.slice base sLen sCap, .slice base2 n c2]).run P w = .ok (.slice base (sLen + n) sCap) w1 := by
  cases base with
  | none =>
    simp only [Sem.run_pure, Result.ok.injEq, true_and] at hst; subst hst
    simp [Builtin.append_, run_underlying ht, run_underlying ht', sizeOf, typeInfo, hi, Builtin.lenOf, hcap, hfc]
  | some b =>
    simp only at hst
    simp [Builtin.append_, run_underlying ht, run_underlying ht', sizeOf, typeInfo, hi, Builtin.lenOf, hcap, hfc, hst]

theorem run_app_grow (ht : P.underlying t = some (.slice el)) (ht' : P.underlying t' = some (.slice el')) (hi : P.info? el = some i) (hz : i.zero = some z) {base base2 : Option Addr} {sLen sCap n c2 : Nat} (hcap : sCap < sLen + n) {olds news : List Value}
    (h63 : ((sLen + n : Nat) : Int) ≤ 9223372036854775807) (hfit : Builtin.nextslicecap (sLen + n) sCap * i.bytes ≤ 281474976710656)
    (hfc : (Builtin.firstCells i.size n (.slice base2 n c2)).run P w.drew = .ok news.toArray w.drew)
    (hfo : (Builtin.firstCells i.size sLen (.slice base sLen sCap)).run P w.drew = .ok olds.toArray w.drew) :
    (Builtin.append_ #[t, t'] ty #[.slice base sLen sCap, .slice base2 n c2]).run P w =
      .ok (.slice (some ⟨w.heap.size, 0, none⟩) (sLen + n) (grownCap w (sLen + n) sCap el)) (w.drew.alloc (.cells (olds.toArray ++ news.toArray ++ Builtin.zeroCells z.cells (grownCap w (sLen + n) sCap el - (sLen + n))) el)) := by
  have hn : ¬ (sLen + n ≤ sCap) := by omega
  have h63' : ¬ (9223372036854775807 < ((sLen : Int) + (n : Int))) := by omega
  have h48' : ¬ (281474976710656 < Builtin.nextslicecap (sLen + n) sCap * i.bytes) := by omega
  simp [Builtin.append_, run_underlying ht, run_underlying ht', sizeOf, typeInfo, zeroValue, hi, hz, Builtin.lenOf, hn, h63', h48', Question.forced, hfc, hfo, newRow, grownCap]
  congr 2
  apply Array.ext'
  simp [List.append_assoc]
end runs

theorem grownCap_ge {w : World} {need old : Nat} {e : TypeId} (h : need < 2 ^ 63) : need ≤ grownCap w need old e := by
  unfold grownCap Question.cut
  simp only
  omega

theorem size_zeroCells (zero : Array Value) (n : Nat) : (Builtin.zeroCells zero n).size = n * zero.size := by simp [Builtin.zeroCells]

def chkApp (P : Program) (t t' : TypeId) (e : Nat) : Bool :=
  match P.underlying t, P.underlying t' with
  | some (.slice el), some (.slice _) => sz P el == some e &&
    (match P.info? el with
     | some i => decide (i.bytes ≤ 32768) && (match i.zero with | some z => z.cells.size == e | none => false)
     | none => false)
  | _, _ => false

theorem putO_self {h : Heap} {t : Nat} {o : AObj} (hg : getO h t = some o) : putO h t o = h := by
  have hlt := getO_lt hg
  unfold putO
  rw [if_pos hlt]
  apply List.ext_getElem?
  intro k
  rw [List.getElem?_set]
  split
  · rename_i e; subst e
    unfold getO at hg
    rw [List.getElem?_eq_getElem hlt] at hg ⊢
    simp at hg; simp [hg, hlt]
  · rfl

section ops
variable {P : Program} {o : Oper} {a : Act} {c : Cx} {h : Heap} {wp : Nat} {env : Env}

/-- the cells of a slice, read by append -/
theorem rowsAre_first {e : Nat} {r : List (List Dat)} {v : Value} {news : List Value} (hr : RowsAre c e r v news) {w : World} (hw : ∀ ad, w.cell? ad = c.w.cell? ad) :
    ∃ base cap, v = .slice base r.length cap ∧ (Builtin.firstCells e r.length (.slice base r.length cap)).run P w = .ok news.toArray w := by
  obtain ⟨⟨base, cap, rfl, hb⟩, hlen, _⟩ := hr
  refine ⟨base, cap, rfl, ?_⟩
  by_cases hne : r = []
  · subst hne
    have hn : news = [] := List.length_eq_zero_iff.1 (by simpa using hlen)
    subst hn
    cases base with
    | none => simp [Builtin.firstCells]
    | some ad => simp [Builtin.firstCells, loadCells, loadCellsFrom]
  · obtain ⟨ad, rfl, hc⟩ := hb hne
    exact run_firstCells_some (P := P) w e r.length ad r.length cap news hlen (fun j u hj => by rw [hw]; exact hc j u hj)

/-- A new block that holds the rows: the slice's relation. -/
theorem drel_fresh {S' : Stb} {w' : World} {e cap b : Nat} {rows : List (List Dat)} {all : List Value} {arr : Array Value} {T : TypeId} (hrow : ∀ x ∈ rows, x.length = e) (hcap : rows.length ≤ cap)
    (hb : w'.heap[b]? = some (.cells arr T (0, 0))) (hS : ∀ x, x < rows.length * e → S' b x) (hall : ∀ (k : Nat) u, all[k]? = some u → arr[k]? = some u)
    (hrel : ∀ i j x, at2 rows i j = some x → ∃ u, all[i * e + j]? = some u ∧ DRel S' w' x u) : DRel S' w' (.sl rows) (.slice (some ⟨b, 0, none⟩) rows.length cap) := by
  refine .sl rows b 0 e cap (fun i j => arr.getD (i * e + j) undef) hrow hcap (fun i j x hx => ?_) fun i j x hx => ?_
  · obtain ⟨u, hu, _⟩ := hrel i j x hx
    have ha := hall _ _ hu
    have hlt := (Array.getElem?_eq_some_iff.1 ha).1
    have hi : i < rows.length := by
      unfold at2 at hx
      rcases Nat.lt_or_ge i rows.length with h1 | h1
      · exact h1
      · rw [List.getElem?_eq_none (by omega)] at hx; cases hx
    have hj : j < e := by
      unfold at2 at hx
      rw [List.getElem?_eq_getElem hi] at hx
      simp only [Option.bind_some] at hx
      have := (List.getElem?_eq_some_iff.1 hx).1
      rw [hrow _ (List.getElem_mem _)] at this; exact this
    have hle : i * e + j < rows.length * e := by have := Nat.mul_le_mul_right e (show i + 1 ≤ rows.length by omega); rw [Nat.add_mul] at this; omega
    refine ⟨hS _ (by omega), ?_⟩
    rw [Nat.zero_add, cell_of_heap hb]
    simp [Array.getD, hlt]
  · obtain ⟨u, hu, hD⟩ := hrel i j x hx
    have ha := hall _ _ hu
    have hlt := (Array.getElem?_eq_some_iff.1 ha).1
    have : arr.getD (i * e + j) undef = u := by
      rw [Array.getElem?_eq_getElem hlt] at ha; injection ha with ha
      simp [Array.getD, hlt, ha]
    rw [this]; exact hD

theorem at2_append {xs ys : List (List Dat)} {i j : Nat} {x : Dat} (h : at2 (xs ++ ys) i j = some x) : (i < xs.length ∧ at2 xs i j = some x) ∨ (xs.length ≤ i ∧ at2 ys (i - xs.length) j = some x) := by
  unfold at2 at *
  by_cases hi : i < xs.length
  · rw [List.getElem?_append_left hi] at h; exact .inl ⟨hi, h⟩
  · rw [List.getElem?_append_right (by omega)] at h; exact .inr ⟨by omega, h⟩

theorem ok_app_nils (hr : HRel c h) (hl : h.length ≤ c.N) {t t' ty : TypeId} {x y : Operand} (ho : o.op = .call { callee := .builtin .append, args := #[x, y], argTypes := #[t, t'] }) {e : Nat} (hc : chkApp P t t' e = true)
    (hx : VRel c .nils (a.eval x)) {r : List (List Dat)} {news : List Value} (hy : RowsAre c e r (a.eval y) news) (hlim : r.length ≤ LIM) {id : Nat} (hwp : wp ≤ id) (hid : getO h id = none) (hN : id < c.N → c.ρ id = .no) :
    OpRes P o a c h (putO h id (.tok e r.length)) wp (.ws r id) := by
  unfold chkApp at hc
  split at hc
  · rename_i el el' hu hu'
    simp only [Bool.and_eq_true, beq_iff_eq] at hc
    obtain ⟨hsz, hc⟩ := hc
    split at hc
    · rename_i ti hi
      simp only [Bool.and_eq_true, decide_eq_true_eq] at hc
      obtain ⟨hby, hc⟩ := hc
      split at hc
      · rename_i z hz
        simp only [beq_iff_eq] at hc
        have hes : ti.size = e := by unfold sz at hsz; rw [hi] at hsz; simpa using hsz
        obtain ⟨base, hxe⟩ := hx.inv_nils
        by_cases hne : r = []
        · -- nothing is added: the slice stays asg it was
          subst hne
          obtain ⟨base2, cap2, hye, hfc⟩ := rowsAre_first (P := P) hy (w := c.w) (fun _ => rfl)
          have hnews : news = [] := List.length_eq_zero_iff.1 (by have := hy.len; simpa using this)
          subst hnews
          have hh := hr.tok_nil (wp := wp) hwp (fun hl _ => hN hl) (e := e) (n := 0) (base := base) (id := id) (fun hl => by rw [hN hl]; trivial)
          refine .of_put hl (c' := c.with id _ _ _) rfl (v := .slice base 0 0) ?_ (.ws (by show id < max c.N (id + 1); omega) (.nil _ _) (upd_same _ _ _) (Nat.le_refl _) fun _ => rfl) hh
          rw [exec_call ho]
          have := run_app_place (P := P) (w := c.w) (w1 := c.w) (ty := o.type) hu hu' hi (base := base) (base2 := base2) (sLen := 0) (sCap := 0) (n := 0) (c2 := cap2) (Nat.le_refl _) (news := []) (by rw [hes]; exact hfc) (by cases base <;> rfl)
          simp only [List.length_nil] at hye
          simp only [resolve, List.size_toArray, List.map_toArray, List.map_cons, List.map_nil, hxe, hye, Sem.run_bind, Sem.run_pure, Result.andThen_ok, invoke, builtin, this]
        · obtain ⟨base2, cap2, hye, hfc⟩ := rowsAre_first (P := P) hy (w := c.w.drew) (fun _ => rfl)
          have hpos : 0 < r.length := List.length_pos_iff.2 hne
          unfold LIM at hlim
          have hfit : Builtin.nextslicecap (0 + r.length) 0 * ti.bytes ≤ 281474976710656 := growslice_fits (by omega) (by
            have : (0 + r.length) * ti.bytes ≤ 4294967296 * 32768 := Nat.mul_le_mul (by omega) hby
            omega)
          have hrun := run_app_grow (P := P) (w := c.w) (ty := o.type) hu hu' hi hz (base := base) (base2 := base2) (sLen := 0) (sCap := 0) (n := r.length) (c2 := cap2) (olds := []) (news := news) (by omega) (by omega) hfit (by rw [hes]; exact hfc)
            (by cases base <;> simp [Builtin.firstCells, loadCells, loadCellsFrom])
          have hcge0 : r.length ≤ grownCap c.w (0 + r.length) 0 el := by have := grownCap_ge (w := c.w) (need := 0 + r.length) (old := 0) (e := el) (by omega); omega
          obtain ⟨G, hG⟩ : ∃ G, G = grownCap c.w (0 + r.length) 0 el := ⟨_, rfl⟩
          have hcge : r.length ≤ G := by rw [hG]; exact hcge0
          rw [← hG] at hrun
          have hp : Pushed c.w _ _ := .drew c.w (.cells (([] : List Value).toArray ++ news.toArray ++ Builtin.zeroCells z.cells (G - (0 + r.length))) el (0, 0))
          have hasz : (([] : List Value).toArray ++ news.toArray ++ Builtin.zeroCells z.cells (G - (0 + r.length))).size = G * e := by
            simp only [Array.size_append, List.size_toArray, List.length_nil, size_zeroCells, hy.len, hc, Nat.zero_add, ← Nat.add_mul]
            congr 1; omega
          have hh := hr.tok_new (wp := wp) hwp (fun hl _ => hN hl) (e := e) (n := r.length) (cap := G) (fun hl => by rw [hN hl]; trivial) hp hcge (Nat.le_of_eq hasz.symm)
          refine .of_put hl (c' := c.with id _ _ _) rfl (v := .slice (some ⟨c.w.heap.size, 0, none⟩) r.length (G)) ?_ (.ws (by show id < max c.N (id + 1); omega) ?_ (upd_same _ _ _) (Nat.le_refl _) fun _ => rfl) hh
          · rw [exec_call ho]
            rw [Nat.zero_add] at hrun
            simp only [resolve, List.size_toArray, List.map_toArray, List.map_cons, List.map_nil, hxe, hye, Sem.run_bind, Sem.run_pure, Result.andThen_ok, invoke, builtin, hrun, Nat.zero_add]
          · refine drel_fresh hy.row hcge (b := c.w.heap.size) (all := news) hp.new (fun x hx => .inr ⟨rfl, hx⟩) (fun k u hu => ?_) (fun i j x hx => ?_)
            · have hk := (List.getElem?_eq_some_iff.1 hu).1
              rw [Array.getElem?_append_left (by simp; omega), Array.getElem?_append_right (by simp)]
              simpa using hu
            · obtain ⟨u, h1, h2⟩ := hy.rel i j x hx
              exact ⟨u, h1, h2.mono hh.2.keeps⟩
      · cases hc
    · cases hc
  · cases hc

theorem ok_app_ws (hr : HRel c h) (hl : h.length ≤ c.N) {t t' ty : TypeId} {x y : Operand} (ho : o.op = .call { callee := .builtin .append, args := #[x, y], argTypes := #[t, t'] }) {e : Nat} (hc : chkApp P t t' e = true)
    {rows : List (List Dat)} {tk : Nat} (hx : VRel c (.ws rows tk) (a.eval x)) (hok : rowsOk e rows = true) (hg : getO h tk = some (.tok e rows.length)) {r : List (List Dat)} {news : List Value} (hy : RowsAre c e r (a.eval y) news) (hlim : rows.length + r.length ≤ LIM) (hwp : wp ≤ tk) :
    OpRes P o a c h (putO h tk (.tok e (rows.length + r.length))) wp (.ws (rows ++ r) tk) := by
  unfold chkApp at hc
  split at hc
  · rename_i el el' hu hu'
    simp only [Bool.and_eq_true, beq_iff_eq] at hc
    obtain ⟨hsz, hc⟩ := hc
    split at hc
    · rename_i ti hi
      simp only [Bool.and_eq_true, decide_eq_true_eq] at hc
      obtain ⟨hby, hc⟩ := hc
      split at hc
      · rename_i z hz
        simp only [beq_iff_eq] at hc
        have hes : ti.size = e := by unfold sz at hsz; rw [hi] at hsz; simpa using hsz
        obtain ⟨hD, hlt, base, cap, e', tip, hgh, hle, hv⟩ := hx.inv_ws
        obtain ⟨_, base', cap', g1, g2, g3⟩ := hr.tok tk e rows.length hg
        rw [hgh] at g1
        injection g1 with q1 q2 q3 q4
        have q3' := q3.symm
        subst q1; subst q2; subst q3'; subst q4
        have hxe := hv rfl
        obtain ⟨olds, hO⟩ := rows_of_drel hD hok
        by_cases hne : r = []
        · subst hne
          obtain ⟨base2, cap2, hye, hfc⟩ := rowsAre_first (P := P) hy (w := c.w) (fun _ => rfl)
          have hnews : news = [] := List.length_eq_zero_iff.1 (by have := hy.len; simpa using this)
          subst hnews
          simp only [List.append_nil, List.length_nil, Nat.add_zero]
          rw [putO_self hg]
          refine .pure hr hl (v := .slice base rows.length cap) ?_ (by rw [← hxe]; exact hx)
          rw [exec_call ho]
          have := run_app_place (P := P) (w := c.w) (w1 := c.w) (ty := o.type) hu hu' hi (base := base) (base2 := base2) (sLen := rows.length) (sCap := cap) (n := 0) (c2 := cap2) g2 (news := []) (by rw [hes]; exact hfc) (by cases base <;> rfl)
          simp only [List.length_nil] at hye
          simp only [Nat.add_zero] at this
          simp only [resolve, List.size_toArray, List.map_toArray, List.map_cons, List.map_nil, hxe, hye, Sem.run_bind, Sem.run_pure, Result.andThen_ok, invoke, builtin, this]
        · have hpos : 0 < r.length := List.length_pos_iff.2 hne
          by_cases hfits : rows.length + r.length ≤ cap
          · -- in place
            obtain ⟨b, off, arr, T, rfl, k2, k3, k4⟩ := g3 (by omega)
            obtain ⟨base2, cap2, hye, hfc⟩ := rowsAre_first (P := P) hy (w := c.w) (fun _ => rfl)
            have hmul : (rows.length + r.length) * e ≤ cap * e := Nat.mul_le_mul_right _ hfits
            have hadd : (rows.length + r.length) * e = rows.length * e + r.length * e := Nat.add_mul _ _ _
            have hnl := hy.len
            have hst := run_storeCells_at P b (off + rows.length * e) T news 0 arr c.w k2 (by omega) hy.one
            simp only [Nat.add_zero] at hst
            obtain ⟨arr', harr'⟩ : ∃ arr', arr' = (arr.toList.take (off + rows.length * e) ++ news ++ arr.toList.drop (off + rows.length * e + news.length)).toArray := ⟨_, rfl⟩
            rw [← harr'] at hst
            have hlay : off + rows.length * e + news.length ≤ arr.toList.length := by simp; omega
            have hget : ∀ k, arr'[k]? = if k < off + rows.length * e then arr[k]? else if k < off + rows.length * e + news.length then news[k - (off + rows.length * e)]? else arr[k]? := by
              intro k
              rw [harr', List.getElem?_toArray, layV_get hlay]; simp
            have hasz : arr'.size = arr.size := by rw [harr']; simp; omega
            have hh := hr.tok_place hwp hpos hg hgh hfits k2 hasz k3 (fun x hx => by rw [hget, if_pos hx]) k4
            have hnew := setRow_heap c.w b arr arr' T (0, 0) k2
            refine .of_put hl (c' := c.with tk _ _ _) rfl (v := .slice (some ⟨b, off, none⟩) (rows.length + r.length) cap) ?_ (.ws (by show tk < max c.N (tk + 1); omega) ?_ (upd_same _ _ _) (by simp) fun _ => by simp) hh
            · rw [exec_call ho]
              have := run_app_place (P := P) (w := c.w) (w1 := c.w.setRow b arr') (ty := o.type) hu hu' hi (base := some ⟨b, off, none⟩) (base2 := base2) (sLen := rows.length) (sCap := cap) (n := r.length) (c2 := cap2) hfits (news := news) (by rw [hes]; exact hfc)
                (by simp only [hes, add_plain]; exact hst)
              simp only [resolve, List.size_toArray, List.map_toArray, List.map_cons, List.map_nil, hxe, hye, Sem.run_bind, Sem.run_pure, Result.andThen_ok, invoke, builtin, this]
            · -- the rows, the old ones and the new
              have hold := hD.mono hh.2.keeps
              have hlen2 : (rows ++ r).length = rows.length + r.length := by simp
              have := DRel.sl (S := fun b' x => c.S b' x ∨ (b' = b ∧ off + rows.length * e ≤ x ∧ x < off + (rows.length + r.length) * e)) (w := c.w.setRow b arr') (rows ++ r) b off e cap (fun i j => arr'.getD (off + i * e + j) undef)
                (fun row hrow => by rcases List.mem_append.1 hrow with h1 | h1; exact hO.row row h1; exact hy.row row h1) (by simp; omega) (fun i j x hx => ?_) (fun i j x hx => ?_)
              · rw [hlen2] at this; exact this
              · rcases at2_append hx with ⟨hi', hx'⟩ | ⟨hi', hx'⟩
                · -- an old cell
                  rcases hD.inv_sl with ⟨rfl, _⟩ | ⟨b0, off0, e0, cap0, vals, hve, hall, _, hs, _⟩
                  · simp at hi'
                  · rw [hxe] at hve; injection hve with hve _ _; injection hve with hve; injection hve with v1 v2 _
                    subst v1; subst v2
                    have : e0 = e := by rw [← hall rows[0] (List.getElem_mem (by omega)), hO.row rows[0] (List.getElem_mem (by omega))]
                    subst this
                    obtain ⟨s1, s2⟩ := hs i j x hx'
                    refine ⟨.inl s1, ?_⟩
                    have s3 := (hh.2.keeps.cell b _ s1).trans s2
                    have s4 := s3
                    rw [cell_of_heap hnew] at s4
                    have hlt := (Array.getElem?_eq_some_iff.1 s4).1
                    show (c.w.setRow b arr').cell? _ = _
                    rw [cell_of_heap hnew]
                    simp [Array.getD, hlt]
                · obtain ⟨u, u1, u2⟩ := hy.rel _ j x hx'
                  have hlt1 := (List.getElem?_eq_some_iff.1 u1).1
                  have hi2 : i * e = rows.length * e + (i - rows.length) * e := by rw [← Nat.add_mul]; congr 1; omega
                  have hk : off + i * e + j < arr'.size := by rw [hasz]; omega
                  refine ⟨.inr ⟨rfl, by omega, by omega⟩, ?_⟩
                  show (c.w.setRow b arr').cell? _ = _
                  rw [cell_of_heap hnew]
                  simp [Array.getD, hk]
              · rcases at2_append hx with ⟨hi', hx'⟩ | ⟨hi', hx'⟩
                · rcases hold.inv_sl with ⟨rfl, _⟩ | ⟨b0, off0, e0, cap0, vals, hve, hall, _, hs, hrr⟩
                  · simp at hi'
                  · rw [hxe] at hve; injection hve with hve _ _; injection hve with hve; injection hve with v1 v2 _
                    subst v1; subst v2
                    have : e0 = e := by rw [← hall rows[0] (List.getElem_mem (by omega)), hO.row rows[0] (List.getElem_mem (by omega))]
                    subst this
                    obtain ⟨s1, s2⟩ := hs i j x hx'
                    have s4 : (c.w.setRow b arr').cell? ⟨b, off + i * e0 + j, none⟩ = some (vals i j) := s2
                    rw [cell_of_heap hnew] at s4
                    have hlt := (Array.getElem?_eq_some_iff.1 s4).1
                    have : arr'.getD (off + i * e0 + j) undef = vals i j := by
                      rw [Array.getElem?_eq_getElem hlt] at s4; injection s4 with s4
                      simp [Array.getD, hlt, s4]
                    rw [this]; exact hrr i j x hx'
                · obtain ⟨u, u1, u2⟩ := hy.rel _ j x hx'
                  have hlt1 := (List.getElem?_eq_some_iff.1 u1).1
                  have hi2 : i * e = rows.length * e + (i - rows.length) * e := by rw [← Nat.add_mul]; congr 1; omega
                  have hk : off + i * e + j < arr'.size := by rw [hasz]; omega
                  have hgk := hget (off + i * e + j)
                  rw [if_neg (by omega), if_pos (by omega)] at hgk
                  have hsub : off + i * e + j - (off + rows.length * e) = (i - rows.length) * e + j := by omega
                  rw [hsub, u1, Array.getElem?_eq_getElem hk] at hgk
                  injection hgk with hgk
                  have : arr'.getD (off + i * e + j) undef = u := by simp [Array.getD, hk, hgk]
                  rw [this]; exact u2.mono hh.2.keeps
          · -- a new block
            obtain ⟨base2, cap2, hye, hfc⟩ := rowsAre_first (P := P) hy (w := c.w.drew) (fun _ => rfl)
            obtain ⟨base3, cap3, hxe3, hfo⟩ := rowsAre_first (P := P) hO (w := c.w.drew) (fun _ => rfl)
            rw [hxe] at hxe3; injection hxe3 with v1 v2 v3; subst v1; subst v3
            unfold LIM at hlim
            have hfit : Builtin.nextslicecap (rows.length + r.length) cap * ti.bytes ≤ 281474976710656 := growslice_fits (by omega) (by
              have : (rows.length + r.length) * ti.bytes ≤ 4294967296 * 32768 := Nat.mul_le_mul (by omega) hby
              omega)
            have hrun := run_app_grow (P := P) (w := c.w) (ty := o.type) hu hu' hi hz (base := base) (base2 := base2) (sLen := rows.length) (sCap := cap) (n := r.length) (c2 := cap2) (olds := olds) (news := news) (by omega) (by omega) hfit (by rw [hes]; exact hfc) (by rw [hes]; exact hfo)
            obtain ⟨G, hG⟩ : ∃ G, G = grownCap c.w (rows.length + r.length) cap el := ⟨_, rfl⟩
            rw [← hG] at hrun
            have hcge : rows.length + r.length ≤ G := by rw [hG]; exact grownCap_ge (by omega)
            have hp : Pushed c.w _ _ := .drew c.w (.cells (olds.toArray ++ news.toArray ++ Builtin.zeroCells z.cells (G - (rows.length + r.length))) el (0, 0))
            have hasz : (olds.toArray ++ news.toArray ++ Builtin.zeroCells z.cells (G - (rows.length + r.length))).size = G * e := by
              simp only [Array.size_append, List.size_toArray, size_zeroCells, hy.len, hO.len, hc, ← Nat.add_mul]
              congr 1; omega
            have hh := hr.tok_new (wp := wp) hwp (fun _ h0 => by rw [hg] at h0; cases h0) (e := e) (n := rows.length + r.length) (cap := G) (fun _ => by rw [hgh]; exact ⟨_, _, _, _, rfl, .inl (by omega)⟩) hp hcge (Nat.le_of_eq hasz.symm)
            refine .of_put hl (c' := c.with tk _ _ _) rfl (v := .slice (some ⟨c.w.heap.size, 0, none⟩) (rows.length + r.length) G) ?_ (.ws (by show tk < max c.N (tk + 1); omega) ?_ (upd_same _ _ _) (by simp) fun _ => by simp) hh
            · rw [exec_call ho]
              simp only [resolve, List.size_toArray, List.map_toArray, List.map_cons, List.map_nil, hxe, hye, Sem.run_bind, Sem.run_pure, Result.andThen_ok, invoke, builtin, hrun]
            · have hlen2 : (rows ++ r).length = rows.length + r.length := by simp
              have := drel_fresh (S' := fun b x => c.S b x ∨ (b = c.w.heap.size ∧ x < (rows.length + r.length) * e)) (w' := (c.w.drew.alloc (.cells (olds.toArray ++ news.toArray ++ Builtin.zeroCells z.cells (G - (rows.length + r.length))) el (0, 0)))) (e := e) (cap := G) (b := c.w.heap.size) (rows := rows ++ r) (all := olds ++ news) (arr := olds.toArray ++ news.toArray ++ Builtin.zeroCells z.cells (G - (rows.length + r.length))) (T := el)
                (fun row hrow => by rcases List.mem_append.1 hrow with h1 | h1; exact hO.row row h1; exact hy.row row h1) (by simpa using hcge) hp.new (fun x hx => .inr ⟨rfl, by rw [hlen2] at hx; exact hx⟩) (fun k u hu => ?_) (fun i j x hx => ?_)
              · rw [hlen2] at this; exact this
              · have hk := (List.getElem?_eq_some_iff.1 hu).1
                rw [Array.getElem?_append_left (by simpa using hk)]
                simpa using hu
              · rcases at2_append hx with ⟨hi', hx'⟩ | ⟨hi', hx'⟩
                · obtain ⟨u, u1, u2⟩ := hO.rel i j x hx'
                  exact ⟨u, by rw [List.getElem?_append_left (List.getElem?_eq_some_iff.1 u1).1]; exact u1, u2.mono hh.2.keeps⟩
                · obtain ⟨u, u1, u2⟩ := hy.rel _ j x hx'
                  have hi2 : i * e = rows.length * e + (i - rows.length) * e := by rw [← Nat.add_mul]; congr 1; omega
                  refine ⟨u, ?_, u2.mono hh.2.keeps⟩
                  rw [List.getElem?_append_right (by rw [hO.len]; omega), hO.len]
                  rw [← u1]; congr 1; omega
      · cases hc
    · cases hc
  · cases hc
end ops
end Go.Proofs.YtfifgiopdbdeoaaDoor.Lite
namespace Go.Proofs.YtfifgiopdbdeoaaDoor.Lite
open Go Go.RowKit

theorem flatten_len {e : Nat} : ∀ {r : List (List Dat)}, (∀ x ∈ r, x.length = e) → r.flatten.length = r.length * e
  | [], _ => by simp
  | x :: xs, h => by
    rw [List.flatten_cons, List.length_append, flatten_len fun y hy => h y (List.mem_cons_of_mem _ hy), h x (List.mem_cons_self ..), List.length_cons, Nat.add_mul]
    omega

theorem flatten_at2 {e : Nat} : ∀ {r : List (List Dat)}, (∀ x ∈ r, x.length = e) → ∀ {k : Nat} {d : Dat}, r.flatten[k]? = some d → ∃ i j, k = i * e + j ∧ at2 r i j = some d
  | [], _, k, d, hk => by simp at hk
  | x :: xs, h, k, d, hk => by
    rw [List.flatten_cons] at hk
    have hx := h x (List.mem_cons_self ..)
    by_cases h1 : k < x.length
    · rw [List.getElem?_append_left h1] at hk
      exact ⟨0, k, by omega, by simpa [at2] using hk⟩
    · rw [List.getElem?_append_right (by omega)] at hk
      obtain ⟨i, j, e1, e2⟩ := flatten_at2 (fun y hy => h y (List.mem_cons_of_mem _ hy)) hk
      refine ⟨i + 1, j, ?_, by simpa [at2] using e2⟩
      rw [Nat.add_mul]; omega

theorem flatC_len {e : Nat} {r : List (List Dat)} (h : ∀ x ∈ r, x.length = e) : (flatC r).length = r.length * e := by simp only [flatC, List.length_map]; exact flatten_len h

theorem flatC_rel {c : Cx} {e : Nat} {r : List (List Dat)} {v : Value} {news : List Value} (hy : RowsAre c e r v news) : ∀ (j : Nat) x u, (flatC r)[j]? = some x → news[j]? = some u → VRel c x u := by
  intro j x u hx hu
  unfold flatC at hx
  rw [List.getElem?_map] at hx
  cases hd : r.flatten[j]? with
  | none => rw [hd] at hx; cases hx
  | some d =>
    rw [hd] at hx
    simp only [Option.map_some, Option.some.injEq] at hx
    subst hx
    obtain ⟨i, k, e1, e2⟩ := flatten_at2 hy.row hd
    obtain ⟨u', h1, h2⟩ := hy.rel i k d e2
    rw [← e1, hu] at h1
    injection h1 with h1; subst h1
    exact .d h2

/-- A slice's element type: its zero value is these cells. -/
def chkMk (P : Program) (t : TypeId) (e : Nat) (zero : List Dat) : Bool :=
  match P.underlying t with
  | some (.slice el) => sz P el == some e && zero.length == e &&
    (match P.info? el with
     | some i => decide (i.bytes ≤ 32768) && (match i.zero with | some z => chkVs z.cells.toList (zero.map .d) | none => false)
     | none => false)
  | _ => false

section ops
variable {P : Program} {o : Oper} {a : Act} {c : Cx} {h : Heap} {wp : Nat} {env : Env}

theorem ok_appb (hr : HRel c h) (hl : h.length ≤ c.N) {t t' ty : TypeId} {x y : Operand} (ho : o.op = .call { callee := .builtin .append, args := #[x, y], argTypes := #[t, t'] }) {e : Nat} (hc : chkApp P t t' e = true)
    (hx : VRel c .nils (a.eval x)) {r : List (List Dat)} {news : List Value} (hy : RowsAre c e r (a.eval y) news) (hlim : r.length ≤ LIM) {id : Nat} (hwp : wp ≤ id) (hid : getO h id = none) (hN : id < c.N → c.ρ id = .no) :
    if r = [] then OpRes P o a c h h wp .nils else OpRes P o a c h (putO h id (.cells (flatC r))) wp (.slr id 0 r.length e r.length) := by
  unfold chkApp at hc
  split at hc
  · rename_i el el' hu hu'
    simp only [Bool.and_eq_true, beq_iff_eq] at hc
    obtain ⟨hsz, hc⟩ := hc
    split at hc
    · rename_i ti hi
      simp only [Bool.and_eq_true, decide_eq_true_eq] at hc
      obtain ⟨hby, hc⟩ := hc
      split at hc
      · rename_i z hz
        simp only [beq_iff_eq] at hc
        have hes : ti.size = e := by unfold sz at hsz; rw [hi] at hsz; simpa using hsz
        obtain ⟨base, hxe⟩ := hx.inv_nils
        by_cases hne : r = []
        · subst hne
          rw [if_pos rfl]
          obtain ⟨base2, cap2, hye, hfc⟩ := rowsAre_first (P := P) hy (w := c.w) (fun _ => rfl)
          have hnews : news = [] := List.length_eq_zero_iff.1 (by have := hy.len; simpa using this)
          subst hnews
          refine .pure hr hl (v := .slice base 0 0) ?_ .nils
          rw [exec_call ho]
          have := run_app_place (P := P) (w := c.w) (w1 := c.w) (ty := o.type) hu hu' hi (base := base) (base2 := base2) (sLen := 0) (sCap := 0) (n := 0) (c2 := cap2) (Nat.le_refl _) (news := []) (by rw [hes]; exact hfc) (by cases base <;> rfl)
          simp only [List.length_nil] at hye
          simp only [resolve, List.size_toArray, List.map_toArray, List.map_cons, List.map_nil, hxe, hye, Sem.run_bind, Sem.run_pure, Result.andThen_ok, invoke, builtin, this]
        · rw [if_neg hne]
          obtain ⟨base2, cap2, hye, hfc⟩ := rowsAre_first (P := P) hy (w := c.w.drew) (fun _ => rfl)
          have hpos : 0 < r.length := List.length_pos_iff.2 hne
          unfold LIM at hlim
          have hfit : Builtin.nextslicecap (0 + r.length) 0 * ti.bytes ≤ 281474976710656 := growslice_fits (by omega) (by
            have : (0 + r.length) * ti.bytes ≤ 4294967296 * 32768 := Nat.mul_le_mul (by omega) hby
            omega)
          have hrun := run_app_grow (P := P) (w := c.w) (ty := o.type) hu hu' hi hz (base := base) (base2 := base2) (sLen := 0) (sCap := 0) (n := r.length) (c2 := cap2) (olds := []) (news := news) (by omega) (by omega) hfit (by rw [hes]; exact hfc)
            (by cases base <;> simp [Builtin.firstCells, loadCells, loadCellsFrom])
          have hcge0 : r.length ≤ grownCap c.w (0 + r.length) 0 el := by have := grownCap_ge (w := c.w) (need := 0 + r.length) (old := 0) (e := el) (by omega); omega
          obtain ⟨G, hG⟩ : ∃ G, G = grownCap c.w (0 + r.length) 0 el := ⟨_, rfl⟩
          have hcge : r.length ≤ G := by rw [hG]; exact hcge0
          rw [← hG] at hrun
          have hp : Pushed c.w _ _ := .drew c.w (.cells (([] : List Value).toArray ++ news.toArray ++ Builtin.zeroCells z.cells (G - (0 + r.length))) el (0, 0))
          have hlenF := flatC_len hy.row
          have hrelF := flatC_rel hy
          have hh := hr.new_box (wp := wp) hwp hid hN (cs := flatC r) (arr := ([] : List Value).toArray ++ news.toArray ++ Builtin.zeroCells z.cells (G - (0 + r.length))) (T := el) (by
              rw [hlenF, ← hy.len]; simp) (fun j x v hx hv => by
              have hj : j < news.length := by rw [hy.len, ← hlenF]; exact (List.getElem?_eq_some_iff.1 hx).1
              rw [Array.getElem?_append_left (by simpa using hj)] at hv
              exact hrelF j x v hx (by simpa using hv)) hp
          refine .of_put hl (c' := c.with id _ _ _) rfl (v := .slice (some ⟨c.w.heap.size, 0, none⟩) r.length (G)) ?_ (.slr (by show id < max c.N (id + 1); omega) (upd_same _ _ _) (Nat.le_refl _) hcge) hh
          rw [exec_call ho]
          rw [Nat.zero_add] at hrun
          simp only [resolve, List.size_toArray, List.map_toArray, List.map_cons, List.map_nil, hxe, hye, Sem.run_bind, Sem.run_pure, Result.andThen_ok, invoke, builtin, hrun, Nat.zero_add]
      · cases hc
    · cases hc
  · cases hc

/-- A row of cells is laid into a box. -/
theorem store_row (hr : HRel c h) {l off : Nat} (hwp : wp ≤ l) {cs : List AV} (hg : getO h l = some (.cells cs)) {b : Nat} (hb : c.ρ l = .box b) {vs : List AV} {news : List Value} (hlen : news.length = vs.length)
    (hrel : ∀ (j : Nat) y u, vs[j]? = some y → news[j]? = some u → VRel c y u) (hone : ∀ u ∈ news, u.oneCell' = true) (hle : off + vs.length ≤ cs.length) :
    ∃ arr', (storeCells ⟨b, off, none⟩ news).run P c.w = .ok () (c.w.setRow b arr') ∧
      HRel (c.with l c.S (.box b) (c.w.setRow b arr')) (putO h l (.cells (lay cs off vs))) ∧ HExt c (c.with l c.S (.box b) (c.w.setRow b arr')) h (putO h l (.cells (lay cs off vs))) wp := by
  obtain ⟨h0, b', arr, T, h1, h2, h3, h4, _⟩ := hr.box l cs hg
  rw [hb] at h1; cases h1
  have hst := run_storeCells_at P b off T news 0 arr c.w h2 (by omega) hone
  simp only [Nat.add_zero] at hst
  have hlv : off + news.length ≤ arr.toList.length := by simp; omega
  refine ⟨_, hst, hr.store hwp hg hb h2 (by rw [lay_length hle]; simp; omega) (fun j y w hy hw => ?_)⟩
  rw [lay_get hle] at hy
  rw [List.getElem?_toArray, layV_get hlv] at hw
  rw [hlen] at hw
  by_cases e1 : j < off
  · simp only [e1, if_true] at hy hw; exact h4 j y w hy (by simpa using hw)
  · simp only [e1, if_false] at hy hw
    by_cases e2 : j < off + vs.length
    · simp only [e2, if_true] at hy hw; exact hrel (j - off) y w hy (by simpa using hw)
    · simp only [e2, if_false] at hy hw; exact h4 j y w hy (by simpa using hw)

theorem ok_apps_nil (hr : HRel c h) (hl : h.length ≤ c.N) {t t' : TypeId} {x y : Operand} (ho : o.op = .call { callee := .builtin .append, args := #[x, y], argTypes := #[t, t'] }) {e : Nat} (hc : chkApp P t t' e = true)
    (hx : VRel c .nils (a.eval x)) {news : List Value} (hy : RowsAre c e [] (a.eval y) news) : OpRes P o a c h h wp .nils := by
  unfold chkApp at hc
  split at hc
  · rename_i el el' hu hu'
    simp only [Bool.and_eq_true, beq_iff_eq] at hc
    obtain ⟨hsz, hc⟩ := hc
    split at hc
    · rename_i ti hi
      have hes : ti.size = e := by unfold sz at hsz; rw [hi] at hsz; simpa using hsz
      obtain ⟨base, hxe⟩ := hx.inv_nils
      obtain ⟨base2, cap2, hye, hfc⟩ := rowsAre_first (P := P) hy (w := c.w) (fun _ => rfl)
      have hnews : news = [] := List.length_eq_zero_iff.1 (by have := hy.len; simpa using this)
      subst hnews
      refine .pure hr hl (v := .slice base 0 0) ?_ .nils
      rw [exec_call ho]
      have := run_app_place (P := P) (w := c.w) (w1 := c.w) (ty := o.type) hu hu' hi (base := base) (base2 := base2) (sLen := 0) (sCap := 0) (n := 0) (c2 := cap2) (Nat.le_refl _) (news := []) (by rw [hes]; exact hfc) (by cases base <;> rfl)
      simp only [List.length_nil] at hye
      simp only [resolve, List.size_toArray, List.map_toArray, List.map_cons, List.map_nil, hxe, hye, Sem.run_bind, Sem.run_pure, Result.andThen_ok, invoke, builtin, this]
    · cases hc
  · cases hc

theorem ok_apps (hr : HRel c h) (hl : h.length ≤ c.N) {t t' : TypeId} {x y : Operand} (ho : o.op = .call { callee := .builtin .append, args := #[x, y], argTypes := #[t, t'] }) {e : Nat} (hc : chkApp P t t' e = true)
    {l off n m : Nat} (hx : VRel c (.slr l off n e m) (a.eval x)) {r : List (List Dat)} {news : List Value} (hy : RowsAre c e r (a.eval y) news) {cs : List AV} (hg : getO h l = some (.cells cs)) (hwp : wp ≤ l) (hm : n + r.length ≤ m)
    (hle : off + (n + r.length) * e ≤ cs.length) : OpRes P o a c h (putO h l (.cells (lay cs (off + n * e) (flatC r)))) wp (.slr l off (n + r.length) e m) := by
  unfold chkApp at hc
  split at hc
  · rename_i el el' hu hu'
    simp only [Bool.and_eq_true, beq_iff_eq] at hc
    obtain ⟨hsz, hc⟩ := hc
    split at hc
    · rename_i ti hi
      have hes : ti.size = e := by unfold sz at hsz; rw [hi] at hsz; simpa using hsz
      obtain ⟨b, cap, hxe, k1, k2, _, k3, k4⟩ := hx.inv_slr
      obtain ⟨base2, cap2, hye, hfc⟩ := rowsAre_first (P := P) hy (w := c.w) (fun _ => rfl)
      have hlenF := flatC_len hy.row
      rw [Nat.add_mul] at hle
      obtain ⟨arr', hst, hh⟩ := store_row (P := P) hr hwp hg k2 (off := off + n * e) (vs := flatC r) (news := news) (by rw [hlenF, hy.len]) (flatC_rel hy) hy.one (by rw [hlenF]; omega)
      refine .of_put hl (c' := c.with l _ _ _) rfl (v := .slice (some ⟨b, off, none⟩) (n + r.length) cap) ?_ (.slr (by show l < max c.N (l + 1); omega) (upd_same _ _ _) hm k4) hh
      rw [exec_call ho]
      have := run_app_place (P := P) (w := c.w) (w1 := c.w.setRow b arr') (ty := o.type) hu hu' hi (base := some ⟨b, off, none⟩) (base2 := base2) (sLen := n) (sCap := cap) (n := r.length) (c2 := cap2) (by omega) (news := news) (by rw [hes]; exact hfc) (by
        simp only [hes, add_plain]; exact hst)
      simp only [resolve, List.size_toArray, List.map_toArray, List.map_cons, List.map_nil, hxe, hye, Sem.run_bind, Sem.run_pure, Result.andThen_ok, invoke, builtin, this]
    · cases hc
  · cases hc

theorem ok_slw (hr : HRel c h) (hl : h.length ≤ c.N) {t el : TypeId} {x hi : Operand} (ho : o.op = .slice t x none (some hi) none) (ht : P.underlying t = some (.slice el)) {e : Nat} (he : sz P el = some e)
    {l0 off n m : Nat} (hx : VRel c (.slr l0 off n e m) (a.eval x)) {k : IntKind} {i : Int} (hi' : VRel c (.d (.int k i)) (a.eval hi)) (h0 : 0 ≤ i) (h1 : i ≤ m) : OpRes P o a c h h wp (.slr l0 off i.toNat e m) := by
  obtain ⟨b, cap, hxe, h3, hb, _, hc, hm⟩ := hx.inv_slr
  have hie := hi'.inv_int
  have hbd := run_bounds (P := P) (w := c.w) (isSlice := true) (len := n) (cap := cap) (lo := none) (hi := some (a.eval hi)) (l := 0) (h := i.toNat) (.inl ⟨rfl, rfl⟩) (.inr ⟨k, by rw [hie, Int.toNat_of_nonneg h0]⟩) (Nat.zero_le _) (by omega)
  refine .pure hr hl (v := .slice (if cap = 0 then some ⟨b, off, none⟩ else some ⟨b, off, none⟩) i.toNat cap) ?_ ?_
  · rw [exec_slice ho, hxe]
    simp only [Option.map_none, Option.map_some]
    simp [Instr.sliceAt, run_underlying ht, Instr.slice, hbd, run_sizeOf _ he, add_plain]
  · rw [ite_self]; exact .slr h3 hb (by omega) hm

theorem ok_cap_nils (hr : HRel c h) (hl : h.length ≤ c.N) {x : Operand} {t el : TypeId} (ho : o.op = .call { callee := .builtin .cap, args := #[x], argTypes := #[t] }) (ht : P.underlying t = some (.slice el)) (hx : VRel c .nils (a.eval x)) :
    OpRes P o a c h h wp (.d (.int .i64 0)) := by
  obtain ⟨b, hxe⟩ := hx.inv_nils
  refine .pure hr hl (v := .int .i64 0) ?_ (.d (.int _ _))
  rw [exec_call ho]
  simp [resolve, invoke, builtin, Builtin.cap_, run_underlying ht, hxe, goInt]

theorem rep_row {n : Nat} {zero : List Dat} {e : Nat} (h : zero.length = e) : ∀ x ∈ List.replicate n zero, x.length = e := fun x hx => by rw [List.mem_replicate] at hx; rw [hx.2]; exact h

/-- the cells of n zero values -/
theorem zeros_rel {z : Value} {zero : List Dat} (hz : chkVs z.cells.toList (zero.map .d) = true) (c : Cx) {n : Nat} : (Builtin.zeroCells z.cells n).size = (flatC (List.replicate n zero)).length ∧
    ∀ (j : Nat) y u, (flatC (List.replicate n zero))[j]? = some y → (Builtin.zeroCells z.cells n)[j]? = some u → VRel c y u := by
  obtain ⟨h1, h2⟩ := chkVs_sound hz c
  have hzl : z.cells.size = zero.length := by simpa using h1
  have hF : (flatC (List.replicate n zero)).length = n * zero.length := by rw [flatC_len (rep_row rfl)]; simp
  refine ⟨by rw [size_zeroCells, hF, hzl], fun j y u hy hu => ?_⟩
  unfold flatC at hy
  rw [List.getElem?_map] at hy
  cases hd : (List.replicate n zero).flatten[j]? with
  | none => rw [hd] at hy; cases hy
  | some d =>
    rw [hd] at hy
    simp only [Option.map_some, Option.some.injEq] at hy
    subst hy
    obtain ⟨i, k, e1, e2⟩ := flatten_at2 (rep_row (e := zero.length) rfl) hd
    have hk : zero[k]? = some d := by
      unfold at2 at e2
      rw [List.getElem?_replicate] at e2
      split at e2
      · simpa using e2
      · cases e2
    have hkl := (List.getElem?_eq_some_iff.1 hk).1
    have hmod : j % z.cells.size = k := by rw [e1, hzl, Nat.add_comm, Nat.add_mul_mod_self_right, Nat.mod_eq_of_lt hkl]
    unfold Builtin.zeroCells at hu
    rw [Array.getElem?_map] at hu
    have hlt : j < n * z.cells.size := by
      have := (List.getElem?_eq_some_iff.1 hd).1
      rw [flatten_len (rep_row (e := zero.length) rfl), List.length_replicate] at this
      rw [hzl]; exact this
    rw [Array.getElem?_eq_getElem (by simpa using hlt)] at hu
    simp only [Array.getElem_range, Option.map_some, Option.some.injEq, hmod] at hu
    have hkz : k < z.cells.size := by omega
    rw [getElem!_pos z.cells k hkz] at hu
    refine h2 k (.d d) u (by rw [List.getElem?_map, hk]; rfl) ?_
    rw [← hu]
    simp [hkz]

theorem one_of {ds : List Dat} {us : List Value} (hl : us.length = ds.length) {c : Cx} (h : ∀ (j : Nat) y u, (ds.map AV.d)[j]? = some y → us[j]? = some u → VRel c y u) : ∀ u ∈ us, u.oneCell' = true := by
  intro u hu
  obtain ⟨j, hj, rfl⟩ := List.mem_iff_getElem.1 hu
  have := h j (.d ds[j]) us[j] (by simp [show j < ds.length by omega]) (by simp)
  cases this with
  | d h => exact drel_one h

theorem ok_clr (hr : HRel c h) (hl : h.length ≤ c.N) {x : Operand} {t : TypeId} (ho : o.op = .call { callee := .builtin .clear, args := #[x], argTypes := #[t] }) {e : Nat} {zero : List Dat} (hc : chkMk P t e zero = true)
    {l off n m : Nat} (hx : VRel c (.slr l off n e m) (a.eval x)) {cs : List AV} (hg : getO h l = some (.cells cs)) (hwp : wp ≤ l) (hle : off + n * e ≤ cs.length) :
    OpRes P o a c h (putO h l (.cells (lay cs off (flatC (List.replicate n zero))))) wp (.tup []) := by
  unfold chkMk at hc
  split at hc
  · rename_i el hu
    simp only [Bool.and_eq_true, beq_iff_eq] at hc
    obtain ⟨⟨hsz, hze⟩, hc⟩ := hc
    split at hc
    · rename_i ti hi
      simp only [Bool.and_eq_true] at hc
      obtain ⟨_, hc⟩ := hc
      split at hc
      · rename_i z hz
        obtain ⟨b, cap, hxe, k1, k2, _⟩ := hx.inv_slr
        obtain ⟨z1, z2⟩ := zeros_rel hc c (n := n)
        have hlenF : (flatC (List.replicate n zero)).length = n * e := by rw [flatC_len (rep_row hze)]; simp
        obtain ⟨arr', hst, hh⟩ := store_row (P := P) hr hwp hg k2 (off := off) (vs := flatC (List.replicate n zero)) (news := (Builtin.zeroCells z.cells n).toList) (by simpa using z1) (fun j y u h1 h2 => z2 j y u h1 (by simpa using h2))
          (one_of (ds := (List.replicate n zero).flatten) (by simpa [flatC] using z1) (c := c) fun j y u h1 h2 => z2 j y u h1 (by simpa using h2)) (by omega)
        refine .of_put hl (c' := c.with l _ _ _) rfl (v := .tuple #[]) ?_ (.tup (by simp) (fun j x v hx => by simp at hx)) hh
        rw [exec_call ho]
        by_cases hn : n = 0
        · subst hn
          have hz0 : (Builtin.zeroCells z.cells 0).toList = [] := by simp [Builtin.zeroCells]
          rw [hz0] at hst
          simp only [storeCells, Sem.run_pure, Result.ok.injEq, true_and] at hst
          rw [← hst]
          simp [resolve, invoke, builtin, Builtin.clear_, run_underlying hu, hxe]
        · obtain ⟨n', rfl⟩ := Nat.exists_eq_succ_of_ne_zero hn
          simp [resolve, invoke, builtin, Builtin.clear_, run_underlying hu, hxe, zeroValue, typeInfo, hi, hz, hst]
      · cases hc
    · cases hc
  · cases hc

theorem ok_clr_nil (hr : HRel c h) (hl : h.length ≤ c.N) {x : Operand} {t : TypeId} (ho : o.op = .call { callee := .builtin .clear, args := #[x], argTypes := #[t] }) {e : Nat} {zero : List Dat} (hc : chkMk P t e zero = true)
    {base : Option Addr} {cap : Nat} (hx : a.eval x = .slice base 0 cap) : OpRes P o a c h h wp (.tup []) := by
  unfold chkMk at hc
  split at hc
  · rename_i el hu
    refine .pure hr hl (v := .tuple #[]) ?_ (.tup (by simp) (fun j x v hx => by simp at hx))
    rw [exec_call ho]
    cases base <;> simp [resolve, invoke, builtin, Builtin.clear_, run_underlying hu, hx]
  · cases hc

theorem ok_mks (hr : HRel c h) (hl : h.length ≤ c.N) {x y : Operand} {t : TypeId} (ho : o.op = .makeSlice t x y) {e : Nat} {zero : List Dat} (hc : chkMk P t e zero = true) {k k' : IntKind} {i : Int} (hx : VRel c (.d (.int k i)) (a.eval x)) (hy : VRel c (.d (.int k' i)) (a.eval y))
    (h0 : 0 ≤ i) (hlim : i ≤ LIM) {id : Nat} (hwp : wp ≤ id) (hid : getO h id = none) (hN : id < c.N → c.ρ id = .no) : OpRes P o a c h (putO h id (.tok e i.toNat)) wp (.ws (List.replicate i.toNat zero) id) := by
  unfold chkMk at hc
  split at hc
  · rename_i el hu
    simp only [Bool.and_eq_true, beq_iff_eq] at hc
    obtain ⟨⟨hsz, hze⟩, hc⟩ := hc
    split at hc
    · rename_i ti hi
      simp only [Bool.and_eq_true, decide_eq_true_eq] at hc
      obtain ⟨hby, hc⟩ := hc
      split at hc
      · rename_i z hz
        have hes : ti.size = e := by unfold sz at hsz; rw [hi] at hsz; simpa using hsz
        unfold LIM at hlim
        have hb : (ti.bytes : Int) * i ≤ 281474976710656 := by
          have h1 : ti.bytes * i.toNat ≤ 32768 * 4294967296 := Nat.mul_le_mul hby (by omega)
          have h2 : ((ti.bytes * i.toNat : Nat) : Int) = (ti.bytes : Int) * i := by rw [Int.natCast_mul, Int.toNat_of_nonneg h0]
          omega
        have hrun := Go.run_make (P := P) c.w t el ti z hu hi hz k k' i i h0 (Int.le_refl _) hb (by omega)
        obtain ⟨hc1, hc2⟩ := chkVs_sound hc c
        have hzl : z.cells.size = e := by rw [← hze]; simpa using hc1
        have hcells : ∀ w, madeCells z.cells w = madeCells z.cells w := fun _ => rfl
        have hp : Pushed c.w _ _ := .alloc c.w (.cells (madeCells z.cells (i.toNat * ti.size)) el (0, 0))
        have hmz : madeCells z.cells (i.toNat * ti.size) = Builtin.zeroCells z.cells i.toNat := by
          unfold madeCells Builtin.zeroCells; rw [hes, hzl]
        have hsz2 : (madeCells z.cells (i.toNat * ti.size)).size = i.toNat * e := by rw [hmz, size_zeroCells, hzl]
        obtain ⟨z1, z2⟩ := zeros_rel hc c (n := i.toNat)
        have hh := hr.tok_new (wp := wp) hwp (fun hl _ => hN hl) (e := e) (n := i.toNat) (cap := i.toNat) (fun hl => by rw [hN hl]; trivial) hp (Nat.le_refl _) (Nat.le_of_eq hsz2.symm)
        have hlr : (List.replicate i.toNat zero).length = i.toNat := by simp
        refine .of_put hl (c' := c.with id _ _ _) rfl (v := .slice (some ⟨c.w.heap.size, 0, none⟩) i.toNat i.toNat) ?_ (.ws (by show id < max c.N (id + 1); omega) ?_ (upd_same _ _ _) (by simp) fun _ => rfl) hh
        · unfold execOp; rw [ho]
          simp only [hx.inv_int, hy.inv_int, Sem.run_bind, hrun, Result.andThen_ok, Sem.run_pure]
        · have := drel_fresh (S' := fun b x => c.S b x ∨ (b = c.w.heap.size ∧ x < i.toNat * e)) (w' := c.w.alloc (.cells (madeCells z.cells (i.toNat * ti.size)) el (0, 0))) (e := e) (cap := i.toNat) (b := c.w.heap.size) (rows := List.replicate i.toNat zero) (all := (Builtin.zeroCells z.cells i.toNat).toList) (arr := madeCells z.cells (i.toNat * ti.size)) (T := el)
            (rep_row hze) (by simp) hp.new (fun x hx => .inr ⟨rfl, by rw [hlr] at hx; exact hx⟩) (fun k u hu => by rw [hmz]; simpa using hu) (fun i' j x hx => ?_)
          · rw [hlr] at this; exact this
          · have hrow : i' < i.toNat ∧ zero[j]? = some x := by
              unfold at2 at hx
              rw [List.getElem?_replicate] at hx
              split at hx
              · rename_i hi'; exact ⟨hi', by simpa using hx⟩
              · cases hx
            have hj := (List.getElem?_eq_some_iff.1 hrow.2).1
            have hlt : i' * e + j < i.toNat * e := by have := Nat.mul_le_mul_right e (show i' + 1 ≤ i.toNat by omega); rw [Nat.add_mul] at this; omega
            have hlt2 : i' * e + j < (Builtin.zeroCells z.cells i.toNat).size := by rw [size_zeroCells, hzl]; exact hlt
            refine ⟨(Builtin.zeroCells z.cells i.toNat)[i' * e + j], by simp [hlt2], ?_⟩
            have hmod : (i' * e + j) % e = j := by rw [Nat.add_comm, Nat.add_mul_mod_self_right, Nat.mod_eq_of_lt (by omega)]
            have hval : (Builtin.zeroCells z.cells i.toNat)[i' * e + j] = z.cells[j]'(by omega) := by
              unfold Builtin.zeroCells
              simp only [Array.getElem_map, Array.getElem_range, hzl, hmod]
              rw [getElem!_pos z.cells j (by omega)]
            rw [hval]
            have hv := hc2 j (.d x) (z.cells[j]'(by omega)) (by rw [List.getElem?_map, hrow.2]; rfl) (by simp [show j < z.cells.size by omega])
            have hv' := hv.mono hh.2.cx
            cases hv' with
            | d h => exact h
      · cases hc
    · cases hc
  · cases hc
theorem run_eqNil_sl {P : Program} {w : World} {t el : TypeId} (hu : P.underlying t = some (.slice el)) (q : Option Addr) (n k k' : Nat) (neg : Bool) : (binOp (if neg then .neq else .eql) t (.slice q n k) (.slice none 0 k')).run P w = .ok (.bool (q.isNone != neg)) w := by
  have e : (Op.equal t (.slice q n k) (.slice none 0 k')).run P w = .ok q.isNone w := by
    unfold Op.equal Op.maxDepth Op.equalIn
    cases q <;> simp [run_underlying hu]
  have e1 : binOp .eql t (.slice q n k) (.slice none 0 k') = (do pure (.bool (← Op.equal t (.slice q n k) (.slice none 0 k')))) := by cases q <;> rfl
  have e2 : binOp .neq t (.slice q n k) (.slice none 0 k') = (do pure (.bool (!(← Op.equal t (.slice q n k) (.slice none 0 k'))))) := by cases q <;> rfl
  cases neg
  · simp only [Bool.false_eq_true, if_false, e1, Sem.run_bind, e, Result.andThen_ok, Sem.run_pure, Bool.bne_false]
  · simp only [if_true, e2, Sem.run_bind, e, Result.andThen_ok, Sem.run_pure, Bool.bne_true]

def slNil (P : Program) (t : TypeId) : Operand → Bool
  | .const (.slice none 0 _) => (match P.underlying t with | some (.slice _) => true | _ => false)
  | _ => false

theorem ok_nlc (hr : HRel c h) (hl : h.length ≤ c.N) {neg : Bool} {t u : TypeId} {x y : Operand} (ho : o.op = .binOp (if neg then .neq else .eql) t x y u) (ht : slNil P t y = true) {q : Option Addr} {n k : Nat}
    (hx : a.eval x = .slice q n k) : OpRes P o a c h h wp (.d (.bool (q.isNone != neg))) := by
  unfold slNil at ht
  split at ht
  · split at ht
    · rename_i el hu
      refine .pure hr hl (v := .bool (q.isNone != neg)) ?_ (.d (.bool _))
      rw [exec_binOp ho, hx]
      have e4 := run_eqNil_sl (w := c.w) hu q n k
      have e3 : ∀ (y' : Operand) k', (eqGuard (if neg then .neq else .eql) t x y' (.slice q n k) (.slice none 0 k')).run P c.w = .ok () c.w := by intro y' k'; unfold eqGuard; cases neg <;> rfl
      simp only [Sem.run_bind, e3, Act.eval, e4, Result.andThen_ok, Sem.run_pure]
    · cases ht
  · cases ht

theorem range0 : Array.range 0 = #[] := Array.eq_empty_of_size_eq_zero (by simp)

theorem ok_emp0 (hr : HRel c h) (hl : h.length ≤ c.N) {t : TypeId} (ho : o.op = .buildSlice t 0 #[]) {e : Nat} {el : TypeId} (ht : P.underlying t = some (.slice el)) (he : sz P el = some e)
    {id : Nat} (hwp : wp ≤ id) (hid : getO h id = none) (hN : id < c.N → c.ρ id = .no) : OpRes P o a c h (putO h id (.tok e 0)) wp .nils := by
  have hp : Pushed c.w (c.w.alloc (.cells #[] el (0, 0))) (.cells #[] el (0, 0)) := .alloc _ _
  have hh := hr.tok_new (wp := wp) hwp (fun hl _ => hN hl) (e := e) (n := 0) (cap := 0) (fun hl => by rw [hN hl]; trivial) hp (Nat.le_refl _) (by simp)
  refine .of_put hl (c' := c.with id _ _ _) rfl (v := .slice (some ⟨c.w.heap.size, 0, none⟩) 0 0) ?_ .nils hh
  rw [exec_buildSlice ho]
  simp [Instr.buildSlice, run_underlying ht, run_sizeOf _ he, newRow, range0, Instr.fill]

theorem ok_appz (hr : HRel c h) (hl : h.length ≤ c.N) {t t' : TypeId} {x y : Operand} (ho : o.op = .call { callee := .builtin .append, args := #[x, y], argTypes := #[t, t'] }) {e : Nat} {zero : List Dat} (hc : chkMk P t e zero = true) {k0 : IntKind} (ht' : P.underlying t' = some (.int k0))
    (hx : VRel c .nils (a.eval x)) {k : IntKind} {i : Int} (hy : VRel c (.d (.int k i)) (a.eval y)) (h0 : 0 ≤ i) (hlim : i ≤ LIM) {id : Nat} (hwp : wp ≤ id) (hid : getO h id = none) (hN : id < c.N → c.ρ id = .no) :
    if i = 0 then OpRes P o a c h h wp .nils else OpRes P o a c h (putO h id (.cells (flatC (List.replicate i.toNat zero)))) wp (.slr id 0 i.toNat e i.toNat) := by
  unfold chkMk at hc
  split at hc
  · rename_i el hu
    simp only [Bool.and_eq_true, beq_iff_eq] at hc
    obtain ⟨⟨hsz, hze⟩, hc⟩ := hc
    split at hc
    · rename_i ti hi
      simp only [Bool.and_eq_true, decide_eq_true_eq] at hc
      obtain ⟨hby, hc⟩ := hc
      split at hc
      · rename_i z hz
        have hes : ti.size = e := by unfold sz at hsz; rw [hi] at hsz; simpa using hsz
        obtain ⟨base, hxe⟩ := hx.inv_nils
        have hye := hy.inv_int
        unfold LIM at hlim
        have hwi : IntKind.i64.wrap i = i := by rw [IntKind.wrap_i64]; omega
        have n1 : ¬ i < 0 := by omega
        have hbb : (i.toNat) * ti.bytes ≤ 4294967296 * 32768 := Nat.mul_le_mul (by omega) hby
        have hbi : i * (ti.bytes : Int) = ((i.toNat * ti.bytes : Nat) : Int) := by rw [Int.natCast_mul, Int.toNat_of_nonneg h0]
        have n2 : ¬ (281474976710656 < i * (ti.bytes : Int)) := by omega
        by_cases hi0 : i = 0
        · subst hi0
          rw [if_pos rfl]
          refine .pure hr hl (v := .slice base 0 0) ?_ .nils
          rw [exec_call ho]
          have hw0 : IntKind.i64.wrap 0 = 0 := hwi
          cases base <;> simp [resolve, invoke, builtin, Builtin.append_, run_underlying hu, run_underlying ht', sizeOf, typeInfo, hi, hxe, hye, asInt, asIntOf, hw0, storeCells]
        · rw [if_neg hi0]
          obtain ⟨n, hn⟩ : ∃ n : Nat, i = n := ⟨i.toNat, by omega⟩
          subst hn
          have hpos : 0 < n := by omega
          simp only [Int.toNat_natCast] at *
          obtain ⟨z1, z2⟩ := zeros_rel hc c (n := n)
          have hzl : z.cells.size = e := by rw [← hze]; simpa using (chkVs_sound hc c).1
          have hfit : Builtin.nextslicecap (0 + n) 0 * ti.bytes ≤ 281474976710656 := growslice_fits (by omega) (by rw [Nat.zero_add]; omega)
          obtain ⟨G, hG⟩ : ∃ G, G = grownCap c.w (0 + n) 0 el := ⟨_, rfl⟩
          have hcge : n ≤ G := by rw [hG]; have := grownCap_ge (w := c.w) (need := 0 + n) (old := 0) (e := el) (by omega); omega
          have hp : Pushed c.w _ _ := .drew c.w (.cells (([] : List Value).toArray ++ Builtin.zeroCells z.cells n ++ Builtin.zeroCells z.cells (G - (0 + n))) el (0, 0))
          have hh := hr.new_box (wp := wp) hwp hid hN (cs := flatC (List.replicate n zero)) (arr := ([] : List Value).toArray ++ Builtin.zeroCells z.cells n ++ Builtin.zeroCells z.cells (G - (0 + n))) (T := el) (by
              rw [← z1]; simp) (fun j x v hx hv => by
              have hj : j < (Builtin.zeroCells z.cells n).size := by rw [z1]; exact (List.getElem?_eq_some_iff.1 hx).1
              rw [Array.getElem?_append_left (by simpa using hj)] at hv
              exact z2 j x v hx (by simpa using hv)) hp
          refine .of_put hl (c' := c.with id _ _ _) rfl (v := .slice (some ⟨c.w.heap.size, 0, none⟩) n G) ?_ (.slr (by show id < max c.N (id + 1); omega) (upd_same _ _ _) (Nat.le_refl _) hcge) hh
          rw [exec_call ho]
          have hn' : n ≠ 0 := by omega
          have h63' : ¬ (9223372036854775807 < (n : Int)) := by omega
          have h48' : ¬ (281474976710656 < Builtin.nextslicecap n 0 * ti.bytes) := by rw [Nat.zero_add] at hfit; omega
          have hG' : G = grownCap c.w n 0 el := by rw [Nat.zero_add] at hG; exact hG
          have hzc : n * e = 0 → Builtin.zeroCells z.cells n = #[] := fun h => by unfold Builtin.zeroCells; rw [hzl, h, range0]; simp
          have hfirst : (Builtin.firstCells e 0 (.slice base 0 0)).run P c.w.drew = .ok #[] c.w.drew := by cases base <;> simp [Builtin.firstCells, loadCells, loadCellsFrom]
          by_cases hne : n * e = 0
          · simp [resolve, invoke, builtin, Builtin.append_, run_underlying hu, run_underlying ht', sizeOf, typeInfo, zeroValue, hi, hz, hes, hxe, hye, asInt, asIntOf, hwi, n1, n2, hn', h63', h48', Question.forced, hfirst, newRow, hne, hzc hne, grownCap, hG']
          · simp [resolve, invoke, builtin, Builtin.append_, run_underlying hu, run_underlying ht', sizeOf, typeInfo, zeroValue, hi, hz, hes, hxe, hye, asInt, asIntOf, hwi, n1, n2, hn', h63', h48', Question.forced, hfirst, newRow, hne, grownCap, hG']
      · cases hc
    · cases hc
  · cases hc
end ops

def chkN (P : Program) (o : Oper) (k : NK) : Bool :=
  match o.op, k with
  | .call { callee := .builtin .append, args, argTypes }, .appb e x' y' => (match args.toList, argTypes.toList with | [x, y], [t, t'] => chkApp P t t' e && chkX x x' && chkX y y' | _, _ => false)
  | .call { callee := .builtin .append, args, argTypes }, .apps e x' y' => (match args.toList, argTypes.toList with | [x, y], [t, t'] => chkApp P t t' e && chkX x x' && chkX y y' | _, _ => false)
  | .slice t x none (some hi) none, .slw e x' hi' => (match P.underlying t with | some (.slice el) => (sz P el == some e) | _ => false) && chkX x x' && chkX hi hi'
  | .makeSlice t n m, .mks e zero x => chkMk P t e zero && chkX n x && chkX m x
  | .call { callee := .builtin .cap, args, argTypes }, .capn x' => (match args.toList, argTypes.toList with | [x], [t] => (match P.underlying t with | some (.slice _) => true | _ => false) && chkX x x' | _, _ => false)
  | .call { callee := .builtin .clear, args, argTypes }, .clr e zero x' => (match args.toList, argTypes.toList with | [x], [t] => chkMk P t e zero && chkX x x' | _, _ => false)
  | .binOp op t x y _, .nlc neg x' => decide (op = if neg then .neq else .eql) && slNil P t y && chkX x x'
  | .buildSlice t 0 ps, .emp0 e => ps.toList.isEmpty && (match P.underlying t with | some (.slice el) => sz P el == some e | _ => false)
  | .call { callee := .builtin .append, args, argTypes }, .appz e zero x' n' => (match args.toList, argTypes.toList with | [x, y], [t, t'] => chkMk P t e zero && (match P.underlying t' with | some (.int _) => true | _ => false) && chkX x x' && chkX y n' | _, _ => false)
  | _, _ => false

section
variable {P : Program} {o : Oper} {a : Act} {c : Cx} {h : Heap} {wp : Nat} {env : Env}
theorem arr2N {α : Type} {xs : Array α} {a b : α} (h : xs.toList = [a, b]) : xs = #[a, b] := by
  apply Array.ext'; simpa using h
theorem arr1N {α : Type} {xs : Array α} {a : α} (h : xs.toList = [a]) : xs = #[a] := by
  apply Array.ext'; simpa using h

theorem stepN_sound {k : NK} (hk : chkN P o k = true) (hr : HRel c h) (hl : h.length ≤ c.N) (he : EnvRel c env a.tmps) {hh : Heap} (hsub : ∀ l cs, getO hh l = some (.cells cs) → getO h l = some (.cells cs))
    {id : Nat} (hwp : wp ≤ id) (hid : getO h id = none) (hN : id < c.N → c.ρ id = .no) {x : AV} {h' : Heap} (hs : stepN env hh h id wp k = some (x, h')) : OpRes P o a c h h' wp x := by
  unfold chkN at hk
  split at hk
  · rename_i args ts e x' y' ho
    split at hk
    · rename_i p q t t' hx ht
      simp only [Bool.and_eq_true] at hk
      rw [arr2N hx, arr2N ht] at ho
      simp only [stepN] at hs
      split at hs
      · rename_i yv hv hw
        split at hs
        · rename_i r hrr
          obtain ⟨news, hnews⟩ := rows_sound hr hsub (chkX_sound hk.2 he hw) hrr
          split at hs
          · rename_i hlim
            have key := ok_appb (ty := 0) hr hl ho hk.1.1 (chkX_sound hk.1.2 he hv) hnews hlim hwp hid hN
            split at hs
            · rename_i hne
              cases hs
              rw [if_pos (by simpa using hne)] at key; exact key
            · rename_i hne
              cases hs
              rw [if_neg (by simpa using hne)] at key; exact key
          · cases hs
        · cases hs
      · cases hs
    · cases hk
  · rename_i args ts e x' y' ho
    split at hk
    · rename_i p q t t' hx ht
      simp only [Bool.and_eq_true] at hk
      rw [arr2N hx, arr2N ht] at ho
      simp only [stepN] at hs
      split at hs
      · rename_i xv yv hv hw
        split at hs
        · rename_i r hrr
          obtain ⟨news, hnews⟩ := rows_sound hr hsub (chkX_sound hk.2 he hw) hrr
          split at hs
          · split at hs
            · rename_i hne
              cases hs
              have : r = [] := by simpa using hne
              subst this
              exact ok_apps_nil hr hl ho hk.1.1 (chkX_sound hk.1.2 he hv) hnews
            · cases hs
          · split at hs
            · rename_i cs hg
              split at hs
              · rename_i hcond
                cases hs
                obtain ⟨rfl, q1, q2, q3⟩ := hcond
                exact ok_apps hr hl ho hk.1.1 (chkX_sound hk.1.2 he hv) hnews hg q1 q2 q3
              · cases hs
            · cases hs
          · cases hs
        · cases hs
      · cases hs
    · cases hk
  · rename_i t y hi e x' hi' ho
    simp only [Bool.and_eq_true] at hk
    obtain ⟨⟨hk1, hk2⟩, hk3⟩ := hk
    split at hk1
    · rename_i el hu
      simp only [beq_iff_eq] at hk1
      simp only [stepN] at hs
      split at hs
      · rename_i l off n e' m k i hv hw
        split at hs
        · rename_i hcond
          cases hs
          obtain ⟨rfl, q1, q2⟩ := hcond
          exact ok_slw hr hl ho hu hk1 (chkX_sound hk2 he hv) (chkX_sound hk3 he hw) q1 q2
        · cases hs
      · cases hs
    · cases hk1
  · rename_i t n m e zero y ho
    simp only [Bool.and_eq_true] at hk
    simp only [stepN] at hs
    split at hs
    · rename_i k i hv
      split at hs
      · rename_i hcond
        cases hs
        exact ok_mks hr hl ho hk.1.1 (chkX_sound hk.1.2 he hv) (chkX_sound hk.2 he hv) hcond.1 hcond.2.1 hwp hid hN
      · cases hs
    · cases hs
  · rename_i args ts x' ho
    split at hk
    · rename_i p t hx ht
      simp only [Bool.and_eq_true] at hk
      rw [arr1N hx, arr1N ht] at ho
      obtain ⟨hk1, hk2⟩ := hk
      split at hk1
      · rename_i el hu
        simp only [stepN] at hs
        split at hs
        · rename_i hv
          cases hs
          exact ok_cap_nils hr hl ho hu (chkX_sound hk2 he hv)
        · cases hs
      · cases hk1
    · cases hk
  · rename_i args ts e zero x' ho
    split at hk
    · rename_i p t hx ht
      simp only [Bool.and_eq_true] at hk
      rw [arr1N hx, arr1N ht] at ho
      simp only [stepN] at hs
      split at hs
      · rename_i l off n e' m hv
        split at hs
        · rename_i cs hg
          split at hs
          · rename_i hcond
            cases hs
            obtain ⟨rfl, q1, q2, q3⟩ := hcond
            exact ok_clr hr hl ho hk.1 (chkX_sound hk.2 he hv) hg q1 q3
          · cases hs
        · cases hs
      · rename_i hv
        cases hs
        obtain ⟨base, cap, hve⟩ := (chkX_sound hk.2 he hv).inv_sl.slice_len
        exact ok_clr_nil hr hl ho hk.1 hve
      · rename_i hv
        cases hs
        obtain ⟨base, hve⟩ := (chkX_sound hk.2 he hv).inv_nils
        exact ok_clr_nil hr hl ho hk.1 hve
      · cases hs
    · cases hk
  · rename_i op t x y u neg x' ho
    simp only [Bool.and_eq_true, decide_eq_true_eq] at hk
    obtain ⟨⟨rfl, hk1⟩, hk2⟩ := hk
    simp only [stepN] at hs
    split at hs
    · rename_i b hv
      cases hs
      obtain ⟨q, cap, hve, rfl⟩ := (chkX_sound hk2 he hv).inv_emp
      exact ok_nlc hr hl ho hk1 hve
    · rename_i r rs hv
      cases hs
      rcases (chkX_sound hk2 he hv).inv_sl.inv_sl with ⟨h1, _⟩ | ⟨b, off, e, cap, vals, hve, _⟩
      · cases h1
      · exact ok_nlc hr hl ho hk1 hve
    · rename_i r rs tk hv
      cases hs
      rcases (chkX_sound hk2 he hv).inv_ws.1.inv_sl with ⟨h1, _⟩ | ⟨b, off, e, cap, vals, hve, _⟩
      · cases h1
      · exact ok_nlc hr hl ho hk1 hve
    · rename_i l off n e m hv
      cases hs
      obtain ⟨b, cap, hve, _⟩ := (chkX_sound hk2 he hv).inv_slr
      exact ok_nlc hr hl ho hk1 hve
    · cases hs
  · rename_i t ps e ho
    simp only [Bool.and_eq_true] at hk
    obtain ⟨hk1, hk2⟩ := hk
    have hps : ps = #[] := by apply Array.ext'; simpa using hk1
    subst hps
    split at hk2
    · rename_i el hu
      simp only [beq_iff_eq] at hk2
      simp only [stepN, Option.some.injEq, Prod.mk.injEq] at hs
      obtain ⟨rfl, rfl⟩ := hs
      exact ok_emp0 hr hl ho hu hk2 hwp hid hN
    · cases hk2
  · rename_i args ts e zero x' n' ho
    split at hk
    · rename_i p q t t' hx ht
      simp only [Bool.and_eq_true] at hk
      rw [arr2N hx, arr2N ht] at ho
      obtain ⟨⟨⟨hk1, hk2⟩, hk3⟩, hk4⟩ := hk
      split at hk2
      · rename_i k0 hu
        simp only [stepN] at hs
        split at hs
        · rename_i k i hv hw
          split at hs
          · rename_i hcond
            have key := ok_appz hr hl ho hk1 hu (chkX_sound hk3 he hv) (chkX_sound hk4 he hw) hcond.1 hcond.2.1 hwp hid hN
            split at hs
            · rename_i hi0
              cases hs
              rw [if_pos hi0] at key; exact key
            · rename_i hi0
              cases hs
              rw [if_neg hi0] at key; exact key
          · cases hs
        · cases hs
      · cases hk2
    · cases hk
  · cases hk
end
end Go.Proofs.YtfifgiopdbdeoaaDoor.Lite
