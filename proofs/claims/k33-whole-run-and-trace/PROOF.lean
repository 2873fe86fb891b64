import PyProof.Rows.All
import Wide.All
import OpenK.AllK
import Wide.FinOn
import PyProof.EqAt
import PyProof.EqKinds
import PyProof.TupleCall
import KE.KStateDown
import HandS.ForMost
import HandS.Exc
import HandS.TryOnly
import HandS.TryMany
import HandS.ExcOwn
import HandS.ExcCtx
import HandS.Hot
import HandS.HotCalls
import HandS.SuiteRaise
import HandS.RaiseFrom
import HandS.ExcInit
import HandS.ExcInitHot
import HandS.ExcField
import HandS.WordsExc
import HandS.Defaults
import HandS.CallSlots
import HandS.CallLocal
import HandS.Property
import HandS.IsInst
import HandS.WrittenGet
import HandS.Conv
import HandS.Flow
import HandS.Codes
import HandS.Zip
import HandS.Wide
import HandS.Head0
import HandS.Head1
import HandS.Head2
import HandS.HeadEnd
import HandS.HeadHook1
import HandS.HeadHook2
import HandS.HeadHook3
import KE.GoesZip
import KE.GoesMore
import Wide.Once
import PySem.Challenge.RW_windowada_k33_whole_run_and_trace
set_option linter.all false
/-! ## WMirror -/
/-! The machine of both sides, in plain Lean. -/
set_option linter.all false
namespace Wn
/-- an operand -/
inductive Op where
  | reg (i : Nat) | int (w : Int)
/-- the six operators -/
inductive Ar where
  | add | sub | mul | div | mod | rem
inductive Ins where
  | tick | put (x : Op) | jump (t : Nat) | branch (x : Op) (t : Nat)
  | raise (n p : Nat) | again (x y : Op) | get (d p : Nat) | check (x : Op) (lo hi : Int) (p : Nat)
  | load (d h c n : Nat) (x : Op) | store (h c n : Nat) (x y : Op)
  | call (u h : Nat) (as : List Op) (rs : List Nat) (p : Nat) | ret (vs : List Op)
  | move (d : Nat) (x : Op) | neg (d : Nat) (x : Op) (p : Nat) | abs (d : Nat) (x : Op) (p : Nat)
  | less (d : Nat) (x y : Op) | equal (d : Nat) (x y : Op) | ar (a : Ar) (d : Nat) (x y : Op) (p : Nat)
structure Rg where
  start : Nat
  stop : Nat
  entry : Nat
  r1 : Nat
  r2 : Nat
structure Un where
  parent : Int
  na : Nat
  nr : Nat
  regs : Nat
  cells : Nat
  code : List Ins
  rgs : List Rg
abbrev Mod := List Un
/-- the state that all activations share: fuel, inputs taken, events (put | get), what was seen, the cells by depth -/
structure G where
  fuel : Nat
  taken : Nat
  evs : List (Bool × Int)
  seen : List (Nat × Nat × List Int)
  cs : List (List Int)
inductive Out where
  | ret (ws : List Int) | exc (n p : Nat) | exh | fault
def wordB (i : Int) : Bool := decide (-2147483648 ≤ i) && decide (i ≤ 2147483647)
def Word (i : Int) : Prop := -2147483648 ≤ i ∧ i ≤ 2147483647
theorem wordB_iff {i : Int} : wordB i = true ↔ Word i := by simp [wordB, Word]
def val (rs : List Int) : Op → Int
  | .reg i => rs.getD i 0
  | .int w => w
/-- the exact value of an operator; none: a division by nought -/
def exact (a : Ar) (x y : Int) : Option Int := match a with
  | .add => some (x + y)
  | .sub => some (x - y)
  | .mul => some (x * y)
  | .div => if y = 0 then none else some (x.tdiv y)
  | .mod => if y = 0 then none else some (x.fmod y)
  | .rem => if y = 0 then none else some (x.tmod y)
/-- what an instruction computes: where to, the value (none: no word), the place -/
def comp (rs : List Int) : Ins → Option (Nat × Option Int × Nat)
  | .move d x => some (d, some (val rs x), 0)
  | .neg d x p => some (d, some (-(val rs x)), p)
  | .abs d x p => some (d, some ((val rs x).natAbs : Int), p)
  | .less d x y => some (d, some (if val rs x < val rs y then 1 else 0), 0)
  | .equal d x y => some (d, some (if val rs x = val rs y then 1 else 0), 0)
  | .ar a d x y p => some (d, exact a (val rs x) (val rs y), p)
  | _ => none
/-- behind one instruction that is no call and no return -/
inductive Nx where
  | go (i : Nat) (g : G) (rs : List Int) | exc (n p : Nat) (g : G) (rs : List Int) | exh (g : G) (rs : List Int) | fault (g : G) (rs : List Int)
/-- the law's constants of a run -/
structure Env where
  m : Mod
  ins : List Int
def step1 (e : Env) (ch : List Nat) (i : Nat) (g : G) (rs : List Int) : Ins → Nx
  | .tick => if g.fuel = 0 then .exh g rs else .go (i + 1) { g with fuel := g.fuel - 1 } rs
  | .put x => .go (i + 1) { g with evs := g.evs ++ [(true, val rs x)] } rs
  | .jump t => .go t g rs
  | .branch x t => .go (if val rs x ≠ 0 then t else i + 1) g rs
  | .raise n p => .exc n p g rs
  | .again x y => if 0 ≤ val rs x ∧ val rs x < 5 ∧ 0 ≤ val rs y ∧ val rs y < 5 then .exc (val rs x).toNat (val rs y).toNat g rs else .fault g rs
  | .get d p => match e.ins[g.taken]? with
    | none => .exc 3 p g rs
    | some w => .go (i + 1) { g with taken := g.taken + 1, evs := g.evs ++ [(false, w)] } (rs.set d w)
  | .check x lo hi p => if lo ≤ val rs x ∧ val rs x ≤ hi then .go (i + 1) g rs else .exc 0 p g rs
  | .load d h c n x => if 0 ≤ val rs x ∧ val rs x < n then .go (i + 1) g (rs.set d ((g.cs.getD (ch.getD h 0) []).getD (c + (val rs x).toNat) 0)) else .fault g rs
  | .store h c n x y => if 0 ≤ val rs x ∧ val rs x < n then .go (i + 1) { g with cs := g.cs.set (ch.getD h 0) ((g.cs.getD (ch.getD h 0) []).set (c + (val rs x).toNat) (val rs y)) } rs else .fault g rs
  | ins => match comp rs ins with
    | some (d, some w, p) => if wordB w = true then .go (i + 1) g (rs.set d w) else .exc 0 p g rs
    | some (_, none, p) => .exc 0 p g rs
    | none => .fault g rs
def region (u : Un) (i : Nat) : Option Rg := u.rgs.find? fun r => decide (r.start ≤ i) && decide (i < r.stop)
def setAll : List Int → List Nat → List Int → List Int
  | rs, d :: ds, w :: ws => setAll (rs.set d w) ds ws
  | rs, _, _ => rs
def note (g : G) (u i : Nat) (rs : List Int) : G := { g with seen := g.seen ++ [(u, i, rs)] }
def push (g : G) (n : Nat) : G := { g with cs := g.cs ++ [List.replicate n 0] }
def pop (g : G) : G := { g with cs := g.cs.dropLast }
/-- behind a call: what the callee's end means for the caller at index i -/
def back (i : Nat) (rs : List Int) (ds : List Nat) : Out × G → Nx
  | (.ret ws, g) => .go (i + 1) (pop g) (setAll rs ds ws)
  | (.exc k p, g) => .exc k p (pop g) rs
  | (.exh, g) => .exh g rs
  | (.fault, g) => .fault g rs
/-- an activation from an index on; ch: the depths of the activations that its static links name, its own first -/
def run (e : Env) : Nat → Nat → List Nat → Nat → G → List Int → Option (Out × G)
  | 0, _, _, _, _, _ => none
  | n + 1, u, ch, i, g, rs => match e.m[u]? with
    | none => none
    | some U => match U.code[i]? with
      | none => none
      | some (.ret vs) => some (.ret (vs.map (val rs)), note g u i rs)
      | some ins => match (match ins with
          | .call u' h as ds p => if g.cs.length = 10 then some (.exc 2 p (note g u i rs) rs) else match e.m[u']? with
            | none => none
            | some U' => (run e n u' (g.cs.length :: ch.drop h) 0 (push (note g u i rs) U'.cells) (as.map (val rs) ++ List.replicate (U'.regs - as.length) 0)).map (back i rs ds)
          | ins => some (step1 e ch i (note g u i rs) rs ins) : Option Nx) with
        | none => none
        | some (.go i' g' rs') => run e n u ch i' g' rs'
        | some (.exc k p g' rs') => match region U i with
          | none => some (.exc k p, g')
          | some r => run e n u ch r.entry g' ((rs'.set r.r1 k).set r.r2 p)
        | some (.exh g' _) => some (.exh, g')
        | some (.fault g' _) => some (.fault, g')
/-- the same, one instruction at a time -/
def one (e : Env) (n u : Nat) (ch : List Nat) (i : Nat) (g : G) (rs : List Int) : Ins → Option Nx
  | .call u' h as ds p => if g.cs.length = 10 then some (.exc 2 p (note g u i rs) rs) else match e.m[u']? with
    | none => none
    | some U' => (run e n u' (g.cs.length :: ch.drop h) 0 (push (note g u i rs) U'.cells) (as.map (val rs) ++ List.replicate (U'.regs - as.length) 0)).map (back i rs ds)
  | ins => some (step1 e ch i (note g u i rs) rs ins)
/-- what follows -/
def thenX (e : Env) (n u : Nat) (ch : List Nat) (i : Nat) (U : Un) : Option Nx → Option (Out × G)
  | none => none
  | some (.go i' g' rs') => run e n u ch i' g' rs'
  | some (.exc k p g' rs') => match region U i with
    | none => some (.exc k p, g')
    | some r => run e n u ch r.entry g' ((rs'.set r.r1 k).set r.r2 p)
  | some (.exh g' _) => some (.exh, g')
  | some (.fault g' _) => some (.fault, g')
theorem run_ret {e : Env} {n u i : Nat} {ch : List Nat} {g : G} {rs : List Int} {U : Un} {vs : List Op} (hU : e.m[u]? = some U) (hi : U.code[i]? = some (.ret vs)) :
    run e (n + 1) u ch i g rs = some (.ret (vs.map (val rs)), note g u i rs) := by
  rw [run, hU]
  simp only [hi]
theorem run_one {e : Env} {n u i : Nat} {ch : List Nat} {g : G} {rs : List Int} {U : Un} {ins : Ins} (hU : e.m[u]? = some U) (hi : U.code[i]? = some ins) (hr : ∀ vs, ins ≠ .ret vs) :
    run e (n + 1) u ch i g rs = thenX e n u ch i U (one e n u ch i g rs ins) := by
  rw [run, hU]
  simp only [hi]
  cases ins with
  | ret vs => exact absurd rfl (hr vs)
  | call u' h as ds p => simp only [one]; rfl
  | _ => rfl
end Wn
/-! ## WMirror2 -/
set_option linter.all false
namespace Wn
def OpOk (n : Nat) : Op → Prop
  | .reg i => i < n
  | .int w => Word w
/-- the unit that stands h units around -/
def anc (m : Mod) : Nat → Nat → Option Nat
  | u, 0 => some u
  | u, h + 1 => match m[u]? with
    | none => none
    | some U => if U.parent < 0 then none else anc m U.parent.toNat h
def CellsOk (m : Mod) (u h c n : Nat) : Prop := ∃ u' U', anc m u h = some u' ∧ m[u']? = some U' ∧ c + n ≤ U'.cells
def TgtOk (U : Un) (i t : Nat) : Prop := t < U.code.length ∧ (i < t ∨ U.code[t]? = some .tick)
def InsOk (m : Mod) (u : Nat) (U : Un) (i : Nat) : Ins → Prop
  | .tick => True
  | .put x => OpOk U.regs x
  | .jump t => TgtOk U i t
  | .branch x t => OpOk U.regs x ∧ TgtOk U i t
  | .raise k p => k < 5 ∧ p < 5
  | .again x y => OpOk U.regs x ∧ OpOk U.regs y
  | .get d p => d < U.regs ∧ p < 5
  | .check x _ _ p => OpOk U.regs x ∧ p < 5
  | .load d h c n x => d < U.regs ∧ OpOk U.regs x ∧ CellsOk m u h c n
  | .store h c n x y => OpOk U.regs x ∧ OpOk U.regs y ∧ CellsOk m u h c n
  | .call u' h as ds p => (∃ U', m[u']? = some U' ∧ 0 ≤ U'.parent ∧ anc m u h = some U'.parent.toNat ∧ as.length = U'.na ∧ ds.length = U'.nr) ∧ (∀ x ∈ as, OpOk U.regs x) ∧ (∀ d ∈ ds, d < U.regs) ∧ p < 5
  | .ret vs => vs.length = U.nr ∧ ∀ x ∈ vs, OpOk U.regs x
  | .move d x => d < U.regs ∧ OpOk U.regs x
  | .neg d x p => d < U.regs ∧ OpOk U.regs x ∧ p < 5
  | .abs d x p => d < U.regs ∧ OpOk U.regs x ∧ p < 5
  | .less d x y => d < U.regs ∧ OpOk U.regs x ∧ OpOk U.regs y
  | .equal d x y => d < U.regs ∧ OpOk U.regs x ∧ OpOk U.regs y
  | .ar _ d x y p => d < U.regs ∧ OpOk U.regs x ∧ OpOk U.regs y ∧ p < 5
structure RgOk (U : Un) (r : Rg) : Prop where
  le : r.stop ≤ r.entry
  lt : r.entry < U.code.length
  r1 : r.r1 < U.regs
  r2 : r.r2 < U.regs
structure UnOk (m : Mod) (u : Nat) (U : Un) : Prop where
  tick : U.code[0]? = some .tick
  len : U.code.length ≤ 100
  ins : ∀ i x, U.code[i]? = some x → InsOk m u U i x
  last : ∀ i x, U.code[i]? = some x → i + 1 < U.code.length ∨ ∃ vs, x = .ret vs
  na : U.na ≤ U.regs
  nr : U.nr ≤ 100
  regs : U.regs ≤ 100
  cells : U.cells ≤ 100
  rgs : ∀ r ∈ U.rgs, RgOk U r
structure ModOk (m : Mod) : Prop where
  un : ∀ u U, m[u]? = some U → UnOk m u U
  main : ∃ U, m[0]? = some U ∧ U.parent < 0
structure EnvOk (e : Env) : Prop where
  m : ModOk e.m
  ins : ∀ w ∈ e.ins, Word w
/-- the depths ch are those of u and the units around it; sh: how many cells there are at each depth -/
def ChOk (m : Mod) (sh : List Nat) : Nat → List Nat → Prop
  | _, [] => False
  | u, i :: r => ∃ U, m[u]? = some U ∧ sh[i]? = some U.cells ∧ (if U.parent < 0 then r = [] else ChOk m sh U.parent.toNat r)
def Words (l : List Int) : Prop := ∀ w ∈ l, Word w
def sh (g : G) : List Nat := g.cs.map List.length
structure StOk (e : Env) (u : Nat) (ch : List Nat) (g : G) (rs : List Int) : Prop where
  regs : ∃ U, e.m[u]? = some U ∧ rs.length = U.regs
  rw : Words rs
  cw : ∀ c ∈ g.cs, Words c
  ch : ChOk e.m (sh g) u ch
  dp : g.cs.length ≤ 10

theorem word0 : Word 0 := ⟨by decide, by decide⟩
theorem word1 : Word 1 := ⟨by decide, by decide⟩
theorem words_rep (n : Nat) : Words (List.replicate n 0) := fun w h => by rw [(List.mem_replicate.mp h).2]; exact word0
theorem words_getD {l : List Int} (h : Words l) (i : Nat) : Word (l.getD i 0) := by
  rw [List.getD_eq_getElem?_getD]
  cases e : l[i]? with
  | none => exact word0
  | some w => exact h w (List.mem_of_getElem? e)
theorem words_set {l : List Int} (h : Words l) (i : Nat) {w : Int} (hw : Word w) : Words (l.set i w) := fun x hx => by
  rcases List.mem_or_eq_of_mem_set hx with z | z
  · exact h x z
  · rw [z]; exact hw
theorem words_app {l r : List Int} (h : Words l) (q : Words r) : Words (l ++ r) := fun x hx => by
  rcases List.mem_append.mp hx with z | z
  · exact h x z
  · exact q x z
theorem val_word {rs : List Int} (h : Words rs) {n : Nat} {x : Op} (q : OpOk n x) : Word (val rs x) := by
  cases x with
  | reg i => exact words_getD h i
  | int w => exact q
theorem words_vals {rs : List Int} (h : Words rs) {n : Nat} {xs : List Op} (q : ∀ x ∈ xs, OpOk n x) : Words (xs.map (val rs)) := fun w hw => by
  obtain ⟨x, hx, rfl⟩ := List.mem_map.mp hw
  exact val_word h (q x hx)
theorem setAll_len : ∀ (rs : List Int) (ds : List Nat) (ws : List Int), (setAll rs ds ws).length = rs.length
  | rs, [], _ => by cases rs <;> simp [setAll]
  | rs, d :: ds, [] => by simp [setAll]
  | rs, d :: ds, w :: ws => by simp [setAll, setAll_len]
theorem setAll_words : ∀ (rs : List Int) (ds : List Nat) (ws : List Int), Words rs → Words ws → Words (setAll rs ds ws)
  | rs, [], _, h, _ => by simpa [setAll] using h
  | rs, d :: ds, [], h, _ => by simpa [setAll] using h
  | rs, d :: ds, w :: ws, h, q => by
    rw [setAll]
    exact setAll_words _ ds ws (words_set h d (q w (List.mem_cons_self ..))) fun x hx => q x (List.mem_cons_of_mem _ hx)

/-! ### chains -/
theorem ch_drop {m : Mod} {s : List Nat} : ∀ {h u u' : Nat} {ch : List Nat}, ChOk m s u ch → anc m u h = some u' → ChOk m s u' (ch.drop h)
  | 0, u, u', ch, c, a => by
    rw [anc] at a
    cases a
    simpa using c
  | h + 1, u, u', [], c, a => c.elim
  | h + 1, u, u', i :: r, c, a => by
    obtain ⟨U, hU, _, c⟩ := c
    rw [anc, hU] at a
    dsimp only at a
    split at a
    · cases a
    · rename_i hp
      rw [if_neg hp] at c
      rw [List.drop_succ_cons]
      exact ch_drop c a
theorem ch_head {m : Mod} {s : List Nat} {u : Nat} {ch : List Nat} (c : ChOk m s u ch) : ∃ i r U, ch = i :: r ∧ m[u]? = some U ∧ s[i]? = some U.cells := by
  cases ch with
  | nil => exact c.elim
  | cons i r =>
    obtain ⟨U, hU, hs, _⟩ := c
    exact ⟨i, r, U, rfl, hU, hs⟩
theorem ch_at {m : Mod} {s : List Nat} {u u' h : Nat} {ch : List Nat} (c : ChOk m s u ch) (a : anc m u h = some u') : ∃ i U, ch[h]? = some i ∧ ch.getD h 0 = i ∧ m[u']? = some U ∧ s[i]? = some U.cells := by
  obtain ⟨i, r, U, e, hU, hs⟩ := ch_head (ch_drop c a)
  have e2 : ch[h]? = some i := by
    have := congrArg (fun l => l[0]?) e
    simpa using this
  refine ⟨i, U, e2, ?_, hU, hs⟩
  rw [List.getD_eq_getElem?_getD, e2]
  rfl
theorem ch_more {m : Mod} {s : List Nat} (t : List Nat) : ∀ {ch : List Nat} {u : Nat}, ChOk m s u ch → ChOk m (s ++ t) u ch
  | [], _, c => c.elim
  | i :: r, u, c => by
    obtain ⟨U, hU, hs, c⟩ := c
    refine ⟨U, hU, ?_, ?_⟩
    · rw [List.getElem?_append_left (List.getElem?_eq_some_iff.mp hs).1]
      exact hs
    · split
      · rename_i hp
        rw [if_pos hp] at c
        exact c
      · rename_i hp
        rw [if_neg hp] at c
        exact ch_more t c
/-- the callee's chain -/
theorem ch_callee {m : Mod} {s : List Nat} {u u' h : Nat} {ch : List Nat} {U' : Un} (c : ChOk m s u ch) (hU : m[u']? = some U') (hp : 0 ≤ U'.parent) (a : anc m u h = some U'.parent.toNat) : ChOk m (s ++ [U'.cells]) u' (s.length :: ch.drop h) := by
  refine ⟨U', hU, by simp, ?_⟩
  rw [if_neg (by omega)]
  exact ch_more _ (ch_drop c a)

/-! ### one step -/
theorem sh_len {g : G} : (sh g).length = g.cs.length := List.length_map _
theorem sh_at {g : G} {i k : Nat} (h : (sh g)[i]? = some k) : ∃ c, g.cs[i]? = some c ∧ c.length = k ∧ g.cs.getD i [] = c := by
  unfold sh at h
  rw [List.getElem?_map] at h
  cases e : g.cs[i]? with
  | none => rw [e] at h; cases h
  | some c =>
    rw [e] at h
    refine ⟨c, rfl, by simpa using h, ?_⟩
    rw [List.getD_eq_getElem?_getD, e]
    rfl
theorem exact_of {a : Ar} {x y w : Int} (h : exact a x y = some w) : True := trivial
theorem comp_ok {e : Env} {u i : Nat} {U : Un} {rs : List Int} {ins : Ins} {d p : Nat} {w : Option Int} (h : comp rs ins = some (d, w, p)) (q : InsOk e.m u U i ins) : d < U.regs ∧ p < 5 := by
  cases ins <;> simp only [comp, reduceCtorEq, Option.some.injEq, Prod.mk.injEq] at h <;> obtain ⟨h1, -, h3⟩ := h <;> subst h1 <;> subst h3
  · exact ⟨q.1, by decide⟩
  · exact ⟨q.1, q.2.2⟩
  · exact ⟨q.1, q.2.2⟩
  · exact ⟨q.1, by decide⟩
  · exact ⟨q.1, by decide⟩
  · exact ⟨q.1, q.2.2.2⟩
/-- what an activation keeps -/
structure Keeps (e : Env) (u : Nat) (ch : List Nat) (g g' : G) (rs' : List Int) : Prop where
  st : StOk e u ch g' rs'
  sh : sh g' = sh g
  fuel : g'.fuel ≤ g.fuel
theorem StOk.like {e : Env} {u : Nat} {ch : List Nat} {g g' : G} {rs rs' : List Int} (S : StOk e u ch g rs) (hc : g'.cs = g.cs) (hl : rs'.length = rs.length) (hw : Words rs') : StOk e u ch g' rs' := by
  obtain ⟨⟨U, h1, h2⟩, _, h4, h5, h6⟩ := S
  refine ⟨⟨U, h1, hl.trans h2⟩, hw, by rw [hc]; exact h4, ?_, by rw [hc]; exact h6⟩
  unfold sh at h5 ⊢
  rw [hc]
  exact h5
theorem keeps_same {e : Env} {u : Nat} {ch : List Nat} {g g' : G} {rs rs' : List Int} (S : StOk e u ch g rs) (hc : g'.cs = g.cs) (hf : g'.fuel ≤ g.fuel) (hl : rs'.length = rs.length) (hw : Words rs') : Keeps e u ch g g' rs' :=
  ⟨S.like hc hl hw, by unfold sh; rw [hc], hf⟩
def isTick : Option Ins → Bool
  | some .tick => true
  | _ => false
/-- what is left to do at an index with that fuel -/
def mu (U : Un) (f i : Nat) : Nat := 256 * f + (if isTick U.code[i]? = true then 0 else 1 + (128 - i))
theorem isTick_iff {o : Option Ins} : isTick o = true ↔ o = some .tick := by
  cases o with
  | none => simp [isTick]
  | some x => cases x <;> simp [isTick]
theorem mu_fwd {U : Un} {f f' i i' : Nat} (hl : U.code.length ≤ 100) (hi : U.code[i]? ≠ some .tick) (hi' : i' < U.code.length) (h : i < i' ∨ U.code[i']? = some .tick) (hf : f' ≤ f) : mu U f' i' < mu U f i := by
  unfold mu
  rw [if_neg (show ¬ isTick U.code[i]? = true from fun z => hi (isTick_iff.mp z))]
  split
  · omega
  · rename_i z
    rcases h with h | h
    · omega
    · exact absurd (isTick_iff.mpr h) z
theorem mu_tick {U : Un} {f i i' : Nat} (hi : U.code[i]? = some .tick) (hf : f ≠ 0) : mu U (f - 1) i' < mu U f i := by
  unfold mu
  rw [if_pos (isTick_iff.mpr hi)]
  split <;> omega
def NxOk (e : Env) (u : Nat) (ch : List Nat) (U : Un) (i : Nat) (g : G) : Nx → Prop
  | .go i' g' rs' => Keeps e u ch g g' rs' ∧ i' < U.code.length ∧ mu U g'.fuel i' < mu U g.fuel i
  | .exc k p g' rs' => Keeps e u ch g g' rs' ∧ k < 5 ∧ p < 5 ∧ U.code[i]? ≠ some .tick
  | .exh _ _ => True
  | .fault _ _ => True
theorem step1_ok {e : Env} {u i : Nat} {ch : List Nat} {g : G} {rs : List Int} {U : Un} {ins : Ins} (E : EnvOk e) (S : StOk e u ch g rs) (hU : e.m[u]? = some U) (hi : U.code[i]? = some ins) (hr : ∀ vs, ins ≠ .ret vs) (hc : ∀ a b c d f, ins ≠ .call a b c d f) :
    NxOk e u ch U i g (step1 e ch i g rs ins) := by
  have UO := E.m.un u U hU
  have IO := UO.ins i ins hi
  have nx : i + 1 < U.code.length := by
    rcases UO.last i ins hi with z | ⟨vs, z⟩
    · exact z
    · exact absurd z (hr vs)
  have L := UO.len
  have same : Keeps e u ch g g rs := keeps_same S rfl (Nat.le_refl _) rfl S.rw
  have ml : ∀ d w, (rs.set d w).length = rs.length := fun d w => List.length_set ..
  have cmp : (∀ d w p, comp rs ins = some (d, w, p) → NxOk e u ch U i g (match (some (d, w, p) : Option (Nat × Option Int × Nat)) with
      | some (d, some w, p) => if wordB w = true then .go (i + 1) g (rs.set d w) else .exc 0 p g rs
      | some (_, none, p) => .exc 0 p g rs
      | none => .fault g rs)) := fun d w p h => by
    obtain ⟨hd, hp⟩ := comp_ok h IO
    have nt : U.code[i]? ≠ some .tick := fun z => by
      rw [hi] at z
      cases z
      simp [comp] at h
    cases w with
    | none => exact ⟨same, by decide, hp, nt⟩
    | some w =>
      dsimp only
      split
      · rename_i hw
        exact ⟨keeps_same S rfl (Nat.le_refl _) (ml d w) (words_set S.rw d (wordB_iff.mp hw)), nx, mu_fwd L nt nx (.inl (Nat.lt_succ_self i)) (Nat.le_refl _)⟩
      · exact ⟨same, by decide, hp, nt⟩
  have nt : ins ≠ .tick → U.code[i]? ≠ some .tick := fun h z => h (by rw [hi] at z; exact Option.some.inj z)
  cases ins with
  | tick =>
    simp only [step1]
    split
    · trivial
    · rename_i hf
      exact ⟨keeps_same S rfl (Nat.sub_le _ _) rfl S.rw, nx, mu_tick hi hf⟩
  | put x => exact ⟨keeps_same S rfl (Nat.le_refl _) rfl S.rw, nx, mu_fwd L (nt (by simp)) nx (.inl (Nat.lt_succ_self i)) (Nat.le_refl _)⟩
  | jump t => exact ⟨same, IO.1, mu_fwd L (nt (by simp)) IO.1 IO.2 (Nat.le_refl _)⟩
  | branch x t =>
    simp only [step1]
    split
    · exact ⟨same, IO.2.1, mu_fwd L (nt (by simp)) IO.2.1 IO.2.2 (Nat.le_refl _)⟩
    · exact ⟨same, nx, mu_fwd L (nt (by simp)) nx (.inl (Nat.lt_succ_self i)) (Nat.le_refl _)⟩
  | raise k p => exact ⟨same, IO.1, IO.2, nt (by simp)⟩
  | again x y =>
    simp only [step1]
    split
    · rename_i h
      exact ⟨same, by omega, by omega, nt (by simp)⟩
    · trivial
  | get d p =>
    simp only [step1]
    cases hw : e.ins[g.taken]? with
    | none => exact ⟨same, by decide, IO.2, nt (by simp)⟩
    | some w => exact ⟨keeps_same S rfl (Nat.le_refl _) (ml d w) (words_set S.rw d (E.ins w (List.mem_of_getElem? hw))), nx, mu_fwd L (nt (by simp)) nx (.inl (Nat.lt_succ_self i)) (Nat.le_refl _)⟩
  | check x lo hi' p =>
    simp only [step1]
    split
    · exact ⟨same, nx, mu_fwd L (nt (by simp)) nx (.inl (Nat.lt_succ_self i)) (Nat.le_refl _)⟩
    · exact ⟨same, by decide, IO.2, nt (by simp)⟩
  | load d h c n x =>
    simp only [step1]
    split
    · refine ⟨keeps_same S rfl (Nat.le_refl _) (ml d _) (words_set S.rw d (words_getD ?_ _)), nx, mu_fwd L (nt (by simp)) nx (.inl (Nat.lt_succ_self i)) (Nat.le_refl _)⟩
      rw [List.getD_eq_getElem?_getD]
      cases q : g.cs[ch.getD h 0]? with
      | none => intro w hw; cases hw
      | some c' => exact S.cw c' (List.mem_of_getElem? q)
    · trivial
  | store h c n x y =>
    simp only [step1]
    split
    · obtain ⟨hx, hy, u', U', ha, hU', hcn⟩ := IO
      obtain ⟨j, U2, _, hj, hU2, hs⟩ := ch_at S.ch ha
      obtain ⟨c0, hc0, hl0, hg0⟩ := sh_at hs
      rw [hj, hg0]
      have eqs : sh { g with cs := g.cs.set j (c0.set (c + (val rs x).toNat) (val rs y)) } = sh g := by
        unfold sh
        dsimp only
        rw [List.map_set, List.length_set]
        have hj' : j < (g.cs.map List.length).length := by rw [List.length_map]; exact (List.getElem?_eq_some_iff.mp hc0).1
        refine List.ext_getElem? fun t => ?_
        rw [List.getElem?_set]
        split
        · rename_i ht
          subst ht
          rw [List.getElem?_map, hc0]
          rfl
        · rfl
      refine ⟨⟨⟨S.regs, S.rw, fun c' hc' => ?_, by rw [eqs]; exact S.ch, by rw [List.length_set]; exact S.dp⟩, eqs, Nat.le_refl _⟩, nx, mu_fwd L (nt (by simp)) nx (.inl (Nat.lt_succ_self i)) (Nat.le_refl _)⟩
      rcases List.mem_or_eq_of_mem_set hc' with z | z
      · exact S.cw c' z
      · rw [z]
        exact words_set (S.cw c0 (List.mem_of_getElem? hc0)) _ (val_word S.rw hy)
    · trivial
  | call a b c d f => exact absurd rfl (hc a b c d f)
  | ret vs => exact absurd rfl (hr vs)
  | move d x => exact cmp _ _ _ rfl
  | neg d x p => exact cmp _ _ _ rfl
  | abs d x p => exact cmp _ _ _ rfl
  | less d x y => exact cmp _ _ _ rfl
  | equal d x y => exact cmp _ _ _ rfl
  | ar a d x y p => exact cmp _ _ _ rfl

/-! ### the call, the end -/
theorem push_sh {g : G} {n : Nat} : sh (push g n) = sh g ++ [n] := by simp [sh, push]
theorem pop_sh {g : G} {s : List Nat} {n : Nat} (h : sh g = s ++ [n]) : sh (pop g) = s := by
  have e : sh (pop g) = (sh g).dropLast := by simp [sh, pop]
  rw [e, h, List.dropLast_concat]
theorem note_sh {g : G} {u i : Nat} {rs : List Int} : sh (note g u i rs) = sh g := rfl
/-- an activation's end, seen from outside -/
def OutOk (e : Env) (u : Nat) (U : Un) (g : G) : Out × G → Prop
  | (.ret ws, g') => ws.length = U.nr ∧ Words ws ∧ sh g' = sh g ∧ (∀ c ∈ g'.cs, Words c) ∧ g'.fuel ≤ g.fuel
  | (.exc k p, g') => k < 5 ∧ p < 5 ∧ sh g' = sh g ∧ (∀ c ∈ g'.cs, Words c) ∧ g'.fuel ≤ g.fuel
  | _ => True
theorem OutOk.mono {e : Env} {u : Nat} {U : Un} {g g1 : G} {r : Out × G} (h : OutOk e u U g1 r) (hs : sh g1 = sh g) (hf : g1.fuel ≤ g.fuel) : OutOk e u U g r := by
  obtain ⟨o, g'⟩ := r
  cases o with
  | ret ws =>
    obtain ⟨a, b, c, d, f⟩ := h
    exact ⟨a, b, c.trans hs, d, Nat.le_trans f hf⟩
  | exc k p =>
    obtain ⟨a, b, c, d, f⟩ := h
    exact ⟨a, b, c.trans hs, d, Nat.le_trans f hf⟩
  | exh => trivial
  | fault => trivial
theorem StOk.note {e : Env} {u i : Nat} {ch : List Nat} {g : G} {rs : List Int} (S : StOk e u ch g rs) : StOk e u ch (note g u i rs) rs := ⟨S.regs, S.rw, S.cw, S.ch, S.dp⟩
/-- the callee's first state -/
theorem callee_ok {e : Env} {u u' h : Nat} {ch : List Nat} {g : G} {rs : List Int} {U U' : Un} {as : List Op} (E : EnvOk e) (S : StOk e u ch g rs) (hd : g.cs.length ≠ 10) (hU' : e.m[u']? = some U') (hp : 0 ≤ U'.parent) (ha : anc e.m u h = some U'.parent.toNat)
    (hl : as.length = U'.na) (hx : ∀ x ∈ as, OpOk U.regs x) : StOk e u' (g.cs.length :: ch.drop h) (push g U'.cells) (as.map (val rs) ++ List.replicate (U'.regs - as.length) 0) := by
  have UO := E.m.un u' U' hU'
  refine ⟨⟨U', hU', ?_⟩, words_app (words_vals S.rw hx) (words_rep _), fun c hc => ?_, ?_, ?_⟩
  · have := UO.na
    rw [List.length_append, List.length_map, List.length_replicate]
    omega
  · rcases List.mem_append.mp (show c ∈ g.cs ++ [List.replicate U'.cells 0] from hc) with z | z
    · exact S.cw c z
    · rw [List.mem_singleton.mp z]
      exact words_rep _
  · rw [push_sh, ← sh_len]
    exact ch_callee S.ch hU' hp ha
  · have := S.dp
    show (g.cs ++ [_]).length ≤ 10
    rw [List.length_append, List.length_singleton]
    omega
theorem mu_start {m : Mod} {u : Nat} {U : Un} (UO : UnOk m u U) (f : Nat) : mu U f 0 = 256 * f := by
  unfold mu
  rw [if_pos (isTick_iff.mpr UO.tick)]
  rfl
theorem mu_no {U : Un} {f i : Nat} (h : U.code[i]? ≠ some .tick) : 256 * f < mu U f i := by
  unfold mu
  rw [if_neg (fun z => h (isTick_iff.mp z))]
  omega
/-- what a call leaves -/
theorem back_ok {e : Env} {u u' i : Nat} {ch : List Nat} {g : G} {rs : List Int} {U U' : Un} {ds : List Nat} {r : Out × G} (S : StOk e u ch g rs) (nt : U.code[i]? ≠ some .tick) (nx : i + 1 < U.code.length) (L : U.code.length ≤ 100)
    (R : OutOk e u' U' (push g U'.cells) r) : NxOk e u ch U i g (back i rs ds r) := by
  obtain ⟨o, g'⟩ := r
  have key : sh g' = sh (push g U'.cells) → (∀ c ∈ g'.cs, Words c) → ∀ rs', rs'.length = rs.length → Words rs' → g'.fuel ≤ (push g U'.cells).fuel → Keeps e u ch g (pop g') rs' := fun h1 h2 rs' h3 h4 h5 => by
    have hs : sh (pop g') = sh g := pop_sh (h1.trans push_sh)
    obtain ⟨U0, q1, q2⟩ := S.regs
    refine ⟨⟨⟨U0, q1, h3.trans q2⟩, h4, fun c hc => h2 c ((List.dropLast_sublist _).subset hc), by rw [hs]; exact S.ch, ?_⟩, hs, h5⟩
    have e1 : (pop g').cs.length = g.cs.length := by rw [← sh_len, hs, sh_len]
    rw [e1]
    exact S.dp
  cases o with
  | ret ws =>
    obtain ⟨a, b, c, d, f⟩ := R
    exact ⟨key c d _ (setAll_len ..) (setAll_words _ _ _ S.rw b) f, nx, mu_fwd L nt nx (.inl (Nat.lt_succ_self i)) f⟩
  | exc k p =>
    obtain ⟨a, b, c, d, f⟩ := R
    exact ⟨key c d _ rfl S.rw f, a, b, nt⟩
  | exh => trivial
  | fault => trivial
theorem NxOk.note {e : Env} {u : Nat} {ch : List Nat} {U : Un} {i j : Nat} {g : G} {rs : List Int} {x : Nx} (h : NxOk e u ch U i (Wn.note g u j rs) x) : NxOk e u ch U i g x := by
  cases x with
  | go i' g' rs' =>
    obtain ⟨a, b, c⟩ := h
    exact ⟨⟨a.st, a.sh, a.fuel⟩, b, c⟩
  | exc k p g' rs' =>
    obtain ⟨a, b, c⟩ := h
    exact ⟨⟨a.st, a.sh, a.fuel⟩, b, c⟩
  | exh g rs => trivial
  | fault g rs => trivial
theorem region_ok {m : Mod} {u i : Nat} {U : Un} {r : Rg} (UO : UnOk m u U) (h : region U i = some r) : RgOk U r ∧ i < r.entry := by
  have hm := List.mem_of_find?_eq_some h
  have hp := List.find?_some h
  simp only [Bool.and_eq_true, decide_eq_true_eq] at hp
  have := UO.rgs r hm
  exact ⟨this, Nat.lt_of_lt_of_le hp.2 this.le⟩
/-- the entry of a region -/
theorem entry_ok {e : Env} {u i k p : Nat} {ch : List Nat} {g g' : G} {rs' : List Int} {U : Un} {r : Rg} (UO : UnOk e.m u U) (K : Keeps e u ch g g' rs') (hr : region U i = some r) (hk : k < 5) (hp : p < 5) (nt : U.code[i]? ≠ some .tick) :
    Keeps e u ch g g' ((rs'.set r.r1 k).set r.r2 p) ∧ r.entry < U.code.length ∧ mu U g'.fuel r.entry < mu U g.fuel i := by
  obtain ⟨RO, hi⟩ := region_ok UO hr
  refine ⟨⟨K.st.like rfl (by rw [List.length_set, List.length_set]) (words_set (words_set K.st.rw _ ?_) _ ?_), K.sh, K.fuel⟩, RO.lt, mu_fwd UO.len nt RO.lt (.inl hi) K.fuel⟩
  · exact ⟨by omega, by omega⟩
  · exact ⟨by omega, by omega⟩
theorem one_of_step {e : Env} {n u i : Nat} {ch : List Nat} {g : G} {rs : List Int} {ins : Ins} (hc : ∀ a b c d f, ins ≠ .call a b c d f) : one e n u ch i g rs ins = some (step1 e ch i (note g u i rs) rs ins) := by
  cases ins with
  | call a b c d f => exact absurd rfl (hc a b c d f)
  | _ => rfl
/-- enough turns: the run comes to an end, and the end is as it should be -/
theorem run_ok {e : Env} (E : EnvOk e) : ∀ (n u i : Nat) (ch : List Nat) (g : G) (rs : List Int) (U : Un), StOk e u ch g rs → e.m[u]? = some U → i < U.code.length → mu U g.fuel i < n →
    ∃ r, run e n u ch i g rs = some r ∧ OutOk e u U g r := by
  intro n
  induction n with
  | zero => intro u i ch g rs U _ _ _ h; omega
  | succ n ih =>
    intro u i ch g rs U S hU hi hmu
    have UO := E.m.un u U hU
    obtain ⟨ins, hins⟩ : ∃ ins, U.code[i]? = some ins := ⟨_, List.getElem?_eq_getElem hi⟩
    have IO := UO.ins i ins hins
    -- the end of a turn
    have fin : ∀ x : Nx, NxOk e u ch U i g x → one e n u ch i g rs ins = some x → (∀ vs, ins ≠ .ret vs) → ∃ r, run e (n + 1) u ch i g rs = some r ∧ OutOk e u U g r := fun x hx ho hr => by
      rw [run_one hU hins hr, ho]
      cases x with
      | go i' g' rs' =>
        obtain ⟨K, h1, h2⟩ := hx
        obtain ⟨r, e1, e2⟩ := ih u i' ch g' rs' U K.st hU h1 (by omega)
        exact ⟨r, e1, e2.mono K.sh K.fuel⟩
      | exc k p g' rs' =>
        obtain ⟨K, h1, h2, nt⟩ := hx
        simp only [thenX]
        cases hreg : region U i with
        | none => exact ⟨_, rfl, h1, h2, K.sh, K.st.cw, K.fuel⟩
        | some r =>
          obtain ⟨K2, h3, h4⟩ := entry_ok UO K hreg h1 h2 nt
          obtain ⟨r', e1, e2⟩ := ih u r.entry ch g' _ U K2.st hU h3 (by omega)
          exact ⟨r', e1, e2.mono K.sh K.fuel⟩
      | exh g' rs' => exact ⟨_, rfl, trivial⟩
      | fault g' rs' => exact ⟨_, rfl, trivial⟩
    by_cases hr : ∃ vs, ins = .ret vs
    · obtain ⟨vs, rfl⟩ := hr
      exact ⟨_, run_ret hU hins, by rw [List.length_map]; exact IO.1, words_vals S.rw IO.2, rfl, S.cw, Nat.le_refl _⟩
    · have hr' : ∀ vs, ins ≠ .ret vs := fun vs z => hr ⟨vs, z⟩
      by_cases hc : ∃ a b c d f, ins = .call a b c d f
      · obtain ⟨u', h, as, ds, p, rfl⟩ := hc
        obtain ⟨⟨U', hU', hp0, ha, hl, hds⟩, hx, hd, hp⟩ := IO
        have nt : U.code[i]? ≠ some .tick := by rw [hins]; simp
        have nx : i + 1 < U.code.length := by
          rcases UO.last i _ hins with z | ⟨vs, z⟩
          · exact z
          · cases z
        by_cases h10 : g.cs.length = 10
        · refine fin (.exc 2 p (note g u i rs) rs) (NxOk.note (j := i) (rs := rs) ⟨⟨S.note, rfl, Nat.le_refl _⟩, by decide, hp, nt⟩) (by simp only [one]; rw [if_pos h10]) hr'
        · have C := callee_ok E (S.note (i := i)) h10 hU' hp0 ha hl hx
          obtain ⟨r, e1, e2⟩ := ih u' 0 _ _ _ U' C hU' (List.getElem?_eq_some_iff.mp (E.m.un u' U' hU').tick).1 (by
            rw [mu_start (E.m.un u' U' hU')]
            have := mu_no (f := g.fuel) nt
            show 256 * g.fuel < n
            omega)
          refine fin (back i rs ds r) (NxOk.note (j := i) (rs := rs) (back_ok (S.note (i := i)) nt nx UO.len e2)) ?_ hr'
          simp only [one]
          rw [if_neg h10, hU']
          show Option.map _ (run e n u' (g.cs.length :: List.drop h ch) 0 (push (note g u i rs) U'.cells) _) = _
          have e3 : (note g u i rs).cs.length = g.cs.length := rfl
          rw [e3] at e1
          rw [e1]
          rfl
      · have hc' : ∀ a b c d f, ins ≠ .call a b c d f := fun a b c d f z => hc ⟨a, b, c, d, f, z⟩
        exact fin _ (NxOk.note (j := i) (rs := rs) (step1_ok E (S.note (i := i)) hU hins hr' hc')) (one_of_step hc') hr'
end Wn
/-! ## WMirror3 -/
set_option linter.all false
namespace Wn
/-! The events stay few: each but a tick's turn costs a place, each way back a unit of fuel. -/
def gOf : Nx → G
  | .go _ g _ => g
  | .exc _ _ g _ => g
  | .exh g _ => g
  | .fault g _ => g
/-- what is left after x, seen from (U, f, i) -/
def Pot (U : Un) (i : Nat) (g : G) : Nx → Prop
  | .go i' g' _ => g'.evs.length + mu U g'.fuel i' ≤ g.evs.length + mu U g.fuel i
  | x => (gOf x).evs.length + 256 * (gOf x).fuel ≤ g.evs.length + 256 * g.fuel
theorem mu_low {U : Un} {f i : Nat} : 256 * f ≤ mu U f i := by unfold mu; omega
theorem step1_evs {e : Env} {ch : List Nat} {i : Nat} {g : G} {rs : List Int} {ins : Ins} : (gOf (step1 e ch i g rs ins)).evs.length ≤ g.evs.length + 1 ∧ (gOf (step1 e ch i g rs ins)).fuel ≤ g.fuel ∧
    ((∃ i' g' rs', step1 e ch i g rs ins = .go i' g' rs') ∨ (gOf (step1 e ch i g rs ins)).evs = g.evs) := by
  have cmp : ∀ o : Option (Nat × Option Int × Nat), let x : Nx := (match o with
      | some (d, some w, p) => if wordB w = true then .go (i + 1) g (rs.set d w) else .exc 0 p g rs
      | some (_, none, p) => .exc 0 p g rs
      | none => .fault g rs); (gOf x).evs.length ≤ g.evs.length + 1 ∧ (gOf x).fuel ≤ g.fuel ∧ ((∃ i' g' rs', x = .go i' g' rs') ∨ (gOf x).evs = g.evs) := by
    intro o
    rcases o with _ | ⟨d, _ | w, p⟩
    · exact ⟨Nat.le_succ _, Nat.le_refl _, .inr rfl⟩
    · exact ⟨Nat.le_succ _, Nat.le_refl _, .inr rfl⟩
    · dsimp only
      split
      · exact ⟨Nat.le_succ _, Nat.le_refl _, .inr rfl⟩
      · exact ⟨Nat.le_succ _, Nat.le_refl _, .inr rfl⟩
  have z : ∀ x : Nx, gOf x = g → (gOf x).evs.length ≤ g.evs.length + 1 ∧ (gOf x).fuel ≤ g.fuel ∧ ((∃ i' g' rs', x = .go i' g' rs') ∨ (gOf x).evs = g.evs) := fun x h => by
    rw [h]
    exact ⟨Nat.le_succ _, Nat.le_refl _, .inr rfl⟩
  cases ins with
  | tick =>
    simp only [step1]
    split
    · exact z _ rfl
    · exact ⟨Nat.le_succ _, Nat.sub_le _ _, .inr rfl⟩
  | put x => exact ⟨by simp [step1, gOf], Nat.le_refl _, .inl ⟨_, _, _, rfl⟩⟩
  | jump t => exact z _ rfl
  | branch x t => exact z _ rfl
  | raise k p => exact z _ rfl
  | again x y =>
    simp only [step1]
    split <;> exact z _ rfl
  | get d p =>
    simp only [step1]
    split
    · exact z _ rfl
    · exact ⟨by simp [gOf], Nat.le_refl _, .inl ⟨_, _, _, rfl⟩⟩
  | check x lo hi p =>
    simp only [step1]
    split <;> exact z _ rfl
  | load d h c n x =>
    simp only [step1]
    split <;> exact z _ rfl
  | store h c n x y =>
    simp only [step1]
    split
    · exact ⟨Nat.le_succ _, Nat.le_refl _, .inr rfl⟩
    · exact z _ rfl
  | call a b c d f => exact cmp (comp rs (.call a b c d f))
  | ret vs => exact cmp (comp rs (.ret vs))
  | move d x => exact cmp (comp rs (.move d x))
  | neg d x p => exact cmp (comp rs (.neg d x p))
  | abs d x p => exact cmp (comp rs (.abs d x p))
  | less d x y => exact cmp (comp rs (.less d x y))
  | equal d x y => exact cmp (comp rs (.equal d x y))
  | ar a d x y p => exact cmp (comp rs (.ar a d x y p))
theorem step1_pot {e : Env} {u i : Nat} {ch : List Nat} {g : G} {rs : List Int} {U : Un} {ins : Ins} (h : NxOk e u ch U i g (step1 e ch i g rs ins)) : Pot U i g (step1 e ch i g rs ins) := by
  obtain ⟨h1, h2, h3⟩ := step1_evs (e := e) (ch := ch) (i := i) (g := g) (rs := rs) (ins := ins)
  generalize step1 e ch i g rs ins = x at h h1 h2 h3
  have m := mu_low (U := U) (f := g.fuel) (i := i)
  cases x with
  | go i' g' rs' =>
    obtain ⟨_, _, q⟩ := h
    show g'.evs.length + mu U g'.fuel i' ≤ _
    have : g'.evs.length ≤ g.evs.length + 1 := h1
    omega
  | exc k p g' rs' =>
    rcases h3 with ⟨_, _, _, z⟩ | z
    · cases z
    · show g'.evs.length + 256 * g'.fuel ≤ _
      have z' : g'.evs = g.evs := z
      have : g'.fuel ≤ g.fuel := h2
      rw [z']
      omega
  | exh g' rs' =>
    rcases h3 with ⟨_, _, _, z⟩ | z
    · cases z
    · show g'.evs.length + 256 * g'.fuel ≤ _
      have z' : g'.evs = g.evs := z
      have : g'.fuel ≤ g.fuel := h2
      rw [z']
      omega
  | fault g' rs' =>
    rcases h3 with ⟨_, _, _, z⟩ | z
    · cases z
    · show g'.evs.length + 256 * g'.fuel ≤ _
      have z' : g'.evs = g.evs := z
      have : g'.fuel ≤ g.fuel := h2
      rw [z']
      omega
theorem mu_next {U : Un} {f i : Nat} (hl : U.code.length ≤ 100) (hi : U.code[i]? ≠ some .tick) (h : i < U.code.length) : mu U f (i + 1) < 256 * f + (1 + (128 - i)) := by
  unfold mu
  split <;> omega
theorem back_pot {U : Un} {i : Nat} {g g0 : G} {rs : List Int} {ds : List Nat} {r : Out × G} (hl : U.code.length ≤ 100) (hi : U.code[i]? ≠ some .tick) (h : i < U.code.length) (he : g0.evs = g.evs) (hf : g0.fuel = g.fuel)
    (R : r.2.evs.length + 256 * r.2.fuel ≤ g0.evs.length + 256 * g0.fuel) : Pot U i g (back i rs ds r) := by
  rw [he, hf] at R
  have m : mu U g.fuel i = 256 * g.fuel + (1 + (128 - i)) := by
    unfold mu
    rw [if_neg (fun z => hi (isTick_iff.mp z))]
  obtain ⟨o, g'⟩ := r
  have R' : g'.evs.length + 256 * g'.fuel ≤ g.evs.length + 256 * g.fuel := R
  cases o with
  | ret ws =>
    have := mu_next (f := g'.fuel) hl hi h
    show g'.evs.length + mu U g'.fuel (i + 1) ≤ _
    rw [m]
    omega
  | exc k p => exact R'
  | exh => exact R'
  | fault => exact R'
theorem run_pot {e : Env} (E : EnvOk e) : ∀ (n u i : Nat) (ch : List Nat) (g : G) (rs : List Int) (U : Un), StOk e u ch g rs → e.m[u]? = some U → i < U.code.length → mu U g.fuel i < n →
    ∃ r, run e n u ch i g rs = some r ∧ OutOk e u U g r ∧ r.2.evs.length + 256 * r.2.fuel ≤ g.evs.length + mu U g.fuel i := by
  intro n
  induction n with
  | zero => intro u i ch g rs U _ _ _ h; omega
  | succ n ih =>
    intro u i ch g rs U S hU hi hmu
    have UO := E.m.un u U hU
    obtain ⟨ins, hins⟩ : ∃ ins, U.code[i]? = some ins := ⟨_, List.getElem?_eq_getElem hi⟩
    have IO := UO.ins i ins hins
    have ml := mu_low (U := U) (f := g.fuel) (i := i)
    have fin : ∀ x : Nx, NxOk e u ch U i g x → Pot U i g x → one e n u ch i g rs ins = some x → (∀ vs, ins ≠ .ret vs) → ∃ r, run e (n + 1) u ch i g rs = some r ∧ OutOk e u U g r ∧ r.2.evs.length + 256 * r.2.fuel ≤ g.evs.length + mu U g.fuel i := fun x hx px ho hr => by
      rw [run_one hU hins hr, ho]
      cases x with
      | go i' g' rs' =>
        obtain ⟨K, h1, h2⟩ := hx
        obtain ⟨r, e1, e2, e3⟩ := ih u i' ch g' rs' U K.st hU h1 (by omega)
        exact ⟨r, e1, e2.mono K.sh K.fuel, Nat.le_trans e3 px⟩
      | exc k p g' rs' =>
        obtain ⟨K, h1, h2, nt⟩ := hx
        simp only [thenX]
        have px' : g'.evs.length + 256 * g'.fuel ≤ g.evs.length + 256 * g.fuel := px
        cases hreg : region U i with
        | none => exact ⟨_, rfl, ⟨h1, h2, K.sh, K.st.cw, K.fuel⟩, Nat.le_trans px' (by omega)⟩
        | some r =>
          obtain ⟨K2, h3, h4⟩ := entry_ok UO K hreg h1 h2 nt
          obtain ⟨r', e1, e2, e3⟩ := ih u r.entry ch g' _ U K2.st hU h3 (by omega)
          exact ⟨r', e1, e2.mono K.sh K.fuel, Nat.le_trans e3 (excPot UO hreg nt px' K.fuel)⟩
      | exh g' rs' => exact ⟨_, rfl, trivial, Nat.le_trans px (by omega)⟩
      | fault g' rs' => exact ⟨_, rfl, trivial, Nat.le_trans px (by omega)⟩
    by_cases hr : ∃ vs, ins = .ret vs
    · obtain ⟨vs, rfl⟩ := hr
      refine ⟨_, run_ret hU hins, ⟨by rw [List.length_map]; exact IO.1, words_vals S.rw IO.2, rfl, S.cw, Nat.le_refl _⟩, ?_⟩
      show g.evs.length + 256 * g.fuel ≤ _
      omega
    · have hr' : ∀ vs, ins ≠ .ret vs := fun vs z => hr ⟨vs, z⟩
      by_cases hc : ∃ a b c d f, ins = .call a b c d f
      · obtain ⟨u', h, as, ds, p, rfl⟩ := hc
        obtain ⟨⟨U', hU', hp0, ha, hl, hds⟩, hx, hd, hp⟩ := IO
        have nt : U.code[i]? ≠ some .tick := by rw [hins]; simp
        have nx : i + 1 < U.code.length := by
          rcases UO.last i _ hins with z | ⟨vs, z⟩
          · exact z
          · cases z
        by_cases h10 : g.cs.length = 10
        · refine fin (.exc 2 p (note g u i rs) rs) (NxOk.note (j := i) (rs := rs) ⟨⟨S.note, rfl, Nat.le_refl _⟩, by decide, hp, nt⟩) ?_ (by simp only [one]; rw [if_pos h10]) hr'
          exact Nat.le_refl _
        · have C := callee_ok E (S.note (i := i)) h10 hU' hp0 ha hl hx
          have ms := mu_start (E.m.un u' U' hU') g.fuel
          obtain ⟨r, e1, e2, e3⟩ := ih u' 0 _ _ _ U' C hU' (List.getElem?_eq_some_iff.mp (E.m.un u' U' hU').tick).1 (by
            show mu U' g.fuel 0 < n
            rw [ms]
            have := mu_no (f := g.fuel) nt
            omega)
          refine fin (back i rs ds r) (NxOk.note (j := i) (rs := rs) (back_ok (S.note (i := i)) nt nx UO.len e2)) (back_pot (g0 := push (note g u i rs) U'.cells) UO.len nt hi rfl rfl ?_) ?_ hr'
          · have e4 : r.2.evs.length + 256 * r.2.fuel ≤ g.evs.length + mu U' g.fuel 0 := e3
            rw [ms] at e4
            exact e4
          · simp only [one]
            rw [if_neg h10, hU']
            show Option.map _ (run e n u' (g.cs.length :: List.drop h ch) 0 (push (note g u i rs) U'.cells) _) = _
            have e5 : (note g u i rs).cs.length = g.cs.length := rfl
            rw [e5] at e1
            rw [e1]
            rfl
      · have hc' : ∀ a b c d f, ins ≠ .call a b c d f := fun a b c d f z => hc ⟨a, b, c, d, f, z⟩
        have so := step1_ok E (S.note (i := i)) hU hins hr' hc'
        have sp := step1_pot so
        refine fin _ (NxOk.note (j := i) (rs := rs) so) ?_ (one_of_step hc') hr'
        generalize step1 e ch i (note g u i rs) rs ins = x at sp
        cases x <;> exact sp
where
  excPot {e : Env} {u i : Nat} {U : Un} {g g' : G} {r : Rg} (UO : UnOk e.m u U) (hr : region U i = some r) (nt : U.code[i]? ≠ some .tick) (px : g'.evs.length + 256 * g'.fuel ≤ g.evs.length + 256 * g.fuel) (hf : g'.fuel ≤ g.fuel) :
      g'.evs.length + mu U g'.fuel r.entry ≤ g.evs.length + mu U g.fuel i := by
    obtain ⟨RO, hi⟩ := region_ok UO hr
    have L := UO.len
    have l := RO.lt
    have m : mu U g.fuel i = 256 * g.fuel + (1 + (128 - i)) := by
      unfold mu
      rw [if_neg (fun z => nt (isTick_iff.mp z))]
    have m2 : mu U g'.fuel r.entry ≤ 256 * g'.fuel + (1 + (128 - r.entry)) := by
      unfold mu
      split <;> omega
    rw [m]
    omega
end Wn
/-! ## WMirror4 -/
set_option linter.all false
namespace Wn
/-! One turn of an activation. -/
theorem one_ok {e : Env} {n u i : Nat} {ch : List Nat} {g : G} {rs : List Int} {U : Un} {ins : Ins} (E : EnvOk e) (S : StOk e u ch g rs) (hU : e.m[u]? = some U) (hins : U.code[i]? = some ins) (hmu : mu U g.fuel i < n + 1) (hr : ∀ vs, ins ≠ .ret vs) :
    ∃ x, one e n u ch i g rs ins = some x ∧ NxOk e u ch U i g x ∧ Pot U i g x := by
  have UO := E.m.un u U hU
  have hi := (List.getElem?_eq_some_iff.mp hins).1
  have IO := UO.ins i ins hins
  by_cases hc : ∃ a b c d f, ins = .call a b c d f
  · obtain ⟨u', h, as, ds, p, rfl⟩ := hc
    obtain ⟨⟨U', hU', hp0, ha, hl, hds⟩, hx, hd, hp⟩ := IO
    have nt : U.code[i]? ≠ some .tick := by rw [hins]; simp
    have nx : i + 1 < U.code.length := by
      rcases UO.last i _ hins with z | ⟨vs, z⟩
      · exact z
      · cases z
    by_cases h10 : g.cs.length = 10
    · refine ⟨.exc 2 p (note g u i rs) rs, by simp only [one]; rw [if_pos h10], NxOk.note (j := i) (rs := rs) ⟨⟨S.note, rfl, Nat.le_refl _⟩, by decide, hp, nt⟩, ?_⟩
      exact Nat.le_refl _
    · have C := callee_ok E (S.note (i := i)) h10 hU' hp0 ha hl hx
      have ms := mu_start (E.m.un u' U' hU') g.fuel
      have hm : mu U' (push (note g u i rs) U'.cells).fuel 0 < n := by
        show mu U' g.fuel 0 < n
        rw [ms]
        have := mu_no (f := g.fuel) nt
        omega
      obtain ⟨r, e1, e2, e3⟩ := run_pot E n u' 0 _ _ _ U' C hU' (List.getElem?_eq_some_iff.mp (E.m.un u' U' hU').tick).1 hm
      refine ⟨back i rs ds r, ?_, NxOk.note (j := i) (rs := rs) (back_ok (S.note (i := i)) nt nx UO.len e2), back_pot (g0 := push (note g u i rs) U'.cells) UO.len nt hi rfl rfl ?_⟩
      · simp only [one]
        rw [if_neg h10, hU']
        show Option.map _ (run e n u' (g.cs.length :: List.drop h ch) 0 (push (note g u i rs) U'.cells) _) = _
        have e5 : (note g u i rs).cs.length = g.cs.length := rfl
        rw [e5] at e1
        rw [e1]
        rfl
      · have e4 : r.2.evs.length + 256 * r.2.fuel ≤ g.evs.length + mu U' g.fuel 0 := e3
        rw [ms] at e4
        exact e4
  · have hc' : ∀ a b c d f, ins ≠ .call a b c d f := fun a b c d f z => hc ⟨a, b, c, d, f, z⟩
    have so := step1_ok E (S.note (i := i)) hU hins hr hc'
    have sp := step1_pot so
    refine ⟨_, one_of_step hc', NxOk.note (j := i) (rs := rs) so, ?_⟩
    generalize step1 e ch i (note g u i rs) rs ins = x at sp
    cases x <;> exact sp
theorem exc_pot {e : Env} {u i : Nat} {U : Un} {g g' : G} {r : Rg} (UO : UnOk e.m u U) (hr : region U i = some r) (nt : U.code[i]? ≠ some .tick) (px : g'.evs.length + 256 * g'.fuel ≤ g.evs.length + 256 * g.fuel) :
    g'.evs.length + mu U g'.fuel r.entry ≤ g.evs.length + mu U g.fuel i := by
  obtain ⟨RO, hi⟩ := region_ok UO hr
  have L := UO.len
  have l := RO.lt
  have m : mu U g.fuel i = 256 * g.fuel + (1 + (128 - i)) := by
    unfold mu
    rw [if_neg (fun z => nt (isTick_iff.mp z))]
  have m2 : mu U g'.fuel r.entry ≤ 256 * g'.fuel + (1 + (128 - r.entry)) := by
    unfold mu
    split <;> omega
  rw [m]
  omega
end Wn
/-! ## WMirror5 -/
set_option linter.all false
namespace Wn
/-! What is seen: no row is longer than a unit's registers. -/
def SeenOk (g : G) : Prop := ∀ x ∈ g.seen, x.2.2.length ≤ 100
theorem step1_seen {e : Env} {ch : List Nat} {i : Nat} {g : G} {rs : List Int} {ins : Ins} : (gOf (step1 e ch i g rs ins)).seen = g.seen := by
  cases ins <;> simp only [step1]
  case get d p => cases e.ins[g.taken]? <;> rfl
  all_goals first
    | rfl
    | (split <;> first | rfl | (split <;> rfl))
theorem SeenOk.note {g : G} {u i : Nat} {rs : List Int} (h : SeenOk g) (hl : rs.length ≤ 100) : SeenOk (note g u i rs) := fun x hx => by
  rcases List.mem_append.mp hx with y | y
  · exact h x y
  · rw [List.mem_singleton.mp y]
    exact hl
theorem run_seen {e : Env} (E : EnvOk e) : ∀ (n u i : Nat) (ch : List Nat) (g : G) (rs : List Int) (U : Un), StOk e u ch g rs → e.m[u]? = some U → i < U.code.length → mu U g.fuel i < n → SeenOk g →
    ∀ r, run e n u ch i g rs = some r → SeenOk r.2 := by
  intro n
  induction n with
  | zero => intro u i ch g rs U _ _ _ h; omega
  | succ n ih =>
    intro u i ch g rs U S hU hi hmu sg r hrun
    have UO := E.m.un u U hU
    obtain ⟨ins, hins⟩ : ∃ ins, U.code[i]? = some ins := ⟨_, List.getElem?_eq_getElem hi⟩
    have IO := UO.ins i ins hins
    have hrl : rs.length ≤ 100 := by
      obtain ⟨U2, h1, h2⟩ := S.regs
      rw [hU] at h1
      cases h1
      rw [h2]
      exact UO.regs
    have sn : SeenOk (note g u i rs) := sg.note hrl
    by_cases hr : ∃ vs, ins = .ret vs
    · obtain ⟨vs, rfl⟩ := hr
      rw [run_ret hU hins] at hrun
      cases hrun
      exact sn
    · have hr' : ∀ vs, ins ≠ .ret vs := fun vs z => hr ⟨vs, z⟩
      obtain ⟨x, hx, nx, px⟩ := one_ok (n := n) E S hU hins hmu hr'
      rw [run_one hU hins hr', hx] at hrun
      have sx : SeenOk (gOf x) := by
        by_cases hc : ∃ a b c d f, ins = .call a b c d f
        · obtain ⟨u', h, as, ds, p, rfl⟩ := hc
          obtain ⟨⟨U', hU', hp0, ha, hl, hds⟩, hxx, hd, hp⟩ := IO
          have nt : U.code[i]? ≠ some .tick := by rw [hins]; simp
          simp only [one] at hx
          by_cases h10 : g.cs.length = 10
          · rw [if_pos h10] at hx
            cases hx
            exact sn
          · rw [if_neg h10, hU'] at hx
            have C := callee_ok E (S.note (i := i)) h10 hU' hp0 ha hl hxx
            have ms := mu_start (E.m.un u' U' hU') g.fuel
            obtain ⟨r2, e1, e2⟩ := Option.map_eq_some_iff.mp hx
            have s2 := ih u' 0 _ _ _ U' C hU' (List.getElem?_eq_some_iff.mp (E.m.un u' U' hU').tick).1 (by
              show mu U' g.fuel 0 < n
              rw [ms]
              have := mu_no (f := g.fuel) nt
              omega) sn r2 e1
            rw [← e2]
            obtain ⟨o2, g2⟩ := r2
            cases o2 <;> exact s2
        · have hc' : ∀ a b c d f, ins ≠ .call a b c d f := fun a b c d f z => hc ⟨a, b, c, d, f, z⟩
          rw [one_of_step hc'] at hx
          cases hx
          unfold SeenOk
          rw [step1_seen]
          exact sn
      cases x with
      | go i' g' rs' =>
        obtain ⟨K, h1, h2⟩ := nx
        exact ih u i' ch g' rs' U K.st hU h1 (by omega) sx r hrun
      | exc k p g' rs' =>
        obtain ⟨K, h1, h2, nt⟩ := nx
        simp only [thenX] at hrun
        cases hreg : region U i with
        | none =>
          rw [hreg] at hrun
          cases hrun
          exact sx
        | some rg =>
          rw [hreg] at hrun
          obtain ⟨K2, h3, h4⟩ := entry_ok UO K hreg h1 h2 nt
          exact ih u rg.entry ch g' _ U K2.st hU h3 (by omega) sx r hrun
      | exh g' rs' => cases hrun; exact sx
      | fault g' rs' => cases hrun; exact sx
end Wn
/-! ## WImp -/
set_option Elab.async false
set_option linter.all false
/-! ## WExc -/
set_option Elab.async false
set_option linter.all false
set_option maxRecDepth 100000
set_option maxHeartbeats 2000000
/-! Exceptions whose own record and whose context's record are told. -/
namespace WX
open PySem PySem.Spec PyProof.Rows L2
abbrev St := L2.St
/-- an exception's record: class, dict, and what stands as its context -/
def Zx (cls : Value) (d : Option Addr) (c : Value) : Obj → Prop := fun o =>
  o.cls = cls ∧ o.dict = d ∧ ∀ vs : Array Value, o.data = .fields vs → vs[2]? = some c
theorem Zx.zc {cls : Value} {d : Option Addr} {c : Value} {o : Obj} (h : Zx cls d c o) : Zc cls d o :=
  ⟨h.1, h.2.1⟩
theorem Zx.steady {cls : Value} {d : Option Addr} {c : Value} : PySem.PXN.Steady1 (Zx cls d c) := by
  intro o v ⟨h1, h2, h3⟩
  refine ⟨PySem.PXN.steady_cls o v h1, PySem.PXN.steady_dict o v h2, ?_⟩
  obtain ⟨k, d', dt, sl⟩ := o
  cases dt with
  | fields ws =>
    intro vs e
    have e1 : ws.setIfInBounds 1 v = vs := by
      have q : Data.fields (ws.setIfInBounds 1 v) = Data.fields vs := e
      injection q
    subst e1
    have e2 := h3 ws rfl
    rw [← e2]
    simp [Array.getElem?_setIfInBounds]
  | _ => intro vs e; cases e
/-- at x: a record whose third field is None (an exception without a context) -/
def ctxO (x : Addr) : HO :=
  .ext fun h => ∃ (o : Obj) (vs : Array Value), h.get? x = some o ∧ o.data = .fields vs ∧ vs[2]? = some Value.none
def CtxOk (H : Hp) (c : Value) : Prop := c = .none ∨ ∃ x, c = .ref x ∧ H x = some (ctxO x)
theorem ctx_ok {P : Program} {w : World} {H : Hp} {h : Heap} {x : Addr} {o : Obj} {vs : Array Value} (h1 : h.get? x = some o)
    (h2 : o.data = .fields vs) (h3 : vs[2]? = some Value.none) : ObjOk P w H h x (ctxO x) := by
  refine ⟨⟨o, vs, h1, h2, h3⟩, ⟨o, h1⟩, ?_⟩
  rintro a b ⟨o', vs', e1, e2, e3⟩ k
  exact ⟨o', vs', k _ e1, e2, e3⟩
theorem ctx_at {P : Program} {w : World} {H : Hp} {h : Heap} {x : Addr} (ok : HOk P w H h) (e : H x = some (ctxO x)) :
    ∃ (o : Obj) (vs : Array Value), h.get? x = some o ∧ o.data = .fields vs ∧ vs[2]? = some Value.none := (ok x _ e).1

/-- an exception in the air -/
structure Air (X : Cx) (W : WX) (a : Addr) (s' : Shared) (B : Heap) (sI : Shared) (pins : List (Addr × Obj)) (σ : St) (H : Hp) (cls : Value)
    (d : Option Addr) (c : Value) : Prop where
  inv : Inv X pins σ H sI
  nb : ∀ b o, sI.heap.get? b = some o → b ∉ frs X.stack → B.get? b = some o
  up : sI.heap.UpToSlots s'.heap
  sky : Sky B X.stack a (Zx cls d c) X.env.locals s'.heap
  na : H a = none
  os : s'.os = sI.os
  bare : AllBare s'.gens
  ctx : CtxOk H c
  w : W cls d σ H
def XE (X : Cx) (W : WX) (u : Value) (s' : Shared) : Prop := ∃ a B sI pins σ H cls d c, u = .ref a ∧ Air X W a s' B sI pins σ H cls d c
def Takes (X : Cx) (W : WX) : Prop := ∀ u s', XE X W u s' → X.xe u s'
theorem Takes.imp {X : Cx} {W W' : WX} (t : Takes X W) (h : ∀ c d σ H, W' c d σ H → W c d σ H) : Takes X W' := by
  rintro u s' ⟨a, B, sI, pins, σ, H, cls, d, c, e, A⟩
  exact t u s' ⟨a, B, sI, pins, σ, H, cls, d, c, e, { A with w := h _ _ _ _ A.w }⟩
/-- behind a call that let an exception out -/
def CX (P : Program) (w : World) : CXT := fun outer H s E u s' =>
  ∃ (a : Addr) (B : Heap) (H' : Hp) (cls : Value) (d : Option Addr) (c : Value), u = .ref a ∧
    HandSPX.FlyingZ B outer a (Zx cls d c) s'.heap ∧ HOk P w H' B ∧ UB (frs outer) H H' s.heap B s'.heap ∧ H' a = none ∧
    s'.os = s.os ∧ AllBare s'.gens ∧ CtxOk H' c ∧ E cls d H'
section
variable {X : Cx} {pins : List (Addr × Obj)} {σ : St} {H : Hp} {sI s s' : Shared} {B : Heap} {W : WX} {E : XK}
theorem XE.of_call (I : Inv X pins σ H s) (hW : ∀ cls d H', E cls d H' → W cls d σ H') {u : Value}
    (c : CX X.prog X.w X.stack H s E u s') : XE X W u s' := by
  obtain ⟨a, B, H', cls, d, c, eu, fl, hok, ub, na, os, ag, cx, hE⟩ := c
  obtain ⟨G, g1, g2⟩ := restrict s'.heap (fun b => (B.get? b).isSome || decide (b ∈ frs X.stack))
  have inG : ∀ b o, B.get? b = some o → G.get? b = some o := by
    intro b o e
    rw [g1 b (by simp [e])]
    exact fl.1 b o e
  have frG : ∀ b, b ∈ frs X.stack → G.get? b = s'.heap.get? b := by
    intro b hb
    exact g1 b (by simp [hb])
  have ofG : ∀ b o, G.get? b = some o → s'.heap.get? b = some o ∧ ((B.get? b).isSome = true ∨ b ∈ frs X.stack) := by
    intro b o e
    by_cases q : ((B.get? b).isSome || decide (b ∈ frs X.stack)) = true
    · rw [g1 b q] at e
      exact ⟨e, by simpa using q⟩
    · rw [g2 b (by simpa using q)] at e
      cases e
  refine ⟨a, B, { s with heap := G, gens := s'.gens, drawn := s'.drawn, toks := s'.toks }, pins, σ, H', cls, d, c, eu, ?_⟩
  refine ⟨?_, ?_, .of_keeps fun b o e => (ofG b o e).1, .inr (.inl fl), na, os, ag, cx, hW _ _ _ hE⟩
  · refine I.call (ch := []) ?_ (hok.kept inG) ag (fun _ z => nomatch z)
    refine ⟨fun b o e n hb _ => inG b o (ub.keep b o e n hb), fun b o e n hb _ => ?_, fun b o e n _ => ub.free b o e n, fun b o e _ => ?_,
      ub.tups, ub.frzs, ub.tbls⟩
    · obtain ⟨sl, q⟩ := ub.slot b o e hb
      exact ⟨sl, (frG b hb).trans q⟩
    · by_cases hb : b ∈ frs X.stack
      · obtain ⟨sl, q⟩ := ub.slot b o e hb
        exact ⟨_, (frG b hb).trans q⟩
      · obtain ⟨o', q⟩ := ub.there b o e hb
        exact ⟨o', inG b o' q⟩
  · intro b o e hb
    obtain ⟨e1, e2 | e2⟩ := ofG b o e
    · obtain ⟨o', q⟩ := Option.isSome_iff_exists.mp e2
      have z := fl.1 b o' q
      rw [e1] at z
      cases z
      exact q
    · exact absurd e2 hb
theorem XE.new {a : Addr} {oe : Obj} {vs : Array Value} {cls : Value} {d : Option Addr} {c : Value} (I : Inv X pins σ H sI)
    (k : ∀ b o, sI.heap.get? b = some o → s'.heap.get? b = some o) (hne : sI.heap.get? a = none) (he : s'.heap.get? a = some oe)
    (hz : Zx cls d c oe) (hd : oe.data = .fields vs) (h1 : vs[1]? = some .none) (na : H a = none) (os : s'.os = sI.os)
    (ag : AllBare s'.gens) (cx : CtxOk H c) (w : W cls d σ H) : XE X W (.ref a) s' := by
  have noB : ∀ l, (PySem.W.hideAll sI.heap l).get? a = none := by
    intro l
    cases q : (PySem.W.hideAll sI.heap l).get? a with
    | none => rfl
    | some o =>
      have := PySem.W.of_hideAll l q
      rw [hne] at this
      cases this
  refine ⟨a, PySem.W.hideAll sI.heap (frs X.stack), sI, pins, σ, H, cls, d, c, rfl, ?_⟩
  refine ⟨I, fun b o e hb => PySem.W.hideAll_get _ e hb, .of_keeps k, .inl ⟨fun b o e => k b o (PySem.W.of_hideAll _ e), noB _, ?_, oe, vs, he, hz, hd, h1⟩,
    na, os, ag, cx, w⟩
  exact .of_keeps (fun b o e _ => ⟨o, k b o e, rfl⟩) (funFrames_none I.stack fun b hb => PySem.W.hideAll_none _ hb)
theorem XE.leave (hs : X.stack = X.env :: X.outer) (hf : X.env.frame = some X.env.locals) (hex : X.ex = [])
    {E₁ : Value → Shared → Prop} (hW : ∀ cls d σ H, W cls d σ H → E cls d H) {u : Value} (x : XE X W u s') :
    wpAny (model X.prog X.w) X.A (leaving X.env u) (fun _ s'' => CX X.prog X.w X.outer X.H_0 X.s_0 E u s'') E₁ s' := by
  obtain ⟨a, B, sI, pins, σ, H, cls, d, c, rfl, A⟩ := x
  obtain ⟨I, nb, up, sky, na, os, ag, cx, w⟩ := A
  have hfr : X.A.frames = some (X.env :: X.outer) := by rw [I.ok.frames, hs]
  have nst : ∀ b o, X.s_0.heap.get? b = some o → b ∉ X.fs → b ∉ frs X.stack := by
    intro b o e hb hm
    rcases List.mem_cons.mp (I.stkSub b hm) with z | z
    · have h1 := Heap.lt_size e
      have h2 := I.ok.above
      rw [z] at h1
      exact absurd (Nat.lt_of_lt_of_le h1 h2) (Nat.lt_irrefl _)
    · exact hb z
  have nex : ∀ b, b ∉ X.ex := by intro b; rw [hex]; simp
  have hokB := I.inGround nb
  have fin : ∀ h', HandSPX.FlyingZ B X.outer a (Zx cls d c) h' → s'.heap.UpToSlots h' →
      CX X.prog X.w X.outer X.H_0 X.s_0 E (.ref a) { s' with heap := h' } := by
    intro h' fl up'
    refine ⟨a, B, H, cls, d, c, rfl, fl, hokB, ?_, na, os.trans I.os, ag, cx, hW _ _ _ _ w⟩
    refine ⟨fun b o e n hb => nb b o (I.base.keep b o e n hb (nex b)) (nst b o e hb), fun b o e hb => ?_,
      fun b o e n => I.base.free b o e n (nex b), fun b o e hb => ?_, I.base.tups, I.base.frzs, I.base.tbls⟩
    · obtain ⟨_, o0, e0, hnf⟩ := I.ok.funs.mem hb
      rw [e] at e0
      cases e0
      obtain ⟨s1, q1⟩ := I.base.slot b o e (I.ok.frf b hb) hb (nex b)
      obtain ⟨s2, q2⟩ := up b _ q1 hnf
      obtain ⟨s3, q3⟩ := up' b _ q2 hnf
      exact ⟨s3, q3⟩
    · obtain ⟨o', q⟩ := I.base.there b o e (nex b)
      exact ⟨o', nb b o' q (nst b o e hb)⟩
  rw [hs] at sky
  rcases sky with ⟨hB, hn, hl, oe, vs, he, hz, hd, h1⟩ | fl | hd
  · exact PySem.PXN.leaving_firstZ Zx.steady hfr hl hf he hB hn hd h1 hz fin
  · exact PySem.PXN.leaves_onZ Zx.steady hfr hf fl fin
  · exact HandSPX.leaves_heldZ hf hd fin
theorem takes_of (hs : X.stack = X.env :: X.outer) (hf : X.env.frame = some X.env.locals) (hex : X.ex = []) {E₁ : Value → Shared → Prop}
    (hx : X.xe = fun e s' => wpAny (model X.prog X.w) X.A (leaving X.env e) (fun _ s'' => CX X.prog X.w X.outer X.H_0 X.s_0 E e s'') E₁ s') :
    Takes X (fun cls d _ H => E cls d H) := by
  intro u s' x
  rw [hx]
  exact XE.leave (W := fun cls d _ H => E cls d H) (E := E) hs hf hex (fun _ _ _ _ h => h) x
/-- what a callee lets out, where we let it out too -/
theorem passes_call (tk : Takes X W) (hW : ∀ cls d σ H, E cls d H → W cls d σ H) : Passes (CX X.prog X.w) X E :=
  fun _ σ _ _ e s' I c => tk e s' (XE.of_call I (fun cls d H' h => hW cls d σ H' h) c)
theorem passAt (tk : Takes X W) (σ : St) : PassesAt (CX X.prog X.w) X σ (WE W σ) :=
  fun _ _ _ e s' I c => tk e s' (XE.of_call I (fun _ _ _ h => h) c)
theorem passE0 : Passes (CX X.prog X.w) X E0 := by
  rintro _ _ _ _ _ _ _ ⟨_, _, _, _, _, _, _, _, _, _, _, _, _, _, z⟩
  exact z.elim
theorem land {M : Model} {A : Around} {E₁ : Value → Shared → Prop} {env : Env} {outer : List Env} {L a : Addr} {Z : Obj → Prop} {Q : Unit → Shared → Prop}
    (hZ : PySem.PXN.Steady1 Z) (hfr : A.frames = some (env :: outer)) (hf : env.frame = some L) (x : Sky B (env :: outer) a Z L s.heap)
    (hQ : ∀ h', HandSPX.FlyingZ B (env :: outer) a Z h' → s.heap.UpToSlots h' → Q () { s with heap := h' }) :
    wpAny M A (noteFrame (.ref a) env) (fun _ s₂ => wpAny M A (setFlight (.ref a) none) Q E₁ s₂) E₁ s := L2N.Sky.land hZ hfr hf x hQ
end
/-- raise where nothing is handled -/
theorem ps_raise {X : Cx} {W : WX} {e : Expr} {t : St → Hp → XK → Prop} {pos : Pos} (hc : X.calm = true) (tk : Takes X W) (he : L2N.PMk X e t) :
    PS X (.Raise (some e) none pos) (fun _ σ H => t σ H fun cls d H' => W cls d σ H') := by
  refine ⟨fun pins s σ H D I h => ?_⟩
  show wpAny _ _ (do standAt pos; raiseStmt X.env (some (do let v ← eval e X.env; standAt pos; pure v)) none) _ _ _
  refine wpAny_bind (wpAny_standAt (raise_made (I.ok.hd hc) (wpAny_bind (thn (he pins s σ H _ I h) fun u s1 hu => wpAny_bind (wpAny_standAt (wpAny_pure ?_))))))
  obtain ⟨a, oe, vs, sI, H', cls, d, rfl, J, k, hne, ha, hz, hd, h1, na, os, ag, r, q⟩ := hu
  obtain ⟨r1, r2⟩ := r (model X.prog X.w) s1.heap (J.kIn.keeps k)
  exact ⟨a, oe, vs, cls, rfl, ha, hz.1, hd, h1, r1, r2, tk _ _ (XE.new (c := .none) J k hne ha hz hd h1 na os ag (.inl rfl) q)⟩
end WX
/-! ## WExc2 -/
set_option Elab.async false
set_option linter.all false
set_option maxRecDepth 100000
set_option maxHeartbeats 2000000
/-! Except clauses: the exception lands, the suite runs, what may leave it. -/
namespace WX
open PySem PySem.Spec PyProof.Rows L2
theorem fly_more {B h h' : Heap} {l : List Env} {a : Addr} {Z : Obj → Prop} (fl : HandSPX.FlyingZ B l a Z h) (k : ∀ b o, h.get? b = some o → h'.get? b = some o) :
    HandSPX.FlyingZ B l a Z h' := by
  obtain ⟨f1, f2, f3, oe, vs, T, oT, ts, q1, q2, q3, q4, q5, q6, q7, q8, q9⟩ := fl
  exact ⟨fun b o e => k _ _ (f1 b o e), f2, f3.of_keeps fun b o e _ => ⟨o, k _ _ e, rfl⟩, oe, vs, T, oT, ts, k _ _ q1, q2, q3, q4, q5, q6, k _ _ q7, q8, q9⟩
/-- an exception at a, on the ground of X's frame -/
structure Landed (X : Cx) (pins : List (Addr × Obj)) (a : Addr) (B : Heap) (sI : Shared) (σ : St) (H : Hp) (Z : Obj → Prop) (s' : Shared) : Prop where
  inv : Inv X pins σ H sI
  nb : ∀ b o, sI.heap.get? b = some o → b ∉ frs X.stack → B.get? b = some o
  up : sI.heap.UpToSlots s'.heap
  fl : HandSPX.FlyingZ B (X.env :: X.outer) a Z s'.heap
  na : H a = none
  os : s'.os = sI.os
  bare : AllBare s'.gens
section
variable {X : Cx} {pins : List (Addr × Obj)} {σ : St} {H : Hp} {sI s s' : Shared} {B : Heap} {a : Addr} {Z : Obj → Prop}
theorem Landed.here (l : Landed X pins a B sI σ H Z s') : Inv X pins σ H s' := l.inv.landed l.nb l.fl.1 l.up l.os l.bare
theorem Landed.nfr (l : Landed X pins a B sI σ H Z s') (hs : X.stack = X.env :: X.outer) : a ∉ frs X.stack := by
  intro hm
  obtain ⟨oe, vs, e, _, dd⟩ := l.fl.there
  rw [hs] at hm
  obtain ⟨_, o', e', hnf⟩ := l.fl.2.2.1.mem hm
  rw [e] at e'
  cases e'
  exact hnf _ dd
theorem Landed.nL (l : Landed X pins a B sI σ H Z s') (hs : X.stack = X.env :: X.outer) (hf : X.env.frame = some X.env.locals) : a ≠ X.env.locals := by
  intro z
  refine l.nfr hs ?_
  rw [hs, z]
  exact List.mem_filterMap.mpr ⟨X.env, List.mem_cons_self, hf⟩
theorem Landed.nF (l : Landed X pins a B sI σ H Z s') (hs : X.stack = X.env :: X.outer) : a ∉ X.fs := by
  intro hm
  refine l.nfr hs ?_
  rw [hs]
  obtain ⟨e, he, q⟩ := List.mem_filterMap.mp hm
  exact List.mem_filterMap.mpr ⟨e, List.mem_cons_of_mem _ he, q⟩
theorem Landed.n0 (l : Landed X pins a B sI σ H Z s') (hs : X.stack = X.env :: X.outer) (hex : X.ex = []) : X.s_0.heap.get? a = none := by
  cases e : X.s_0.heap.get? a with
  | none => rfl
  | some o =>
    obtain ⟨o', q⟩ := l.inv.base.there a o e (by rw [hex]; simp)
    have z := l.nb a o' q (l.nfr hs)
    rw [l.fl.2.1] at z
    cases z
theorem Landed.np (l : Landed X pins a B sI σ H Z s') (hs : X.stack = X.env :: X.outer) : ∀ p ∈ X.pn ++ pins, p.1 ≠ a := by
  intro p hp z
  obtain ⟨e, n, ne, nf, _⟩ := l.inv.pin p hp
  have q := l.nb p.1 p.2 e fun hm => (List.mem_cons.mp (l.inv.stkSub p.1 hm)).elim ne nf
  rw [z, l.fl.2.1] at q
  cases q
theorem Landed.more {s2 : Shared} (l : Landed X pins a B sI σ H Z s') (k : ∀ b o, s'.heap.get? b = some o → s2.heap.get? b = some o) (ho : s2.os = s'.os) (hb : AllBare s2.gens) :
    Landed X pins a B sI σ H Z s2 := ⟨l.inv, l.nb, l.up.trans (.of_keeps k), fly_more l.fl k, l.na, ho.trans l.os, hb⟩
/-- a record that stood beside becomes a tracked one -/
theorem track {oe : Obj} {vs : Array Value} (I : Inv X pins σ H s) (h0 : ∀ o, X.s_0.heap.get? a = some o → X.H_0 a ≠ none) (ha : s.heap.get? a = some oe) (hd : oe.data = .fields vs) (hc : vs[2]? = some Value.none)
    (na : H a = none) (nL : a ≠ X.env.locals) (np : ∀ p ∈ X.pn ++ pins, p.1 ≠ a) : Inv X pins σ (upd H a (ctxO a)) s := by
  have old : ∀ b o, X.s_0.heap.get? b = some o → X.H_0 b = none → b ≠ a := by
    intro b o e n z
    rw [z] at e n
    exact h0 o e n
  refine ⟨I.ok, I.os, I.bare, ⟨I.base.keep, I.base.slot, fun b o e n hx => ?_, I.base.there, fun b xs e => ?_, fun b o u e => ?_, fun b ps e => ?_⟩, I.loc, I.cell, ?_, fun x c e => ?_, fun p hp => ?_, fun b o e => ?_, I.len⟩
  · rw [upd_ne (old b o e n)]
    exact I.base.free b o e n hx
  · have q := I.base.tups b xs e
    rw [upd_ne (ne_of_none q na)]
    exact q
  · have q := I.base.frzs b o u e
    rw [upd_ne (ne_of_none q na)]
    exact q
  · obtain ⟨m, q⟩ := I.base.tbls b ps e
    exact ⟨m, by rw [upd_ne (ne_of_none q na)]; exact q⟩
  · rw [upd_ne (Ne.symm nL)]
    exact I.free
  · have q : c ≠ a := by
      intro z
      obtain ⟨v, o, e1, e2⟩ := I.cell x c e
      rw [z, ha] at e1
      cases e1
      rw [hd] at e2
      cases e2
    rw [upd_ne q]
    exact I.freeC x c e
  · obtain ⟨q1, q2, q3⟩ := I.pin p hp
    exact ⟨q1, by rw [upd_ne (np p hp)]; exact q2, q3⟩
  · by_cases hb : b = a
    · subst hb
      rw [upd_same] at e
      cases e
      exact ctx_ok ha hd hc
    · rw [upd_ne hb] at e
      refine (I.hok b o e).stay (fun _ _ _ q => q) (fun c q => ?_) fun c xs q => ?_
      · rw [upd_ne (ne_of_none q na)]
        exact q
      · rw [upd_ne (ne_of_none q na)]
        exact q
end
/-- how a clause's test answers for an exception of the class cls -/
def TestOk (X : Cx) (test : Expr) (cls : Value) (b : Bool) : Prop :=
  ∀ (a : Addr) (oe : Obj) (pn : List (Addr × Obj)) (σ : St) (H : Hp) (s : Shared) (Q : Bool → Shared → Prop) (E : Value → Shared → Prop), Inv (X.suite a ((a, oe) :: pn)) [] σ H s → s.heap.get? a = some oe → oe.cls = cls →
    (∀ h' t, (∀ b o, s.heap.get? b = some o → h'.get? b = some o) → Q b { s with heap := h', toks := t }) →
    wpAny (model X.prog X.w) (X.A.mark (some (.ref a))) (eval test X.env) (fun c s1 => wpAny (model X.prog X.w) (X.A.mark (some (.ref a))) (excMatches (.ref a) c) Q E s1) E s
theorem test_name {X : Cx} {x : Str} {c cls : Value} {b : Bool} {np : Pos} (hc : Names X x c) (hm : PySem.W.exmOne X.K cls c = some b) : TestOk X (.Name x np) cls b := by
  intro a oe pn σ H s Q E I ha ho q
  have LT : PySem.W.Looks (model X.prog X.w) s.heap (typeOf (.ref a)) cls := fun A Q E s k q => wpAny_typeOf_ref (k _ _ ha) (by rw [ho]; exact q)
  have LM := PySem.W.exm_one (M := model X.prog X.w) I.kIn LT hm
  have fin : wpAny (model X.prog X.w) (X.A.mark (some (.ref a))) (excMatches (.ref a) c) Q E s := LM.here (q s.heap s.toks fun _ _ e => e)
  obtain ⟨hg, hdbg, hm | ⟨hm, hv, hnn⟩⟩ := hc
  · exact ld_glob (X := X.suite a ((a, oe) :: pn)) I hg hm fin hdbg
  · exact ld_blt (X := X.suite a ((a, oe) :: pn)) I hg hm hv fin hnn hdbg
theorem test_tup {X : Cx} {x y : Str} {C D : Addr} {cls : Value} {b : Bool} {p1 p2 pos : Pos} {k : Nat} (g1 : Gl X x) (g2 : Gl X y) (h1 : X.mg x = some (.ref C)) (h2 : X.mg y = some (.ref D))
    (hm : PySem.W.exmAny X.K cls [.ref C, .ref D] = some b) (d1 : (x == ("__debug__" : Str)) = false := by decide) (d2 : (y == ("__debug__" : Str)) = false := by decide) :
    TestOk X (.Tuple [.Name x p1, .Name y p2] k pos) cls b := by
  intro a oe pn σ H s Q E I ha ho q
  have gl : ∀ {z : Str} {D : Addr} {p : Pos} {R : Value → Shared → Prop}, Gl X z → X.mg z = some (.ref D) → (z == ("__debug__" : Str)) = false → R (.ref D) s →
      wpAny (model X.prog X.w) (X.A.mark (some (.ref a))) (eval (.Name z p) X.env) R E s := by
    intro z D p R g h d r
    exact ld_glob (X := X.suite a ((a, oe) :: pn)) I g h r d
  have he : starEach [.Name x p1, .Name y p2] X.env = [(false, eval (.Name x p1) X.env), (false, eval (.Name y p2) X.env)] := by rfl
  refine Tuple_ ?_
  rw [he]
  show wpAny _ _ (spliced [(false, eval (.Name x p1) X.env), (false, eval (.Name y p2) X.env)]) _ _ _
  refine Calls.spliced_cons (gl g1 h1 d1 (Calls.spliced_cons (gl g2 h2 d2 (Calls.spliced_nil ?_))))
  refine wpAny_newObj_type ?_ (by show 2 ≤ sizeLine; decide)
  have k2 : ∀ (b : Addr) (o : Obj), s.heap.get? b = some o → (s.heap.push { cls := .type "tuple", data := .seq [Value.ref C, Value.ref D].toArray }).get? b = some o := fun b o e => Heap.get?_push_of_some _ e
  have LT : PySem.W.Looks (model X.prog X.w) (s.heap.push { cls := .type "tuple", data := .seq [Value.ref C, Value.ref D].toArray }) (typeOf (.ref a)) cls := fun A Q E s k q => wpAny_typeOf_ref (k _ _ (k2 _ _ ha)) (by rw [ho]; exact q)
  have LM := PySem.W.exm_tup2 (M := model X.prog X.w) (I.kIn.keeps k2) LT (Heap.get?_push_size _ rfl) hm
  exact LM.here (q _ s.toks k2)

/-! ### a clause whose suite raises from None -/
/-- a new exception in the air of a suite: its context is the one that is handled, at a1 -/
def XEs (Y : Cx) (a1 : Addr) (W : WX) (u : Value) (s' : Shared) : Prop :=
  ∃ a B sI pins σ H cls d, u = .ref a ∧ Inv Y pins σ H sI ∧ (∀ b o, sI.heap.get? b = some o → b ∉ frs Y.stack → B.get? b = some o) ∧ sI.heap.UpToSlots s'.heap ∧
    Sky B Y.stack a (Zx cls d (.ref a1)) Y.env.locals s'.heap ∧ H a = none ∧ s'.os = sI.os ∧ AllBare s'.gens ∧ W cls d σ H
open HotX in
theorem ps_raiseFN {X : Cx} {W : WX} {e : Expr} {t : St → Hp → XK → Prop} {j : Nat} {cpos pos : Pos} {p : Addr × Obj} (hh : X.A.handled = some (.ref p.1)) (hv : ∃ vs : Array Value, p.2.data = .fields vs ∧ vs[2]? = some Value.none) (hp : p ∈ X.pn)
    (tk : ∀ u s', XEs X p.1 W u s' → X.xe u s') (he : L2H.PMk5 X e t) : PS X (.Raise (some e) (some (.Constant .none j cpos)) pos) (fun _ σ H => t σ H fun cls d H' => W cls d σ H') := by
  refine ⟨fun pins s σ H D I h => ?_⟩
  obtain ⟨v1, e1, c1⟩ := hv
  show wpAny _ _ (do standAt pos; raiseStmt X.env (some (do let v ← eval e X.env; standAt pos; pure v)) (some (do let v ← eval (.Constant .none j cpos) X.env; standAt pos; pure v))) _ _ _
  refine wpAny_bind (wpAny_standAt (raise_made_hotN (x1 := p.1) (fun s2 Q2 q2 => wpAny_bind (Constant_none (wpAny_bind (wpAny_standAt (wpAny_pure q2))))) (wpAny_bind (thn (he pins s σ H _ I h) fun u s1 hu => wpAny_bind (wpAny_standAt (wpAny_pure ?_))))))
  obtain ⟨⟨a, oe, vs, sI, H', cls, d, rfl, J, k, hne, ha, hz, hd, h1, na, os, ag, r, q⟩, six⟩ := hu
  have n4 : 4 < vs.size := six a oe vs rfl ha hd
  have off : ∀ b o, sI.heap.get? b = some o → a ≠ b := by
    intro b o z y
    rw [← y, hne] at z
    cases z
  have k4 : ∀ b o, sI.heap.get? b = some o → (noneFrom s1.heap a).get? b = some o := by
    intro b o z
    rw [noneFrom_other (off b o z)]
    exact k b o z
  have r1 := (r (model X.prog X.w) s1.heap (J.kIn.keeps k)).1
  have r2 := (r (model X.prog X.w) (noneFrom s1.heap a) (J.kIn.keeps k4)).2
  have P1 := (J.pin p (List.mem_append_left _ hp)).1
  have nap : p.1 ≠ a := Ne.symm (off _ _ P1)
  obtain ⟨ha4, hd4⟩ := noneFrom_at ha hd
  refine ⟨a, oe, vs, cls, rfl, ha, hz.1, hd, h1, n4, nap, ⟨hh, p.2, v1, k _ _ P1, e1, c1⟩, r1, r2, tk _ _ ?_⟩
  have hd5 := Obj.data_mapFields hd4 (·.setIfInBounds 2 (Value.ref p.1))
  have ha5 := Heap.get?_update_self (Obj.mapFields (·.setIfInBounds 2 (Value.ref p.1))) ha4 (Obj.isFreed_of_fields hd5)
  have k5 : ∀ b o, sI.heap.get? b = some o → ((noneFrom s1.heap a).update a (Obj.mapFields (·.setIfInBounds 2 (Value.ref p.1)))).get? b = some o := by
    intro b o z
    rw [Heap.get?_update_other _ _ (off b o z)]
    exact k4 b o z
  have noB : (PySem.W.hideAll sI.heap (frs X.stack)).get? a = none := by
    cases z : (PySem.W.hideAll sI.heap (frs X.stack)).get? a with
    | none => rfl
    | some o =>
      have := PySem.W.of_hideAll _ z
      rw [hne] at this
      cases this
  refine ⟨a, PySem.W.hideAll sI.heap (frs X.stack), sI, pins, σ, H', cls, d, rfl, J, fun b o e hb => PySem.W.hideAll_get _ e hb, .of_keeps k5,
    .inl ⟨fun b o z => k5 b o (PySem.W.of_hideAll _ z), noB, .of_keeps (fun b o e _ => ⟨o, k5 b o e, rfl⟩) (funFrames_none J.stack fun b hb => PySem.W.hideAll_none _ hb), _, _, ha5, ⟨?_, ?_, ?_⟩, hd5, ?_⟩, na, os, ag, q⟩
  · rw [Obj.cls_mapFields, Obj.cls_mapFields, Obj.cls_mapFields]
    exact hz.1
  · rw [HandSPX.dict_mapFields, HandSPX.dict_mapFields, HandSPX.dict_mapFields]
    exact hz.2.1
  · intro ws hw
    rw [hd5] at hw
    cases hw
    have n2 : 2 < vs.size := by omega
    simp [n2]
  · exact set_other (by decide) (set_other (by decide) (set_other (by decide) h1))
/-- how the suite's exception leaves the try: what was handled is tracked from then on -/
def WS (a : Addr) (Wout : WX) : WX := fun cls d σ H => H a = none → Wout cls d σ (upd H a (ctxO a))
section
variable {X : Cx} {body suite : List Stmt} {b₀ : Stmt} {test : Expr} {pos pos' : Pos} {tb : WX → TS} {ts : Addr → Value → Option Addr → TS} {Wout : WX}
theorem ps_tryA {m : Value → Prop} (hs : X.stack = X.env :: X.outer) (hf : X.env.frame = some X.env.locals) (hex : X.ex = []) (tk : Takes X Wout)
    (hpa : ∀ hd : Option Value, PassesOwnAt (model X.prog X.w) (X.A.mark hd) X.A X.env X.xe) (ht : ∀ cls, m cls → TestOk X test cls true)
    (hb : ∀ (W : WX) (pn : List (Addr × Obj)) (xe : Value → Shared → Prop), L2N.Takes (X.tr pn xe) W → PSs (X.tr pn xe) body (tb W))
    (hsu : ∀ (a : Addr) (oe : Obj) (cls : Value) (d : Option Addr) (pn : List (Addr × Obj)), Zc cls d oe → (∃ vs : Array Value, oe.data = .fields vs ∧ vs[2]? = some Value.none) →
      (∀ u s', XEs (L2H.suiteX X a ((a, oe) :: pn)) a (WS a Wout) u s' → X.xe u s') → PSs (L2H.suiteX X a ((a, oe) :: pn)) (b₀ :: suite) (ts a cls d)) :
    PS X (.Try body [.ExceptHandler (some test) none (b₀ :: suite) pos'] [] [] pos) (fun D σ H => tb (fun cls d σ' H' => m cls ∧ ∀ a, H' a = none → ts a cls d D σ' H') D σ H) := by
  refine ⟨fun pins s σ H D I h => ?_⟩
  have ok := I.ok
  have hfr : X.A.frames = some (X.env :: X.outer) := by rw [ok.frames, hs]
  refine wpAny_Try_except ?_
  refine wpAny_mono ((hb _ (X.pn ++ pins) (fun e s₁ => wpAny (model X.prog X.w) X.A (noteFrame e X.env) (fun _ s₂ => wpAny (model X.prog X.w) X.A (setFlight e none) (fun _ s₃ =>
    wpAny (model X.prog X.w) X.A (handleBy e X.env [.ExceptHandler (some test) none (b₀ :: suite) pos']) (SP X pins D) X.xe s₃) X.xe s₂) X.xe s₁) ?_).run [] s σ H D (I.toTry _) h) (fun f s1 hsp => ?_) (fun e s1 he => he)
  · rintro u s' ⟨a, B, sI, pins', σ', H', cls, d, rfl, J', nb, up, sky, na, os, ag, hm, hsuite⟩
    have sky' : Sky B (X.env :: X.outer) a (Zx cls d .none) X.env.locals s'.heap := by rw [← hs]; exact sky
    show wpAny (model X.prog X.w) X.A (noteFrame (.ref a) X.env) _ _ _
    refine land Zx.steady hfr hf sky' fun h3 fl3 up3 => ?_
    have L3 : Landed X pins a B sI σ' H' (Zx cls d .none) { s' with heap := h3 } := ⟨J'.ofTry ok, nb, up.trans up3, fl3, na, os, ag⟩
    obtain ⟨oe3, vs3, he3, hz3, hd3⟩ := fl3.there
    refine wpAny_handleBy_cons (codeAny_handlers_test ?_) (by intro q; cases q)
    refine wpAny_mono (ht cls hm a oe3 (X.pn ++ pins) σ' H' { s' with heap := h3 } _ _ (L3.here.suite he3 hd3 na (L3.nL hs hf) (L3.nF hs)) he3 hz3.1 (fun h4 t4 k4 => ?_)) (fun _ _ z => z) (fun _ _ z => z)
    have L4 : Landed X pins a B sI σ' H' (Zx cls d .none) { s' with heap := h4, toks := t4 } := L3.more k4 rfl ag
    refine codeAny_handlers_suite ?_
    refine HandSPX.lands_againZ L4.fl fun h5 fl5 up5 => ?_
    have L5 : Landed X pins a B sI σ' H' (Zx cls d .none) { s' with heap := h5, toks := t4 } := ⟨L4.inv, nb, L4.up.trans up5, fl5, na, os, ag⟩
    obtain ⟨oe5, vs5, he5, hz5, hd5⟩ := fl5.there
    have S5 := L5.here.suite he5 hd5 na (L5.nL hs hf) (L5.nF hs)
    have tkS : ∀ u s', XEs (L2H.suiteX X a ((a, oe5) :: (X.pn ++ pins))) a (WS a Wout) u s' → X.xe u s' := by
      rintro u s2 ⟨a2, B2, sI2, pn2, σ2, H2, cls2, d2, rfl, I2, nb2, up2, sky2, na2, os2, ag2, w2⟩
      have P := I2.pin (a, oe5) (List.mem_append_left _ List.mem_cons_self)
      have I3 : Inv X pins σ2 H2 sI2 := L2H.unsuiteX I2 ok
      have nB : B2.get? a2 = none := by rcases sky2 with z | z | z <;> exact z.2.1
      have ne : a2 ≠ a := by
        intro z
        have q := nb2 a oe5 P.1 (L5.nfr hs)
        rw [← z, nB] at q
        cases q
      refine tk _ _ ⟨a2, B2, sI2, pins, σ2, upd H2 a (ctxO a), cls2, d2, .ref a, rfl, ?_⟩
      exact ⟨track I3 (fun o e => by rw [L5.n0 hs hex] at e; cases e) P.1 hd5 (hz5.2.2 vs5 hd5) P.2.1 (L5.nL hs hf) (L5.np hs), nb2, up2, sky2, by rw [upd_ne ne]; exact na2, os2, ag2, .inr ⟨a, rfl, upd_same⟩, w2 P.2.1⟩
    refine wpAny_mono ((hsu a oe5 cls d (X.pn ++ pins) hz5.zc ⟨vs5, hd5, hz5.2.2 vs5 hd5⟩ tkS).run [] _ σ' H' _ (L2H.suiteX_of S5) (hsuite a na)) (fun f s6 hsp => ?_) (fun e6 s6 z => hpa (some (.ref a)) e6 s6 z)
    cases f with
    | next =>
      obtain ⟨σ6, H6, S6, q6⟩ := hsp
      exact ⟨_, _, L2H.unsuiteX S6 ok, q6⟩
    | brk =>
      obtain ⟨σ6, H6, S6, q6⟩ := hsp
      exact ⟨_, _, L2H.unsuiteX S6 ok, q6⟩
    | cont =>
      obtain ⟨σ6, H6, S6, q6⟩ := hsp
      exact ⟨_, _, L2H.unsuiteX S6 ok, q6⟩
    | ret u =>
      obtain ⟨v6, σ6, H6, S6, r6, q6⟩ := hsp
      exact ⟨_, _, _, L2H.unsuiteX S6 ok, r6, q6⟩
  · cases f with
    | next =>
      obtain ⟨σ', H', J', q⟩ := hsp
      exact wpAny_execs_nil ⟨σ', H', J'.ofTry ok, q⟩
    | brk =>
      obtain ⟨σ', H', J', q⟩ := hsp
      exact ⟨σ', H', J'.ofTry ok, q⟩
    | cont =>
      obtain ⟨σ', H', J', q⟩ := hsp
      exact ⟨σ', H', J'.ofTry ok, q⟩
    | ret u =>
      obtain ⟨v, σ', H', J', r, q⟩ := hsp
      exact ⟨v, σ', H', J'.ofTry ok, r, q⟩
end
end WX
/-! ## WExc3 -/
set_option Elab.async false
set_option linter.all false
set_option maxRecDepth 100000
set_option maxHeartbeats 2000000
/-! A clause «except X as n» whose suite may raise the same again. -/
namespace WX
open PySem PySem.Spec PyProof.Rows L2
section
variable {X : Cx} {pins : List (Addr × Obj)} {σ : St} {H : Hp} {sI s s' : Shared} {B : Heap} {a T : Addr} {Z : Obj → Prop}
/-- beside: no tracked thing, no frame, no cell, no pin, nothing that stood at the entry -/
structure Beside (X : Cx) (pins : List (Addr × Obj)) (H : Hp) (s : Shared) (b : Addr) : Prop where
  na : H b = none
  nL : b ≠ X.env.locals
  nfr : b ∉ frs X.stack
  nF : b ∉ X.fs
  n0 : X.s_0.heap.get? b = none
  np : ∀ p ∈ X.pn ++ pins, p.1 ≠ b
  nc : ∀ x c, X.env.cells.lookup x = some c → c ≠ b
theorem cell_ne (I : Inv X pins σ H s) {o : Obj} {vs : Array Value} (h : s.heap.get? a = some o) (hd : o.data = .fields vs) : ∀ x c, X.env.cells.lookup x = some c → c ≠ a := by
  intro x c e z
  obtain ⟨v, o', e1, e2⟩ := I.cell x c e
  rw [z, h] at e1
  cases e1
  rw [hd] at e2
  cases e2
theorem Landed.beside (l : Landed X pins a B sI σ H Z s') (hs : X.stack = X.env :: X.outer) (hf : X.env.frame = some X.env.locals) (hex : X.ex = []) : Beside X pins H s' a := by
  obtain ⟨oe, vs, e, _, dd⟩ := l.fl.there
  exact ⟨l.na, l.nL hs hf, l.nfr hs, l.nF hs, l.n0 hs hex, l.np hs, cell_ne l.here e dd⟩
/-- the traceback record too -/
theorem Landed.besideT (l : Landed X pins a B sI σ H Z s') (hs : X.stack = X.env :: X.outer) (hf : X.env.frame = some X.env.locals) (hex : X.ex = []) {oT : Obj} {ts : Array Value} (hB : B.get? T = none) (hT : s'.heap.get? T = some oT) (hd : oT.data = .fields ts) :
    Beside X pins H s' T := by
  have nfr : T ∉ frs X.stack := by
    intro hm
    rw [hs] at hm
    obtain ⟨_, o', e', hnf⟩ := l.fl.2.2.1.mem hm
    rw [hT] at e'
    cases e'
    exact hnf _ hd
  refine ⟨?_, ?_, nfr, ?_, ?_, ?_, cell_ne l.here hT hd⟩
  · cases q : H T with
    | none => rfl
    | some u =>
      obtain ⟨o, z⟩ := objOk_get (l.inv.inGround l.nb T u q)
      rw [hB] at z
      cases z
  · intro z
    refine nfr ?_
    rw [hs, z]
    exact List.mem_filterMap.mpr ⟨X.env, List.mem_cons_self, hf⟩
  · intro hm
    refine nfr ?_
    rw [hs]
    obtain ⟨e, he, q⟩ := List.mem_filterMap.mp hm
    exact List.mem_filterMap.mpr ⟨e, List.mem_cons_of_mem _ he, q⟩
  · cases e : X.s_0.heap.get? T with
    | none => rfl
    | some o =>
      obtain ⟨o', q⟩ := l.inv.base.there T o e (by rw [hex]; simp)
      have z := l.nb T o' q nfr
      rw [hB] at z
      cases z
  · intro p hp z
    obtain ⟨e, n, ne, nf, _⟩ := l.inv.pin p hp
    have q := l.nb p.1 p.2 e fun hm => (List.mem_cons.mp (l.inv.stkSub p.1 hm)).elim ne nf
    rw [z, hB] at q
    cases q
/-- the state without two records that stand beside -/
theorem without {G : Heap} (I : Inv X pins σ H s) (ba : Beside X pins H s a) (bT : Beside X pins H s T) (g : ∀ b, b ≠ a → b ≠ T → G.get? b = s.heap.get? b) : Inv X pins σ H { s with heap := G } := by
  have off : ∀ {b : Addr} {o : Obj}, X.s_0.heap.get? b = some o → b ≠ a ∧ b ≠ T := by
    intro b o e
    refine ⟨fun z => ?_, fun z => ?_⟩
    · rw [z, ba.n0] at e; cases e
    · rw [z, bT.n0] at e; cases e
  have gg : ∀ {b : Addr}, b ≠ a ∧ b ≠ T → G.get? b = s.heap.get? b := fun h => g _ h.1 h.2
  have gc : ∀ {x : Str} {c : Addr} {v : Option Value}, X.env.cells.lookup x = some c → s.heap.IsCell c v → G.IsCell c v := by
    intro x c v e ⟨o, e1, e2⟩
    exact ⟨o, (gg ⟨ba.nc x c e, bT.nc x c e⟩).trans e1, e2⟩
  refine ⟨I.ok, I.os, I.bare, ⟨fun b o e n hb hx => ?_, fun b o e n hb hx => ?_, I.base.free, fun b o e hx => ?_, I.base.tups, I.base.frzs, I.base.tbls⟩, ?_, fun x c e => ?_, I.free, I.freeC, fun p hp => ?_, fun b o e => ?_, I.len⟩
  · exact (gg (off e)).trans (I.base.keep b o e n hb hx)
  · obtain ⟨sl, q⟩ := I.base.slot b o e n hb hx
    exact ⟨sl, (gg (off e)).trans q⟩
  · obtain ⟨o', q⟩ := I.base.there b o e hx
    exact ⟨o', (gg (off e)).trans q⟩
  · obtain ⟨m, ⟨o, es, ep, ho, r⟩, hl⟩ := I.loc
    refine ⟨m, ⟨o, es, ep, (gg ⟨Ne.symm ba.nL, Ne.symm bT.nL⟩).trans ho, r⟩, fun i x v e1 e2 e3 => ?_⟩
    obtain ⟨u, ru, q⟩ := hl i x v e1 e2 e3
    refine ⟨u, ru, ?_⟩
    rcases q with q | ⟨k, c, e, z⟩
    · exact .inl q
    · exact .inr ⟨k, c, e, gc e z⟩
  · obtain ⟨v, q⟩ := I.cell x c e
    exact ⟨v, gc e q⟩
  · obtain ⟨q1, q2⟩ := I.pin p hp
    exact ⟨(gg ⟨ba.np p hp, bT.np p hp⟩).trans q1, q2⟩
  · have tr : ∀ {c : Addr} {u : HO}, H c = some u → c ≠ a ∧ c ≠ T := fun q => ⟨ne_of_none q ba.na, ne_of_none q bT.na⟩
    refine (I.hok b o e).stay (fun c v hc q => ?_) (fun _ q => q) fun _ _ q => q
    rcases hc with hc | hc
    · rw [hc] at q ⊢
      exact (gg (tr e)).trans q
    · exact (gg (tr hc)).trans q
/-- the context's record is left out of what is tracked -/
theorem untrack {x : Addr} (I : Inv X pins σ H s) (e : H x = some (ctxO x)) : Inv X pins σ (L2.del H x) s := by
  have ne : ∀ {b : Addr} {u : HO}, H b = some u → u ≠ ctxO x → b ≠ x := fun {b u} q d z => by
    rw [z, e] at q
    exact d (Option.some.inj q).symm
  have d1 : ∀ y, HO.own y ≠ ctxO x := fun y z => by cases z
  have d2 : ∀ y, HO.tup y ≠ ctxO x := fun y z => by cases z
  have d3 : ∀ o y, HO.frz o y ≠ ctxO x := fun o y z => by cases z
  have d4 : ∀ y, HO.tbl y ≠ ctxO x := fun y z => by cases z
  have dn : ∀ {b : Addr}, H b = none → L2.del H x b = none := fun {b} n => by
    by_cases z : b = x
    · rw [z, del_same]
    · rw [del_ne z]; exact n
  refine ⟨I.ok, I.os, I.bare, ⟨I.base.keep, I.base.slot, fun b o e n hx => dn (I.base.free b o e n hx), I.base.there, fun b xs q => ?_, fun b o u q => ?_, fun b ps q => ?_⟩, I.loc, I.cell, dn I.free, fun y c q => dn (I.freeC y c q), fun p hp => ?_, fun b o q => ?_, I.len⟩
  · have z := I.base.tups b xs q
    rw [del_ne (ne z (d2 _))]
    exact z
  · have z := I.base.frzs b o u q
    rw [del_ne (ne z (d3 _ _))]
    exact z
  · obtain ⟨m, z⟩ := I.base.tbls b ps q
    exact ⟨m, by rw [del_ne (ne z (d4 _))]; exact z⟩
  · obtain ⟨q1, q2, q3⟩ := I.pin p hp
    exact ⟨q1, dn q2, q3⟩
  · by_cases z : b = x
    · rw [z, del_same] at q
      cases q
    · rw [del_ne z] at q
      refine (I.hok b o q).stay (fun _ _ _ r => r) (fun c r => ?_) fun c xs r => ?_
      · rw [del_ne (ne r (d1 _))]
        exact r
      · rw [del_ne (ne r (d2 _))]
        exact r
/-- an exception that is raised again, in a frame that has it in hand -/
structure Again (X : Cx) (pins : List (Addr × Obj)) (σ : St) (H : Hp) (Z : Obj → Prop) (a T : Addr) (s : Shared) : Prop where
  inv : Inv X pins σ H s
  ba : Beside X pins H s a
  bT : Beside X pins H s T
  ne : T ≠ a
  ha : ∃ oe vs, s.heap.get? a = some oe ∧ Z oe ∧ oe.data = .fields vs ∧ vs[1]? = some (.ref T)
  hT : ∃ oT ts, s.heap.get? T = some oT ∧ oT.data = .fields ts ∧ ts[3]? = some (rawInt X.env.locals)
theorem Again.held (r : Again X pins σ H Z a T s) : ∃ (B : Heap) (sG : Shared), Inv X pins σ H sG ∧ (∀ b o, sG.heap.get? b = some o → b ∉ frs X.stack → B.get? b = some o) ∧ sG.heap.UpToSlots s.heap ∧ HandSPX.HeldZ B X.stack a Z X.env.locals s.heap ∧ sG.os = s.os := by
  obtain ⟨G, g1, g2⟩ := restrict s.heap (fun b => decide (b ≠ a ∧ b ≠ T))
  have gk : ∀ b, b ≠ a → b ≠ T → G.get? b = s.heap.get? b := fun b h1 h2 => g1 b (decide_eq_true ⟨h1, h2⟩)
  have ga : G.get? a = none := g2 a (by simp)
  have gT : G.get? T = none := g2 T (by simp)
  have up : ∀ b o, G.get? b = some o → s.heap.get? b = some o := by
    intro b o e
    have h1 : b ≠ a := fun z => by rw [z, ga] at e; cases e
    have h2 : b ≠ T := fun z => by rw [z, gT] at e; cases e
    exact (gk b h1 h2).symm.trans e
  have J : Inv X pins σ H { s with heap := G } := without r.inv r.ba r.bT gk
  have hn : ∀ {b : Addr}, G.get? b = none → (PySem.W.hideAll G (frs X.stack)).get? b = none := by
    intro b e
    cases z : (PySem.W.hideAll G (frs X.stack)).get? b with
    | none => rfl
    | some o =>
      have := PySem.W.of_hideAll _ z
      rw [e] at this
      cases this
  obtain ⟨oe, vs, e1, e2, e3, e4⟩ := r.ha
  obtain ⟨oT, ts, t1, t2, t3⟩ := r.hT
  refine ⟨PySem.W.hideAll G (frs X.stack), { s with heap := G }, J, fun b o e hb => PySem.W.hideAll_get _ e hb, .of_keeps up, ⟨fun b o e => up b o (PySem.W.of_hideAll _ e), hn ga, ?_, oe, vs, T, oT, ts, e1, e2, e3, e4, hn gT, r.ne, t1, t2, t3⟩, rfl⟩
  exact .of_keeps (fun b o e _ => ⟨o, up b o e, rfl⟩) (funFrames_none J.stack fun b hb => PySem.W.hideAll_none _ hb)
/-- the clause's name goes; what was in hand stays in hand -/
theorem Again.gone {M : Model} {A : Around} {E : Value → Shared → Prop} {i : Nat} {n : Str} {pos : Pos} {Q : Unit → Shared → Prop} (r : Again X pins σ H Z a T s) (hN : X.N.Nodup) (hi : X.N[i]? = some n) (hl : X.env.kindOf n = some .local)
    (h : ∀ s', Again X pins (σ.set i none) H Z a T s' → s'.os = s.os → s'.gens = s.gens → Q () s') : wpAny M A (do bindName X.env n .none; unbindBehindTheSuite X.env n pos) Q E s := by
  have I := r.inv
  obtain ⟨m, hn, hlk⟩ := id I.loc
  have hcls : (X.env.scope.kind == .class || (X.env.scope.kind == .module && X.env.locals != X.env.globals)) = false := by rw [I.ok.kind]; rfl
  refine wpAny_nameGoes_keeps hl hn hcls fun h' v hn' hs => h _ ?_ rfl rfl
  have other : ∀ b, b ≠ X.env.locals → h'.get? b = s.heap.get? b := fun b hb => hs.2 b hb
  have neL : ∀ b o, X.s_0.heap.get? b = some o → b ≠ X.env.locals := fun b o e => Nat.ne_of_lt (Nat.lt_of_lt_of_le (Heap.lt_size e) I.ok.above)
  have J : Inv X pins (σ.set i none) H { s with heap := h' } := by
    refine ⟨I.ok, I.os, I.bare, ⟨fun b o e n hb hx => ?_, fun b o e n hb hx => ?_, I.base.free, fun b o e hx => ?_, I.base.tups, I.base.frzs, I.base.tbls⟩, ⟨_, hn', fun j y v' e1 e2 e3 => ?_⟩, fun y c e => ?_, I.free, I.freeC, fun p hp => ?_, fun b ob e => ?_, by simpa using I.len⟩
    · exact (other b (neL b o e)).trans (I.base.keep b o e n hb hx)
    · obtain ⟨sl, q⟩ := I.base.slot b o e n hb hx
      exact ⟨sl, (other b (neL b o e)).trans q⟩
    · obtain ⟨o', q⟩ := I.base.there b o e hx
      exact ⟨o', (other b (neL b o e)).trans q⟩
    · have hj : j ≠ i := by
        intro z
        subst z
        rw [List.getElem?_set] at e2
        split at e2
        · split at e2 <;> cases e2
        · rename_i z
          exact absurd rfl z
      rw [List.getElem?_set_ne (Ne.symm hj)] at e2
      obtain ⟨u', ru, q⟩ := hlk j y v' e1 e2 e3
      refine ⟨u', ru, ?_⟩
      rcases q with ⟨k, e⟩ | ⟨k, c, e, z⟩
      · have ny : y ≠ n := fun e => hj (nodup_ix hN e1 (e ▸ hi))
        exact .inl ⟨k, (if_neg ny).trans e⟩
      · exact .inr ⟨k, c, e, z.sameBut hs (I.cne y c e)⟩
    · obtain ⟨w', z⟩ := I.cell y c e
      exact ⟨w', z.sameBut hs (I.cne y c e)⟩
    · obtain ⟨e, n, ne, nf, d⟩ := I.pin p hp
      exact ⟨(other p.1 ne).trans e, n, ne, nf, d⟩
    · refine (I.hok b ob e).stay (fun c w' hc q => (other c ?_).trans q) (fun _ q => q) fun _ _ q => q
      intro z
      subst z
      rcases hc with hc | hc
      · rw [← hc, I.free] at e; cases e
      · rw [I.free] at hc; cases hc
  have bs : ∀ {b : Addr} {s2 : Shared}, Beside X pins H s b → Beside X pins H s2 b := fun q => ⟨q.na, q.nL, q.nfr, q.nF, q.n0, q.np, q.nc⟩
  obtain ⟨oe, vs, e1, e2⟩ := r.ha
  obtain ⟨oT, ts, t1, t2⟩ := r.hT
  exact ⟨J.tok _, bs r.ba, bs r.bT, r.ne, ⟨oe, vs, (other a r.ba.nL).trans e1, e2⟩, oT, ts, (other T r.bT.nL).trans t1, t2⟩
end
/-- the context of such a suite -/
abbrev suiteR (X : Cx) (a : Addr) (pn : List (Addr × Obj)) (xe : Value → Shared → Prop) : Cx := { X with A := X.A.mark (some (.ref a)), calm := false, pn := pn, xe := xe }
theorem suiteR_of {X : Cx} {a : Addr} {pn pn' : List (Addr × Obj)} {σ : St} {H : Hp} {s : Shared} {xe : Value → Shared → Prop} (I : Inv (X.suite a pn) pn' σ H s) : Inv (suiteR X a pn xe) pn' σ H s := Inv.unwish (X := suiteR X a pn xe) (E := fun _ _ => False) I
/-- behind «raise» alone: T is the traceback's record -/
def xR (X : Cx) (a T : Addr) (pn : List (Addr × Obj)) (Wb : St → Hp → Prop) : Value → Shared → Prop := fun u s' =>
  u = .ref a ∧ ∃ pins σ H s, Inv (X.suite a pn) pins σ H s ∧ s' = { s with heap := s.heap.update T (Obj.mapFields (·.setIfInBounds 3 (rawInt X.env.locals))) } ∧ Wb σ H
def tBare (Wb : St → Hp → Prop) : TS := fun _ σ H => Wb σ H
theorem ps_bare {X : Cx} {a T : Addr} {oe oT : Obj} {vs ts : Array Value} {pn : List (Addr × Obj)} {Wb : St → Hp → Prop} {pos : Pos} (hf : X.env.frame = some X.env.locals) (ha : (a, oe) ∈ pn) (hT : (T, oT) ∈ pn) (hd : oe.data = .fields vs) (h1 : vs[1]? = some (.ref T)) (hdT : oT.data = .fields ts) (h3 : 3 < ts.size) :
    PS (suiteR X a pn (xR X a T pn Wb)) (.Raise none none pos) (tBare Wb) := by
  refine ⟨fun pins s σ H D I h => ?_⟩
  have ea := (I.pin (a, oe) (List.mem_append_left _ ha)).1
  have eT := (I.pin (T, oT) (List.mem_append_left _ hT)).1
  have hh : (X.A.mark (some (.ref a))).handled = some (.ref a) := rfl
  show wpAny (model X.prog X.w) (X.A.mark (some (.ref a))) (do standAt pos; raiseStmt X.env none none) _ _ _
  refine wpAny_bind (wpAny_standAt ?_)
  unfold raiseStmt
  dsimp only
  refine wpAny_bind (wpAny_handled ?_)
  rw [hh]
  dsimp only
  refine wpAny_bind (wpAny_rule (wpAny_bind (wpAny_field ea hd h1 ?_)))
  rw [if_neg (show ¬ ((Value.ref T == Value.none) = true) from by simp)]
  have fin : wpAny (model X.prog X.w) (X.A.mark (some (.ref a))) (setFlight (.ref a) X.env.frame) (fun _ s4 => wpAny (model X.prog X.w) (X.A.mark (some (.ref a))) (throw (.ref a) : Sem Flow) (SP (suiteR X a pn (xR X a T pn Wb)) pins D) (xR X a T pn Wb) s4) (xR X a T pn Wb) s := by
    rw [hf]
    unfold setFlight
    refine wpAny_bind (wpAny_field ea hd h1 ?_)
    rw [if_pos (show (Value.ref T != Value.none) = true from by simp)]
    refine wpAny_setField eT hdT h3 (wpAny_throw ⟨rfl, pins, σ, H, s, ?_, rfl, h⟩)
    exact Inv.wish (X := suiteR X a pn (xR X a T pn Wb)) I fun _ _ => False
  first
    | exact wpAny_bind (wpAny_pure (wpAny_bind fin))
    | exact wpAny_bind fin

/-! ### the clause -/
/-- the handled exception, its context's chain, among the pins -/
def Hot2 (A : Around) (pn : List (Addr × Obj)) : Prop := ∃ (a : Addr) (oe : Obj) (vs : Array Value), A.handled = some (.ref a) ∧ (a, oe) ∈ pn ∧ oe.data = .fields vs ∧
  (vs[2]? = some Value.none ∨ ∃ (x : Addr) (o : Obj) (ws : Array Value), vs[2]? = some (.ref x) ∧ x ≠ a ∧ (x, o) ∈ pn ∧ o.data = .fields ws ∧ ws[2]? = some Value.none)
/-- what the suite finds: the context's record is not told there -/
def Less (H Hs : Hp) : Prop := Hs = H ∨ ∃ x, H x = some (ctxO x) ∧ Hs = L2.del H x
/-- what is told where it is raised again -/
def Back (H Hb : Hp) : Prop := Hb = H ∨ ∃ x, H x = none ∧ Hb = upd H x (ctxO x)
/-- the wish of «raise» in the suite -/
def WB (i : Nat) (Wout : WX) (cls : Value) (d : Option Addr) : St → Hp → Prop := fun σ H => ∀ Hb, Back H Hb → Wout cls d (σ.set i none) Hb
def wR (i : Nat) (m : Value → Bool → Prop) (ts : Addr → Value → Option Addr → TS) (Wout : WX) (D : Ends) : WX := fun cls d σ H =>
  ∃ b, m cls b ∧ (b = true → ∀ a Hs, H a = none → Less H Hs → ts a cls d { nx := fun σ' H' => D.nx (σ'.set i none) H', rt := D.rt, bk := fun σ' H' => D.bk (σ'.set i none) H', ct := fun σ' H' => D.ct (σ'.set i none) H' } (σ.set i (some (.ref a))) Hs) ∧
    (b = false → Wout cls d σ H)
section
variable {X : Cx} {pins : List (Addr × Obj)} {σ : St} {H : Hp} {s : Shared}
theorem unsuite2 {a : Addr} {pn pn' pins' : List (Addr × Obj)} (I : Inv (X.suite a pn) pn' σ H s) (ok : X.Ok) (h : ∀ p ∈ X.pn ++ pins', p ∈ pn) : Inv X pins' σ H s :=
  ⟨ok, I.os, I.bare, I.base, I.loc, I.cell, I.free, I.freeC, fun p hp => I.pin p (List.mem_append_left _ (h p hp)), I.hok, I.len⟩
theorem suite2 {a : Addr} {pn : List (Addr × Obj)} (I : Inv X pins σ H s) (h : ∀ p ∈ pn, s.heap.get? p.1 = some p.2 ∧ H p.1 = none ∧ p.1 ≠ X.env.locals ∧ p.1 ∉ X.fs ∧ ∀ v, p.2.data ≠ .cell v) : Inv (X.suite a pn) [] σ H s :=
  ⟨I.ok.suite _ _, I.os, I.bare, I.base, I.loc, I.cell, I.free, I.freeC, fun p hp => h p (by rw [List.append_nil] at hp; exact hp), I.hok, I.len⟩
end
section
variable {X : Cx} {body suite : List Stmt} {b₀ : Stmt} {test : Expr} {n : Str} {i : Nat} {pos pos' : Pos} {tb : WX → TS} {ts : Addr → Value → Option Addr → TS} {Wout : WX}
/-- the handlers' part: from a landed exception on -/
theorem handleR {m : Value → Bool → Prop} (hs : X.stack = X.env :: X.outer) (hf : X.env.frame = some X.env.locals) (hex : X.ex = []) (hN : X.N.Nodup) (hi : X.N[i]? = some n) (hln : X.env.kindOf n = some .local) (tk : Takes X Wout)
    (ht : ∀ cls b, m cls b → TestOk X test cls b)
    (hsu : ∀ (a : Addr) (oe : Obj) (cls : Value) (d : Option Addr) (T : Addr) (pn : List (Addr × Obj)), Zc cls d oe → (∃ vs, oe.data = .fields vs) → Hot2 (X.A.mark (some (.ref a))) ((a, oe) :: pn) →
      (∀ (Wb : St → Hp → Prop) (pos : Pos), PS (suiteR X a ((a, oe) :: pn) (xR X a T ((a, oe) :: pn) Wb)) (.Raise none none pos) (tBare Wb)) →
      PSs (suiteR X a ((a, oe) :: pn) (xR X a T ((a, oe) :: pn) (WB i Wout cls d))) (b₀ :: suite) (ts a cls d))
    {pins : List (Addr × Obj)} {a : Addr} {B : Heap} {sI s' : Shared} {σ : St} {H : Hp} {cls : Value} {d : Option Addr} {c : Value} {D : Ends} (ok : X.Ok) (L3 : Landed X pins a B sI σ H (Zx cls d c) s') (cx : CtxOk H c) (w : wR i m ts Wout D cls d σ H) :
    wpAny (model X.prog X.w) X.A (handleBy (.ref a) X.env [.ExceptHandler (some test) (some n) (b₀ :: suite) pos']) (SP X pins D) X.xe s' := by
  obtain ⟨b, hm, hyes, hno⟩ := w
  obtain ⟨oe3, vs3, he3, hz3, hd3⟩ := L3.fl.there
  refine wpAny_handleBy_cons (codeAny_handlers_test ?_) (by intro q; cases q)
  refine wpAny_mono (ht cls b hm a oe3 (X.pn ++ pins) σ H s' _ _ (L3.here.suite he3 hd3 L3.na (L3.nL hs hf) (L3.nF hs)) he3 hz3.1 (fun h4 t4 k4 => ?_)) (fun _ _ z => z) (fun _ _ z => z)
  have L4 : Landed X pins a B sI σ H (Zx cls d c) { s' with heap := h4, toks := t4 } := L3.more k4 rfl L3.bare
  cases b with
  | false =>
    show wpAny _ X.A (handleBy (.ref a) X.env []) _ _ _
    refine wpAny_handleBy_nil ?_
    obtain ⟨k1, k2, k3, oe, vs, T, oT, ts', he, hz, hd, h1, hr⟩ := id L4.fl
    unfold PySem.passOn
    refine wpAny_bind (wpAny_field he hd h1 ?_)
    rw [if_neg (show ¬ ((Value.ref T == Value.none) = true) from by simp)]
    have fin : wpAny (model X.prog X.w) X.A (setFlight (.ref a) X.env.frame) (fun _ s4 => wpAny (model X.prog X.w) X.A (throw (.ref a) : Sem Flow) (SP X pins D) X.xe s4) X.xe { s' with heap := h4, toks := t4 } := by
      rw [hf]
      refine HandSPX.setFlight_upZ L4.fl fun h5 hh5 up5 => wpAny_throw (tk _ _ ⟨a, B, sI, pins, σ, H, cls, d, c, rfl, ?_⟩)
      exact ⟨L4.inv, L4.nb, L4.up.trans up5, .inr (.inr (by rw [hs]; exact hh5)), L4.na, L4.os, L4.bare, cx, hno rfl⟩
    first
      | exact wpAny_bind (wpAny_pure (wpAny_bind fin))
      | exact wpAny_bind fin
  | true =>
    refine codeAny_handlers_suite_as ?_
    refine HandSPX.lands_againZ L4.fl fun h5 fl5 up5 => ?_
    have L5 : Landed X pins a B sI σ H (Zx cls d c) { s' with heap := h5, toks := t4 } := ⟨L4.inv, L4.nb, L4.up.trans up5, fl5, L4.na, L4.os, L4.bare⟩
    obtain ⟨_, _, _, oe, vs, T, oT, ts', he, hz, hd, h1, hnT, hTe, hT, hdT, h3⟩ := id fl5
    have ba := L5.beside hs hf hex
    have bT := L5.besideT hs hf hex hnT hT hdT
    have J5 := L5.here
    have h3' : 3 < ts'.size := (Array.getElem?_eq_some_iff.mp h3).1
    -- the context's record
    obtain ⟨Hs, cp, J6, hcp, hless, hctx, hHs⟩ : ∃ (Hs : Hp) (cp : List (Addr × Obj)), Inv X pins σ Hs { s' with heap := h5, toks := t4 } ∧ (∀ p ∈ cp, h5.get? p.1 = some p.2 ∧ Hs p.1 = none ∧ p.1 ≠ X.env.locals ∧ p.1 ∉ X.fs ∧ (∀ v, p.2.data ≠ .cell v) ∧ p.1 ≠ a ∧ p.1 ≠ T ∧ (∀ q ∈ X.pn ++ pins, q.1 ≠ p.1) ∧ ∀ o, X.s_0.heap.get? p.1 = some o → X.H_0 p.1 ≠ none) ∧ Less H Hs ∧
        ((c = .none ∧ cp = []) ∨ ∃ x o ws, c = .ref x ∧ cp = [(x, o)] ∧ o.data = .fields ws ∧ ws[2]? = some Value.none) ∧ (∀ b, H b = none → Hs b = none) := by
      rcases cx with rfl | ⟨x, rfl, ex⟩
      · exact ⟨H, [], J5, fun p hp => (nomatch hp), .inl rfl, .inl ⟨rfl, rfl⟩, fun _ h => h⟩
      · obtain ⟨o, ws, e1, e2, e3⟩ := ctx_at J5.hok ex
        have nx : ∀ {b : Addr}, H b = none → x ≠ b := fun n z => by rw [z, n] at ex; cases ex
        refine ⟨L2.del H x, [(x, o)], untrack J5 ex, fun p hp => ?_, .inr ⟨x, ex, rfl⟩, .inr ⟨x, o, ws, rfl, rfl, e2, e3⟩, fun b n => ?_⟩
        · rw [List.mem_singleton.mp hp]
          refine ⟨e1, del_same, nx J5.free, fun hm => ?_, fun v z => ?_, nx ba.na, nx bT.na, fun q hq => Ne.symm (nx (J5.pin q hq).2.1), fun o' z n => ?_⟩
          · have := J5.stkFree x (by rw [hs]; obtain ⟨e, he, q⟩ := List.mem_filterMap.mp hm; exact List.mem_filterMap.mpr ⟨e, List.mem_cons_of_mem _ he, q⟩)
            rw [ex] at this
            cases this
          · have z' : o.data = .cell v := z
            rw [e2] at z'
            cases z'
          · have := J5.base.free x o' z n (by rw [hex]; simp)
            rw [ex] at this
            cases this
        · by_cases z : b = x
          · rw [z, del_same]
          · rw [del_ne z]
            exact n
    have hpin : ∀ p ∈ (a, oe) :: ((T, oT) :: (cp ++ (X.pn ++ pins))), h5.get? p.1 = some p.2 ∧ Hs p.1 = none ∧ p.1 ≠ X.env.locals ∧ p.1 ∉ X.fs ∧ ∀ v, p.2.data ≠ .cell v := by
      intro p hp
      rcases List.mem_cons.mp hp with z | hp
      · rw [z]
        exact ⟨he, hHs a ba.na, ba.nL, ba.nF, fun v z => by have z' : oe.data = .cell v := z; rw [hd] at z'; cases z'⟩
      rcases List.mem_cons.mp hp with z | hp
      · rw [z]
        exact ⟨hT, hHs T bT.na, bT.nL, bT.nF, fun v z => by have z' : oT.data = .cell v := z; rw [hdT] at z'; cases z'⟩
      rcases List.mem_append.mp hp with z | hp
      · obtain ⟨q1, q2, q3, q4, q5, _⟩ := hcp p z
        exact ⟨q1, q2, q3, q4, q5⟩
      · exact J6.pin p hp
    have hot : Hot2 (X.A.mark (some (.ref a))) ((a, oe) :: ((T, oT) :: (cp ++ (X.pn ++ pins)))) := by
      refine ⟨a, oe, vs, rfl, List.mem_cons_self, hd, ?_⟩
      rcases hctx with ⟨rfl, _⟩ | ⟨x, o, ws, rfl, rfl, e2, e3⟩
      · exact .inl (hz.2.2 vs hd)
      · exact .inr ⟨x, o, ws, hz.2.2 vs hd, (hcp _ (List.mem_singleton.mpr rfl)).2.2.2.2.2.1, by simp, e2, e3⟩
    have bare : ∀ (Wb : St → Hp → Prop) (pos : Pos), PS (suiteR X a ((a, oe) :: ((T, oT) :: (cp ++ (X.pn ++ pins)))) (xR X a T ((a, oe) :: ((T, oT) :: (cp ++ (X.pn ++ pins)))) Wb)) (.Raise none none pos) (tBare Wb) :=
      fun Wb pos => ps_bare (oe := oe) (oT := oT) hf (by simp) (by simp) hd h1 hdT h3'
    have S6 := suite2 (a := a) J6 hpin
    refine store_ok (X := suiteR X a ((a, oe) :: ((T, oT) :: (cp ++ (X.pn ++ pins)))) (xR X a T ((a, oe) :: ((T, oT) :: (cp ++ (X.pn ++ pins)))) (WB i Wout cls d))) (v := .ref a) (suiteR_of S6) hN hi (.inl hln) rfl (fun s7 S7 => ?_) (.inr hln)
    have back : ∀ {σ8 : St} {H8 : Hp} {s8 : Shared} {pn8 : List (Addr × Obj)}, Inv (X.suite a ((a, oe) :: ((T, oT) :: (cp ++ (X.pn ++ pins))))) pn8 σ8 H8 s8 → Inv X pins σ8 H8 s8 := fun I8 =>
      unsuite2 I8 ok fun p hp => by simp only [List.mem_cons, List.mem_append] at hp ⊢; exact .inr (.inr (.inr hp))
    refine wpAny_mono ((hsu a oe cls d T _ hz.zc ⟨vs, hd⟩ hot bare).run [] s7 _ Hs _ S7 (hyes rfl a Hs ba.na hless)) (fun f s8 hsp => ?_) (fun x s8 hx => ?_)
    · have end_ : ∀ {σ8 : St} {H8 : Hp} {Q : Shared → Prop}, Inv (suiteR X a ((a, oe) :: ((T, oT) :: (cp ++ (X.pn ++ pins)))) (xR X a T ((a, oe) :: ((T, oT) :: (cp ++ (X.pn ++ pins)))) (WB i Wout cls d))) [] σ8 H8 s8 → (∀ s9, Inv X pins (σ8.set i none) H8 s9 → Q s9) →
          wpAny (model X.prog X.w) X.A (do bindName X.env n .none; unbindBehindTheSuite X.env n pos') (fun _ s9 => Q s9) X.xe s8 := fun {σ8 H8 Q} S8 hq =>
        gone_ok (back (Inv.wish (X := suiteR X a ((a, oe) :: ((T, oT) :: (cp ++ (X.pn ++ pins)))) (xR X a T ((a, oe) :: ((T, oT) :: (cp ++ (X.pn ++ pins)))) (WB i Wout cls d))) S8 fun _ _ => False)) hN hi hln hq
      cases f with
      | next =>
        obtain ⟨σ8, H8, S8, q8⟩ := hsp
        exact end_ S8 fun s9 J9 => ⟨_, _, J9, q8⟩
      | brk =>
        obtain ⟨σ8, H8, S8, q8⟩ := hsp
        exact end_ S8 fun s9 J9 => ⟨_, _, J9, q8⟩
      | cont =>
        obtain ⟨σ8, H8, S8, q8⟩ := hsp
        exact end_ S8 fun s9 J9 => ⟨_, _, J9, q8⟩
      | ret u =>
        obtain ⟨v8, σ8, H8, S8, r8, q8⟩ := hsp
        exact end_ S8 fun s9 J9 => ⟨_, _, _, J9, r8, q8⟩
    · obtain ⟨rfl, pn9, σ9, H9, s9, I9, rfl, w9⟩ := hx
      have P1 := I9.pin (a, oe) (by simp)
      have P2 := I9.pin (T, oT) (by simp)
      have I9' : Inv X (cp ++ pins) σ9 H9 s9 := unsuite2 I9 ok fun p hp => by
        simp only [List.mem_cons, List.mem_append] at hp ⊢
        rcases hp with hp | hp | hp
        · exact .inr (.inr (.inr (.inl hp)))
        · exact .inr (.inr (.inl hp))
        · exact .inr (.inr (.inr (.inr hp)))
      have npx : ∀ {b : Addr}, (∀ p ∈ X.pn ++ pins, p.1 ≠ b) → (∀ p ∈ cp, p.1 ≠ b) → ∀ p ∈ X.pn ++ (cp ++ pins), p.1 ≠ b := fun h1 h2 p hp => by
        simp only [List.mem_append] at hp
        rcases hp with hp | hp | hp
        · exact h1 p (List.mem_append_left _ hp)
        · exact h2 p hp
        · exact h1 p (List.mem_append_right _ hp)
      have ba9 : ∀ s, Beside X (cp ++ pins) H9 s a := fun s => ⟨P1.2.1, ba.nL, ba.nfr, ba.nF, ba.n0, npx ba.np fun p hp => (hcp p hp).2.2.2.2.2.1, ba.nc⟩
      have bT9 : ∀ s, Beside X (cp ++ pins) H9 s T := fun s => ⟨P2.2.1, bT.nL, bT.nfr, bT.nF, bT.n0, npx bT.np fun p hp => (hcp p hp).2.2.2.2.2.2.1, bT.nc⟩
      have upT := Heap.get?_update_self (Obj.mapFields (·.setIfInBounds 3 (rawInt X.env.locals))) P2.1 (Obj.isFreed_of_fields (Obj.data_mapFields hdT _))
      have ofT : ∀ b, b ≠ T → (s9.heap.update T (Obj.mapFields (·.setIfInBounds 3 (rawInt X.env.locals)))).get? b = s9.heap.get? b := fun b hb => Heap.get?_update_other _ _ (Ne.symm hb)
      have J9 : Inv X (cp ++ pins) σ9 H9 { s9 with heap := s9.heap.update T (Obj.mapFields (·.setIfInBounds 3 (rawInt X.env.locals))) } := without I9' (bT9 s9) (bT9 s9) fun b hb _ => ofT b hb
      have R9 : Again X (cp ++ pins) σ9 H9 (Zx cls d c) a T { s9 with heap := s9.heap.update T (Obj.mapFields (·.setIfInBounds 3 (rawInt X.env.locals))) } :=
        ⟨J9, ba9 _, bT9 _, hTe, ⟨oe, vs, (ofT a (Ne.symm hTe)).trans P1.1, hz, hd, h1⟩, _, _, upT, Obj.data_mapFields hdT _, by simp [h3']⟩
      obtain ⟨B1, sG1, _, _, _, hh1, _⟩ := R9.held
      show wpAny (model X.prog X.w) (X.A.mark (some (.ref a))) (noteFrame (.ref a) X.env) _ _ _
      refine HandSPX.againZ hf hh1.2.2.2 ?_
      refine R9.gone hN hi hln fun s10 R10 o10 g10 => ?_
      obtain ⟨B2, sG, JG, nbG, upG, hh2, oG⟩ := R10.held
      obtain ⟨oe2, vs2, e1, e2, e3, e4⟩ := id R10.ha
      have fin : ∀ h11 : Heap, HandSPX.HeldZ B2 X.stack a (Zx cls d c) X.env.locals h11 → s10.heap.UpToSlots h11 → X.xe (.ref a) { s10 with heap := h11 } := by
        intro h11 hh11 up11
        have key : ∀ Hb, Inv X pins (σ9.set i none) Hb sG → Back H9 Hb → Hb a = none → CtxOk Hb c → X.xe (.ref a) { s10 with heap := h11 } := fun Hb Jb bk nb cxb =>
          tk _ _ ⟨a, B2, sG, pins, σ9.set i none, Hb, cls, d, c, rfl, Jb, nbG, upG.trans up11, .inr (.inr hh11), nb, oG.symm, by rw [g10]; exact I9.bare, cxb, w9 Hb bk⟩
        have weak : Inv X pins (σ9.set i none) H9 sG := JG.pins_of fun p hp => JG.pin p (by simp [hp])
        rcases hctx with ⟨rfl, _⟩ | ⟨x, o, ws, rfl, rfl, ed, ec⟩
        · exact key H9 weak (.inl rfl) P1.2.1 (.inl rfl)
        · have hx := hcp _ (List.mem_singleton.mpr rfl)
          have px := JG.pin (x, o) (by simp)
          refine key _ (track weak hx.2.2.2.2.2.2.2.2 px.1 ed ec px.2.1 hx.2.2.1 fun p hp => hx.2.2.2.2.2.2.2.1 p hp) (.inr ⟨x, px.2.1, rfl⟩) ?_ (.inr ⟨x, rfl, upd_same⟩)
          rw [upd_ne (Ne.symm hx.2.2.2.2.2.1)]
          exact P1.2.1
      unfold PySem.passOn
      refine wpAny_bind (wpAny_field e1 e3 e4 ?_)
      rw [if_neg (show ¬ ((Value.ref T == Value.none) = true) from by simp)]
      have cameBack : ∀ h12 : Heap, HandSPX.HeldZ B2 X.stack a (Zx cls d c) X.env.locals h12 → s10.heap.UpToSlots h12 → cameBackBy (model X.prog X.w) X.A X.env X.xe (.ref a) { s10 with heap := h12 } := by
        intro h12 hh12 up12
        obtain ⟨_, _, _, oe4, vs4, T4, oT4, ts4, q1, q2, q3, q4, _⟩ := id hh12
        unfold cameBackBy
        refine wpAny_bind (wpAny_field q1 q3 q4 ?_)
        rw [if_neg (show ¬ ((Value.ref T4 == Value.none) = true) from by simp)]
        have f2 : wpAny (model X.prog X.w) X.A (setFlight (.ref a) X.env.frame) (fun _ s'' => X.xe (.ref a) s'') X.xe { s10 with heap := h12 } := by
          rw [hf]
          exact HandSPX.setFlight_onZ hh12 fun h13 hh13 up13 => fin h13 hh13 (up12.trans up13)
        first
          | exact f2
          | exact wpAny_bind (wpAny_pure f2)
      have f1 : wpAny (model X.prog X.w) (X.A.mark (some (.ref a))) (setFlight (.ref a) X.env.frame) (fun _ s4 => wpAny (model X.prog X.w) (X.A.mark (some (.ref a))) (throw (.ref a) : Sem Flow) (fun _ _ => False) (notedBy (model X.prog X.w) (X.A.mark (some (.ref a))) X.env (cameBackBy (model X.prog X.w) X.A X.env X.xe)) s4)
          (notedBy (model X.prog X.w) (X.A.mark (some (.ref a))) X.env (cameBackBy (model X.prog X.w) X.A X.env X.xe)) s10 := by
        rw [hf]
        refine HandSPX.setFlight_onZ hh2 fun h12 hh12 up12 => wpAny_throw ?_
        unfold notedBy
        exact HandSPX.againZ hf hh12.2.2.2 (cameBack h12 hh12 up12)
      first
        | exact wpAny_bind (wpAny_pure (wpAny_bind f1))
        | exact wpAny_bind f1
end
end WX
/-! ## WExc4 -/
set_option Elab.async false
set_option linter.all false
set_option maxRecDepth 100000
set_option maxHeartbeats 2000000
/-! The try statements as a whole. -/
namespace WX
open PySem PySem.Spec PyProof.Rows L2
section
variable {X : Cx} {body suite : List Stmt} {b₀ : Stmt} {test : Expr} {n : Str} {i : Nat} {pos pos' : Pos} {tb : WX → TS} {ts : Addr → Value → Option Addr → TS} {Wout : WX}
/-- a clause without a name, whose suite lets nothing out -/
theorem handleU {m : Value → Bool → Prop} {rest : List ExceptHandler} (hs : X.stack = X.env :: X.outer) (hf : X.env.frame = some X.env.locals) (ht : ∀ cls b, m cls b → TestOk X test cls b)
    (hsu : ∀ (a : Addr) (oe : Obj) (cls : Value) (d : Option Addr) (pn : List (Addr × Obj)), PSs (X.suite a ((a, oe) :: pn)) (b₀ :: suite) (ts a cls d))
    {pins : List (Addr × Obj)} {a : Addr} {B : Heap} {sI s' : Shared} {σ : St} {H : Hp} {cls : Value} {d : Option Addr} {c : Value} {D : Ends} {b : Bool} (ok : X.Ok) (L3 : Landed X pins a B sI σ H (Zx cls d c) s')
    (hm : m cls b) (hyes : b = true → ∀ a, H a = none → ts a cls d D σ H)
    (hno : b = false → ∀ s2, Landed X pins a B sI σ H (Zx cls d c) s2 → wpAny (model X.prog X.w) X.A (handleBy (.ref a) X.env rest) (SP X pins D) X.xe s2) :
    wpAny (model X.prog X.w) X.A (handleBy (.ref a) X.env (.ExceptHandler (some test) none (b₀ :: suite) pos' :: rest)) (SP X pins D) X.xe s' := by
  obtain ⟨oe3, vs3, he3, hz3, hd3⟩ := L3.fl.there
  refine wpAny_handleBy_cons (codeAny_handlers_test ?_) (by intro q; cases q)
  refine wpAny_mono (ht cls b hm a oe3 (X.pn ++ pins) σ H s' _ _ (L3.here.suite he3 hd3 L3.na (L3.nL hs hf) (L3.nF hs)) he3 hz3.1 (fun h4 t4 k4 => ?_)) (fun _ _ z => z) (fun _ _ z => z)
  have L4 : Landed X pins a B sI σ H (Zx cls d c) { s' with heap := h4, toks := t4 } := L3.more k4 rfl L3.bare
  cases b with
  | false => exact hno rfl _ L4
  | true =>
    refine codeAny_handlers_suite ?_
    refine HandSPX.lands_againZ L4.fl fun h5 fl5 up5 => ?_
    have L5 : Landed X pins a B sI σ H (Zx cls d c) { s' with heap := h5, toks := t4 } := ⟨L4.inv, L4.nb, L4.up.trans up5, fl5, L4.na, L4.os, L4.bare⟩
    obtain ⟨oe5, vs5, he5, hz5, hd5⟩ := fl5.there
    refine wpAny_mono ((hsu a oe5 cls d (X.pn ++ pins)).run [] _ σ H _ (L5.here.suite he5 hd5 L5.na (L5.nL hs hf) (L5.nF hs)) (hyes rfl a L5.na)) (fun f s6 hsp => ?_) (fun _ _ z => z.elim)
    cases f with
    | next =>
      obtain ⟨σ6, H6, S6, q6⟩ := hsp
      exact ⟨_, _, S6.unsuite ok, q6⟩
    | brk =>
      obtain ⟨σ6, H6, S6, q6⟩ := hsp
      exact ⟨_, _, S6.unsuite ok, q6⟩
    | cont =>
      obtain ⟨σ6, H6, S6, q6⟩ := hsp
      exact ⟨_, _, S6.unsuite ok, q6⟩
    | ret u =>
      obtain ⟨v6, σ6, H6, S6, r6, q6⟩ := hsp
      exact ⟨_, _, _, S6.unsuite ok, r6, q6⟩
/-- a try with any handlers: what they do with a landed exception is shown apart -/
theorem ps_tryX {hds : List ExceptHandler} {h₀ : ExceptHandler} {WD : Ends → WX} (hs : X.stack = X.env :: X.outer) (hf : X.env.frame = some X.env.locals)
    (hb : ∀ (W : WX) (pn : List (Addr × Obj)) (xe : Value → Shared → Prop), Takes (X.tr pn xe) W → PSs (X.tr pn xe) body (tb W))
    (hh : ∀ (pins : List (Addr × Obj)) (a : Addr) (B : Heap) (sI s' : Shared) (σ : St) (H : Hp) (cls : Value) (d : Option Addr) (c : Value) (D : Ends), X.Ok → Landed X pins a B sI σ H (Zx cls d c) s' → CtxOk H c → WD D cls d σ H →
      wpAny (model X.prog X.w) X.A (handleBy (.ref a) X.env (h₀ :: hds)) (SP X pins D) X.xe s') :
    PS X (.Try body (h₀ :: hds) [] [] pos) (fun D σ H => tb (WD D) D σ H) := by
  refine ⟨fun pins s σ H D I h => ?_⟩
  have ok := I.ok
  have hfr : X.A.frames = some (X.env :: X.outer) := by rw [ok.frames, hs]
  refine wpAny_Try_except ?_
  refine wpAny_mono ((hb (WD D) (X.pn ++ pins) (fun e s₁ => wpAny (model X.prog X.w) X.A (noteFrame e X.env) (fun _ s₂ => wpAny (model X.prog X.w) X.A (setFlight e none) (fun _ s₃ =>
    wpAny (model X.prog X.w) X.A (handleBy e X.env (h₀ :: hds)) (SP X pins D) X.xe s₃) X.xe s₂) X.xe s₁) ?_).run [] s σ H D (I.toTry _) h) (fun f s1 hsp => ?_) (fun e s1 he => he)
  · rintro u s' ⟨a, B, sI, pins', σ', H', cls, d, c, rfl, A⟩
    have sky' : Sky B (X.env :: X.outer) a (Zx cls d c) X.env.locals s'.heap := by rw [← hs]; exact A.sky
    show wpAny (model X.prog X.w) X.A (noteFrame (.ref a) X.env) _ _ _
    refine land Zx.steady hfr hf sky' fun h3 fl3 up3 => ?_
    exact hh pins a B sI { s' with heap := h3 } σ' H' cls d c D ok ⟨A.inv.ofTry ok, A.nb, A.up.trans up3, fl3, A.na, A.os, A.bare⟩ A.ctx A.w
  · cases f with
    | next =>
      obtain ⟨σ', H', J', q⟩ := hsp
      exact wpAny_execs_nil ⟨σ', H', J'.ofTry ok, q⟩
    | brk =>
      obtain ⟨σ', H', J', q⟩ := hsp
      exact ⟨σ', H', J'.ofTry ok, q⟩
    | cont =>
      obtain ⟨σ', H', J', q⟩ := hsp
      exact ⟨σ', H', J'.ofTry ok, q⟩
    | ret u =>
      obtain ⟨v, σ', H', J', r, q⟩ := hsp
      exact ⟨v, σ', H', J'.ofTry ok, r, q⟩
end
end WX
/-! ## WHot -/
set_option Elab.async false
set_option linter.all false
set_option maxRecDepth 100000
set_option maxHeartbeats 2000000
/-! Loops and calls while an exception is handled that may itself have a context. -/
namespace WX
open PySem PySem.Spec PyProof.Rows L2
/-- the handled exception and its context, in the heap -/
def HotH (A : Around) (h : Heap) : Prop := ∃ (x1 : Addr) (o : Obj) (vs : Array Value), A.handled = some (.ref x1) ∧ h.get? x1 = some o ∧ o.data = .fields vs ∧
  (vs[2]? = some Value.none ∨ ∃ (x2 : Addr) (o2 : Obj) (ws : Array Value), vs[2]? = some (.ref x2) ∧ x2 ≠ x1 ∧ h.get? x2 = some o2 ∧ o2.data = .fields ws ∧ ws[2]? = some Value.none)
theorem HotH.keeps {A : Around} {h h' : Heap} (x : HotH A h) (k : ∀ b o, h.get? b = some o → h'.get? b = some o) : HotH A h' := by
  obtain ⟨x1, o, vs, a1, a2, a3, a4⟩ := x
  refine ⟨x1, o, vs, a1, k _ _ a2, a3, ?_⟩
  rcases a4 with a4 | ⟨x2, o2, ws, b1, b2, b3, b4, b5⟩
  · exact .inl a4
  · exact .inr ⟨x2, o2, ws, b1, b2, k _ _ b3, b4, b5⟩
theorem Hot2.at {X : Cx} {pins : List (Addr × Obj)} {σ : St} {H : Hp} {s : Shared} (c : Hot2 X.A X.pn) (I : Inv X pins σ H s) : HotH X.A s.heap := by
  obtain ⟨a, oe, vs, h1, h2, h3, h4⟩ := c
  refine ⟨a, oe, vs, h1, (I.pin _ (List.mem_append_left _ h2)).1, h3, ?_⟩
  rcases h4 with h4 | ⟨x, o, ws, b1, b2, b3, b4, b5⟩
  · exact .inl h4
  · exact .inr ⟨x, o, ws, b1, b2, (I.pin _ (List.mem_append_left _ b3)).1, b4, b5⟩
section
variable {prog : Program} {w : World} {A : Around} {E : Value → Shared → Prop} {s : Shared}
theorem unchain_hot {a x1 : Addr} {o : Obj} {vs : Array Value} {Q : Value → Shared → Prop} (h1 : s.heap.get? x1 = some o) (d1 : o.data = .fields vs)
    (c1 : vs[2]? = some Value.none ∨ ∃ (x2 : Addr) (o2 : Obj) (ws : Array Value), vs[2]? = some (.ref x2) ∧ x2 ≠ x1 ∧ x2 ≠ a ∧ s.heap.get? x2 = some o2 ∧ o2.data = .fields ws ∧ ws[2]? = some Value.none) (q : Q .none s) :
    wpAny (model prog w) A (holding [Value.ref a] (runValue (.builtin "proto.unchain" ⟨[.ref a, .ref x1, .ref x1, .bool false], []⟩))) Q E s := by
  rcases c1 with c1 | ⟨x2, o2, ws, c1, n21, n2a, h2, d2, c2⟩
  · exact HotX.unchained h1 d1 c1 q
  · refine wpAny_holding (wpAny_runValue (codeAny_builtin HotX.entry_unchain ?_))
    show wpAny _ _ (field (.ref x1) 2 >>= _) _ _ s
    refine wpAny_bind (wpAny_field h1 d1 c1 ?_)
    rw [if_neg (show ¬ ((Value.ref x2 == Value.none) = true) from by simp)]
    rw [if_neg (show ¬ ((Value.ref x2 == Value.ref a) = true) from by simp [n2a])]
    rw [if_neg (show ¬ ((Value.ref x2 == Value.ref x1) = true) from by simp [n21])]
    rw [if_neg (by decide)]
    have last : codeAny (model prog w) A (.builtin "proto.unchain" ⟨[.ref a, .ref x2, .ref x1, .bool true], []⟩) (fun r s' => ∃ v, r = .ok (.ret v) ∧ Q v s') s := by
      refine codeAny_builtin HotX.entry_unchain ?_
      show wpAny _ _ (field (.ref x2) 2 >>= _) _ _ s
      refine wpAny_bind (wpAny_field h2 d2 c2 ?_)
      rw [if_pos (show (Value.none == Value.none) = true from rfl)]
      first
      | exact wpAny_bind (wpAny_pure (wpAny_pure ⟨_, rfl, q⟩))
      | exact wpAny_pure ⟨_, rfl, q⟩
    refine wpAny_bind (wpAny_pure (wpAny_pure ⟨by first | rfl | decide | kernel_rfl, codeAny_mono last fun r s' hq => ?_⟩))
    obtain ⟨v, rfl, q⟩ := hq
    exact q
theorem raise_hot {α : Type} {a : Addr} {oe : Obj} {vs : Array Value} {Q : α → Shared → Prop} {old : Heap} (hot : HotH A old) (k : ∀ b o, old.get? b = some o → s.heap.get? b = some o) (hn : old.get? a = none) (ga : s.heap.get? a = some oe) (da : oe.data = .fields vs) (hi : 2 < vs.size)
    (hE : ∀ x1, E (.ref a) { s with heap := s.heap.update a (Obj.mapFields (·.setIfInBounds 2 (.ref x1))) }) : wpAny (model prog w) A (raiseNew (.ref a) : Sem α) Q E s := by
  obtain ⟨x1, o, ws, hh, g1, d1, c1⟩ := hot
  have nea : ∀ {b : Addr} {u : Obj}, old.get? b = some u → b ≠ a := fun e z => by rw [z, hn] at e; cases e
  have ne : x1 ≠ a := nea g1
  unfold raiseNew
  refine wpAny_bind (wpAny_handled ?_)
  rw [hh]
  have hb : (Value.ref x1 != Value.ref a) = true := HotX.ref_bne ne
  have c2 : ws[2]? = some Value.none ∨ ∃ (x2 : Addr) (o2 : Obj) (us : Array Value), ws[2]? = some (.ref x2) ∧ x2 ≠ x1 ∧ x2 ≠ a ∧ s.heap.get? x2 = some o2 ∧ o2.data = .fields us ∧ us[2]? = some Value.none := by
    rcases c1 with c1 | ⟨x2, o2, us, e1, e2, e3, e4, e5⟩
    · exact .inl c1
    · exact .inr ⟨x2, o2, us, e1, e2, nea e3, k _ _ e3, e4, e5⟩
  have uc : ∀ {Q : Value → Shared → Prop}, Q .none s → wpAny (model prog w) A (holding [Value.ref a] (runValue (.builtin "proto.unchain" ⟨[.ref a, .ref x1, .ref x1, .bool false], []⟩))) Q E s := fun q => unchain_hot (k _ _ g1) d1 c2 q
  first
  | (show wpAny _ _ (if (Value.ref x1 != Value.ref a) = true then _ else _) _ _ _
     rw [if_pos hb]
     first
     | exact wpAny_bind (uc (wpAny_bind (HotX.chained ga da hi (wpAny_throw (hE x1)))))
     | exact wpAny_bind (wpAny_bind (uc (HotX.chained ga da hi (wpAny_throw (hE x1))))))
  | (refine wpAny_bind ?_
     show wpAny _ _ (if (Value.ref x1 != Value.ref a) = true then _ else _) _ _ _
     rw [if_pos hb]
     exact wpAny_bind (uc (HotX.chained ga da hi (wpAny_throw (hE x1)))))
theorem next_tuple_end {it t : Addr} {i : Nat} {items : Array Value} {Q : Option Value → Shared → Prop} (hot : HotH A s.heap) (hit : s.heap.IsTupleIter it t i) (ht : s.heap.IsTuple t items) (hx : items[i]? = none) (nit : ∀ x1 o ws, A.handled = some (.ref x1) → s.heap.get? x1 = some o → o.data = .fields ws → x1 ≠ it ∧ ws[2]? ≠ some (.ref it))
    (hQ : ∀ h', Heap.ExtBut it s.heap h' → Q none { s with heap := h' }) : wpAny (model prog w) A (pyNext (.ref it)) Q E s := by
  obtain ⟨o, ho, hc, hd⟩ := id hit
  obtain ⟨ol, hol, _, nl, hdl⟩ := ht
  unfold pyNext
  refine wpAny_bind (wpAny_attempt (wpAny_callSpecial?_slot (name := Str.ofString "__next__") hit.typeIs PySem.F.slot_tuple_iterator_next
    (wpAny_call_entry PySem.F.slot_tuple_iterator_next hit.typeIs PySem.F.entry_tuple_iterator_next ?_ (PySem.F.args_tuple_iterator_next_1 _))))
  show wpAny _ _ (field (.ref it) 0 >>= _) _ _ s
  refine wpAny_bind (wpAny_field ho hd (x := .ref t) rfl ?_)
  show wpAny _ _ (if (Value.ref t == Value.none) = true then _ else _) _ _ s
  rw [if_neg (show ¬ ((Value.ref t == Value.none) = true) from Bool.false_ne_true)]
  show wpAny _ _ (field (.ref it) 1 >>= _) _ _ s
  refine wpAny_bind (wpAny_field ho hd (x := .int i 0) rfl ?_)
  show wpAny _ _ (seqItems? (.ref t) >>= _) _ _ s
  refine wpAny_bind (wpAny_seqItems hol hdl ?_)
  simp only [Int.toNat_natCast, hx]
  refine wpAny_bind (wpAny_rule (wpAny_bind (wpAny_setField ho hd (by simp) ?_)))
  have sb := Heap.SameBut.update s.heap it (Obj.mapFields (·.setIfInBounds 0 Value.none))
  -- the handled exceptions stand as they stood
  have hot1 : HotH A (s.heap.update it (Obj.mapFields (·.setIfInBounds 0 Value.none))) := by
    obtain ⟨x1, o1, ws, q1, q2, q3, q4⟩ := hot
    have ne1 : x1 ≠ it := (nit x1 o1 ws q1 q2 q3).1
    refine ⟨x1, o1, ws, q1, (sb.2 x1 ne1).trans q2, q3, ?_⟩
    rcases q4 with q4 | ⟨x2, o2, us, b1, b2, b3, b4, b5⟩
    · exact .inl q4
    · have ne2 : x2 ≠ it := fun z => (nit x1 o1 ws q1 q2 q3).2 (by rw [b1, z])
      exact .inr ⟨x2, o2, us, b1, b2, (sb.2 x2 ne2).trans b3, b4, b5⟩
  generalize hh1 : s.heap.update it (Obj.mapFields (·.setIfInBounds 0 Value.none)) = h1 at hot1 sb
  show wpAny _ _ (newExc (.type "StopIteration") [] >>= _) _ _ _
  refine wpAny_bind ?_
  simp only [newExc, newTuple]
  refine wpAny_bind (wpAny_newObj_type ?_ (by size_fits))
  refine wpAny_bind (m := firstArgMember _ _) (wpAny_of_eq (a := Value.none) (by first | rfl | (simp only [firstArgMember]; rfl)) ?_)
  refine wpAny_newObj_type ?_ (by size_fits)
  have hot3 : HotH A.in1 h1 := hot1
  refine raise_hot hot3 (fun b u e => Heap.get?_push_of_some _ (Heap.get?_push_of_some _ e)) ?_ (Heap.get?_push_size _ rfl) rfl (by first | (simp; done) | (simp; omega) | (simp only [Array.size_append]; simp; omega)) fun x1 => ?_
  · refine Heap.get?_none_of_le ?_
    show h1.objs.size ≤ (h1.push _).objs.size
    rw [Heap.size_push]
    exact Nat.le_succ _
  refine wpAny_bind (wpAny_isInstance (T := "StopIteration") (b := true) ⟨_, Heap.get?_update_self _ (Heap.get?_push_size _ rfl) rfl, rfl⟩ isSubtype_stop ?_)
  refine wpAny_pure (hQ _ fun b o hb e => ?_)
  have e1 : h1.get? b = some o := (sb.2 b hb).trans e
  rw [Heap.get?_update_other _ _ (Nat.ne_of_gt (Heap.lt_size (Heap.get?_push_of_some _ e1)))]
  exact Heap.get?_push_of_some _ (Heap.get?_push_of_some _ e1)
end
end WX
/-! ## WHot2 -/
set_option Elab.async false
set_option linter.all false
set_option maxRecDepth 100000
set_option maxHeartbeats 2000000
/-! A loop over a tuple, a def's call, while such an exception is handled. -/
namespace WX
open PySem PySem.Spec PyProof.Rows L2
/-! ### the loop -/
section
variable {X : Cx} {pins : List (Addr × Obj)} {σ : St} {H : Hp} {s : Shared} {it a : Addr} {i : Nat} {xs : List V}
theorem tup_item (I : Inv X pins σ H s) (f : FpOk X pins H it) (st : s.heap.IsTupleIter it a i) (hq : SqT X.K H a xs) {x : V} (hx : xs[i]? = some x) {Q : Option Value → Shared → Prop} {E : Value → Shared → Prop}
    (q : ∀ u h', RelV x u → h'.IsTupleIter it a (i + 1) → Inv X pins σ H { s with heap := h' } → Q (some u) { s with heap := h' }) : wpAny (model X.prog X.w) X.A (pyNext (.ref it)) Q E s := by
  obtain ⟨its, rv, p, hz⟩ := I.tuple hq
  obtain ⟨u, hu, ru⟩ := rv.get hx
  obtain ⟨f0, f1, f2, f3, f4, f5⟩ := f
  refine wpAny_pyNext_tuple_item st (show s.heap.IsTuple a its.toArray from p) (x := u) (by simpa using hu) fun h' st' sb => ?_
  exact q u h' ru st' (I.turned (t' := s.toks) (fun b o hb e => (sb.2 b hb).trans e) f0 f1 f3 f4 f5)
theorem tup_done (hot : Hot2 X.A X.pn) (I : Inv X pins σ H s) (f : FpOk X pins H it) (st : s.heap.IsTupleIter it a i) (hq : SqT X.K H a xs) (hx : xs[i]? = none) {Q : Option Value → Shared → Prop} {E : Value → Shared → Prop}
    (q : ∀ h', Inv X pins σ H { s with heap := h' } → Q none { s with heap := h' }) : wpAny (model X.prog X.w) X.A (pyNext (.ref it)) Q E s := by
  obtain ⟨its, rv, p, hz⟩ := I.tuple hq
  obtain ⟨f0, f1, f2, f3, f4, f5⟩ := f
  have hl := rv.length
  have hx2 : xs.length ≤ i := List.getElem?_eq_none_iff.mp hx
  refine next_tuple_end (hot.at I) st (show s.heap.IsTuple a its.toArray from p) (by simp; omega) (fun x1 o ws e1 e2 e3 => ?_) fun h' eb => q h' (I.turned (t' := s.toks) (fun b o hb e => eb b o hb e) f0 f1 f3 f4 f5)
  obtain ⟨y, oe, vs, g1, g2, g3, g4⟩ := hot
  rw [g1] at e1
  cases e1
  have P := I.pin _ (List.mem_append_left _ g2)
  rw [P.1] at e2
  cases e2
  rw [g3] at e3
  cases e3
  refine ⟨f5 _ (List.mem_append_left _ g2), fun z => ?_⟩
  rcases g4 with g4 | ⟨x2, o2, us, b1, b2, b3, b4, b5⟩
  · rw [g4] at z
    cases z
  · rw [b1] at z
    cases z
    exact f5 _ (List.mem_append_left _ b3) rfl
end
/-- for target in l: body, l a tuple; the reading is the usual one's -/
theorem ps_for_tup {X : Cx} {tg l : Expr} {body : List Stmt} {tl : TE} {g : TG} {tb : TS} {pos : Pos} (hp : PassesOwn (model X.prog X.w) X.A X.env X.xe) (hc : Hot2 X.A X.pn) (hl : PE X l tl) (hg : PG X tg g) (hb : PSs X body tb)
    (hs : ∀ x, foldedSetIterable l X.env x = pure x := by intro _; rfl) : PS X (.For tg l body [] pos) (tFor (iTup X.K tl) g tb) := by
  refine ⟨fun pins s σ H D I h => ?_⟩
  refine wpAny_For (thn (hl.run pins s σ H _ I h) fun v s1 h1 => ?_) hs
  obtain ⟨x, H1, I1, r1, a, rfl, ⟨xs0, hq0⟩, W, ⟨m0, w0⟩, turn⟩ := h1
  cases r1
  obtain ⟨its, rv, p, hz⟩ := I1.tuple hq0
  refine wpAny_pyIter_tuple (show s1.heap.IsTuple a its.toArray from p) ?_
  have I2 : Inv X pins σ H1 { s1 with heap := s1.heap.push { cls := .type "tuple_iterator", data := .fields #[.ref a, .int 0 0] } } := I1.kept (t' := s1.toks) fun b o e => Heap.get?_push_of_some _ e
  have f2 : FpOk X pins H1 s1.heap.objs.size := I1.fpOk (Nat.le_refl _) (I1.hok.fresh (Nat.le_refl _))
  have st2 : (s1.heap.push { cls := .type "tuple_iterator", data := .fields #[.ref a, .int 0 0] }).IsTupleIter s1.heap.objs.size a 0 := ⟨_, Heap.get?_push_size _ rfl, rfl, rfl⟩
  generalize s1.heap.objs.size = it at f2 st2 ⊢
  -- what stays true of the iterator through the loop
  have stat : ∀ {H' : Hp}, H' it = none → FpOk X pins H' it := fun hn => ⟨hn, f2.2⟩
  refine codeAny_forLoop_any (fun n s' => ∃ i σ' H', Inv X pins σ' H' s' ∧ s'.heap.IsTupleIter it a i ∧ H' it = none ∧ W i n σ' H') ?_ m0 ⟨0, σ, H1, I2, st2, f2.1, w0⟩
  rintro n s3 ⟨i, σ3, H3, I3, st3, fr3, w3⟩
  rcases turn i n σ3 H3 w3 with ⟨stop, qn⟩ | ⟨go, N, hN, step⟩
  · obtain ⟨xs, hq, hx⟩ := stop
    refine wpAny_passesOwn hp (tup_done hc I3 (stat fr3) st3 hq (List.getElem?_eq_none_iff.mpr hx) fun h' I4 => ?_)
    exact wpAny_execs_nil ⟨σ3, H3, I4, qn⟩
  · obtain ⟨xs, x, hq, hx⟩ := go
    refine wpAny_passesOwn hp (tup_item I3 (stat fr3) st3 hq hx fun u h' ru st4 I4 => ?_)
    obtain ⟨o4, e4, c4, d4⟩ := id st4
    refine wpAny_passesOwn hp (go_of (s := { s3 with heap := h' }) e4 c4 d4 (by decide) ?_)
    have pin4 : Inv X (pins ++ [(it, o4)]) σ3 H3 { s3 with heap := h' } := I4.pins_of fun p hpp => by
      rcases List.mem_append.mp hpp with z | z
      · exact I4.pin p (List.mem_append_right _ z)
      · rw [List.mem_singleton.mp z]
        exact ⟨e4, fr3, f2.2.1, f2.2.2.1, fun v z => by have z' : o4.data = .cell v := z; rw [d4] at z'; cases z'⟩
    have y4 : (Itt X.K a).yld i H3 x H3 := ⟨rfl, fun ys hy => by rw [I4.tuple_inj hy hq]; exact hx⟩
    refine wpAny_passesOwn hp (thn (hg.run _ _ σ3 H3 x u _ pin4 ru (step x H3 y4)) fun _ s6 ⟨σ6, H6, I6, q6⟩ => ?_)
    refine wpAny_passesOwn hp (thn (hb.run _ s6 σ6 H6 _ I6 q6) fun f s7 q7 => ?_)
    have un : ∀ {σ7 : St} {H7 : Hp}, Inv X (pins ++ [(it, o4)]) σ7 H7 s7 → Inv X pins σ7 H7 s7 := fun I7 => I7.pins_of fun p hpp => I7.pin p (by simp [hpp])
    have again : ∀ {σ7 : St} {H7 : Hp}, Inv X (pins ++ [(it, o4)]) σ7 H7 s7 → N σ7 H7 → ∃ m, m < n ∧ ∃ i σ' H', Inv X pins σ' H' s7 ∧ s7.heap.IsTupleIter it a i ∧ H' it = none ∧ W i m σ' H' := fun {σ7 H7} I7 n7 => by
      obtain ⟨m', hm, w7⟩ := hN σ7 H7 n7
      have P := I7.pin (it, o4) (by simp)
      exact ⟨m', hm, i + 1, σ7, H7, un I7, ⟨o4, P.1, c4, d4⟩, P.2.1, w7⟩
    cases f with
    | next => obtain ⟨σ7, H7, I7, n7⟩ := q7; exact again I7 n7
    | cont => obtain ⟨σ7, H7, I7, n7⟩ := q7; exact again I7 n7
    | brk => obtain ⟨σ7, H7, I7, q7⟩ := q7; exact ⟨σ7, H7, un I7, q7⟩
    | ret v => obtain ⟨x7, σ7, H7, I7, r7, q7⟩ := q7; exact ⟨x7, σ7, H7, un I7, r7, q7⟩

/-! ### the call -/
/-- a def's promise where such an exception is handled -/
structure FnC (P : Program) (w : World) (K : PySem.W.Frag) (mg : Str → Option Value) (base : Heap) (k : Nat) (f : Addr) (fd : FuncData) (ps : List Str) (sp : Sp) : Prop where
  len : ∀ vs H Q E, sp vs H Q E → vs.length = ps.length
  run : ∀ (A : Around) (outer : List Env) (s : Shared) (H : Hp) (args : Args) (us : List Value) (vs : List V) (Q : VK) (E : XK) (pn : List (Addr × Obj)), L2H.RoomH k A → Hot2 A pn → (∀ p ∈ pn, L2H.PinOk outer H s p) → Env0 P w K mg base A outer s H → BindsTo s fd args (ps.zip us) → Vals vs us → sp vs H Q E →
    codeAny (model P w) A (.call (.ref f) args) (CR CX0 outer P w H s Q E) s
def cxC (P : Program) (w : World) (K : PySem.W.Frag) (mg : Str → Option Value) (base : Heap) (N : List Str) (qual : Str) (scope : Scope) (f : Addr) (cd : Value) (A : Around) (outer : List Env) (s : Shared) (H : Hp) (E : XK) (pn : List (Addr × Obj)) : Cx :=
  { cxOf CX0 P w K mg base N qual scope f cd A outer s H E with calm := false, pn := pn }
theorem fn_ofC {P : Program} {w : World} {K : PySem.W.Frag} {mg : Str → Option Value} {base : Heap} {k : Nat} {x qual : Str} {params : Arguments} {body : List Stmt} {scope : Scope} {dvs : List V} {kws : List (Str × V)} {f : Addr} {fd : FuncData} {N ps : List Str} {sp : Sp}
    (F : FunD K x qual params body scope dvs kws f fd) (S : FnScope N ps scope) (len : ∀ vs H Q E, sp vs H Q E → vs.length = ps.length)
    (hbody : ∀ (cdv : Value) (A : Around) (outer : List Env) (s : Shared) (H : Hp) (vs : List V) (Q : VK) (E : XK) (pn : List (Addr × Obj)), Hot2 (cxC P w K mg base N qual scope f cdv A outer s H E pn).A (cxC P w K mg base N qual scope f cdv A outer s H E pn).pn → sp vs H Q E →
      ∃ t, PSs (cxC P w K mg base N qual scope f cdv A outer s H E pn).nox body t ∧ t { nx := fun _ H' => Q .non H', rt := Q } (L2.start N vs) H) : FnC P w K mg base (k + 1) f fd ps sp := by
  obtain ⟨oc, od, dV, kV, doc, pm, an, cdv, ct, osl, rfl, lk, hcd, _, _⟩ := F.ex
  refine ⟨len, fun A outer s H args us vs Q E pn hr hot hpin e0 hb r hsp => ?_⟩
  have hl := len _ _ _ _ hsp
  have KX : K.In s.heap := e0.mod.kin.keeps fun b o e => (e0.bs b o e).1
  have lim : s.heap.NoLimit := e0.mod.nolimit.keeps fun b o e => (e0.bs b o e).1
  have hkind : ∀ y ∈ ps.zip us, scope.names.lookup y.1 = some .local ∨ (scope.names.lookup y.1 = some .cell ∧ ((cellsFrom (s.heap.objs.size + 1) scope.names []).lookup y.1).isSome = true) := by
    rintro ⟨n, v⟩ hy
    rcases S.par n (List.of_mem_zip hy).1 with q | q
    · exact .inl q
    · exact .inr ⟨q, PySem.W.cellsFrom_some _ _ _ (.inl q)⟩
  refine codeAny_call_function hr.depth (KX _ _ lk) rfl S.co S.gen rfl (PySem.W.codeRec_of KX hcd) (hb _ _ _ _ ?_)
  refine wpAny_newFunctionEnv_cells S.kind hkind fun env he s1 x => ?_
  subst he
  refine ⟨lim.keeps x.toInCall.keep, codeAny_func ?_⟩
  obtain ⟨t, ht, hq⟩ := hbody cdv A outer s H vs Q E pn hot hsp
  obtain ⟨pa, poe, _, _, pm', _⟩ := id hot
  have I0 := L2H.inv_startH (CX := CX0) (E := E) (f := f) (cd := cdv) (qual := qual) (p := (pa, poe)) S (hpin _ pm') e0 hl r x
  have hk : ∀ b o, s.heap.get? b = some o → s1.heap.get? b = some o := x.toInCall.keep
  have I : Inv (cxC P w K mg base N qual scope f cdv A outer s H E pn) [] (L2.start N vs) H s1 :=
    ⟨⟨I0.ok.mod, I0.ok.kind, I0.ok.glob, I0.ok.blt, I0.ok.above, I0.ok.inj, I0.ok.has, I0.ok.cab, fun z => Bool.noConfusion (show false = true from z), I0.ok.frames, I0.ok.stk, I0.ok.exf, I0.ok.bs, I0.ok.bsz, I0.ok.noex, I0.ok.exfs, I0.ok.funs, I0.ok.frf⟩,
      I0.os, I0.bare, I0.base, I0.loc, I0.cell, I0.free, I0.freeC, fun p hp => (by
        have hp' : p ∈ pn := by rw [List.append_nil] at hp; exact hp
        have q := hpin p hp'
        exact ⟨hk _ _ q.get, q.free, Nat.ne_of_lt (Heap.lt_size q.get), q.nofs, q.nocell⟩), I0.hok, I0.len⟩
  refine wpAny_mono (ht.nox.run [] s1 (L2.start N vs) H _ I hq) (fun fl s' hs => ?_) fun e s' hs => hs
  have fin : ∀ {σ' : St} {H' : Hp} {v : V} {u : Value}, Inv (cxC P w K mg base N qual scope f cdv A outer s H E pn) [] σ' H' s' → RelV v u → Q v H' → CE outer P w H s Q u s' := fun {σ' H' v u} J rv q => ⟨v, H', J.os, J.bare, J.base, J.hok, rv, q⟩
  cases fl with
  | ret u =>
    obtain ⟨v, σ', H', J, rv, q⟩ := hs
    exact fin J rv q
  | next =>
    obtain ⟨σ', H', J, q⟩ := hs
    exact fin (v := V.non) (u := Value.none) J rfl q
  | brk =>
    obtain ⟨_, _, _, q⟩ := hs
    exact q.elim
  | cont =>
    obtain ⟨_, _, _, q⟩ := hs
    exact q.elim
theorem pe_callC {X : Cx} {k : Nat} {f : Addr} {fd : FuncData} {ps : List Str} {sp : Sp} {x : Str} {q pos : Pos} {e : Expr} {es : List Expr} {t : TA} (F : FnC X.prog X.w X.K X.mg X.base k f fd ps sp) (hr : L2H.RoomH k X.A) (hc : Hot2 X.A X.pn) (hg : Gl X x) (hm : X.mg x = some (.ref f)) (hk : PySem.W.keepIn X.K (.ref f) = true) (hb : Binds X.K fd ps [])
    (ha : PA X (e :: es) t) (hdb : (x == ("__debug__" : Str)) = false := by decide) (he : starEach (e :: es) X.env = (false, eval e X.env) :: starEach es X.env := by rfl) (hpl : (backTo pos (starEach es X.env)).any (·.1) = false := by rfl) :
    PE X (.Call (.Name x q) (e :: es) [] pos) (tCall sp [] E0 t) := by
  refine ⟨fun pins s σ H Q I h => ?_⟩
  refine wpAny_Call_Name_kw (ld_glob I hg hm ?_ hdb)
  refine PySem.W.callWith_K (h₀ := X.base) I.ok.mod.kin hk (thn (ha.run pos pins s σ H _ I h) fun us s1 ⟨vs, H1, I1, r, q⟩ => ⟨I1.kIn, ?_⟩) he hpl
  have q : sp (vs ++ []) H1 Q E0 := q
  rw [List.append_nil] at q
  have hl : us.length = ps.length := by rw [← r.length]; exact F.len _ _ _ _ q
  have b := hb s1 us I1.kIn (by rw [List.append_nil]; exact hl)
  rw [List.append_nil] at b
  have hpin : ∀ p ∈ X.pn, L2H.PinOk X.stack H1 s1 p := fun p hp => by
    obtain ⟨q1, q2, q3, q4, q5⟩ := I1.pin p (List.mem_append_left _ hp)
    exact ⟨q1, q2, fun hm => (List.mem_cons.mp (I1.stkSub p.1 hm)).elim q3 q4, q5⟩
  refine wpAny_call (codeAny_mono (F.run X.A X.stack s1 H1 ⟨us, []⟩ us vs Q E0 X.pn hr hc hpin I1.env0 b r q) fun r s' hq => ?_)
  cases r with
  | error e => exact hq.elim
  | ok fl =>
    cases fl with
    | ret u => exact I1.after hq
    | next => exact hq.elim
    | brk => exact hq.elim
    | cont => exact hq.elim
end WX
/-! ## WRules -/
set_option Elab.async false
set_option linter.all false
set_option maxRecDepth 100000
set_option maxHeartbeats 2000000
/-! Further rules: zip of a tuple and a list, a def held by a local name, an own exception made, floor division by any word. -/
namespace WX
open PySem PySem.Spec PyProof.Rows L2
/-! ### floor division -/
theorem op_fdivL {X : Cx} : OpR X (binaryOp .FloorDiv) (rI (fun _ j => j ≠ 0 ∧ j.natAbs.log2 < 9000) fun i j => .int (i.fdiv j)) :=
  opI fun _ _ _ _ _ _ _ hc q => floordiv_int hc.1 q (.inl (PyProof.noPylong_of_log2 hc.2))
/-! ### zip(t, l): a tuple and a list -/
def ItzM (K : PySem.W.Frag) (a b : Addr) : It where
  go := fun i H => ∃ (xs ys : List V) (x y : V), SqT K H a xs ∧ SqL K H b ys ∧ xs[i]? = some x ∧ ys[i]? = some y
  yld := fun i H v H' => ∃ T x y, v = .ref T ∧ H T = none ∧ H' = upd H T (.tup [x, y]) ∧ (∀ xs, SqT K H a xs → xs[i]? = some x) ∧ ∀ ys, SqL K H b ys → ys[i]? = some y
  stop := fun i H => ∃ xs ys : List V, SqT K H a xs ∧ SqL K H b ys ∧ i = xs.length ∧ i = ys.length
structure Apart (z TI TO i1 i2 a b : Addr) : Prop where
  s : ZipSep2 z TI TO i1 i2 [i1, a] [i2, b]
  a1 : a ≠ i1
  b2 : b ≠ i2
/-- the iterator's own cells: those of the zip, its two tuples, the two iterators -/
theorem turn_zipM {P : Program} {w : World} {K : PySem.W.Frag} {elts : List Expr} {kk : Nat} {tpos : Pos} {a b z TI TO i1 i2 : Addr} (D : Apart z TI TO i1 i2 a b) :
    Turn P w K (.Tuple elts kk tpos) (ItzM K a b) [z, TI, TO, i1, i2] z (fun i h => IsZip h z TI TO .none ∧ IsTupOf2 h TI (.ref i1) (.ref i2) ∧ (∃ x y, IsTupOf2 h TO x y) ∧ h.IsTupleIter i1 a i ∧ h.IsListIter i2 b i) where
  mem := by simp
  obj := by
    rintro i h ⟨hz, hTI, ⟨x, y, hTO⟩, ⟨o1, e1, _, d1⟩, ⟨o2, e2, _, d2⟩⟩ c hc
    simp only [List.mem_cons, List.not_mem_nil, or_false] at hc
    rcases hc with q | q | q | q | q <;> rw [q]
    · exact ⟨_, hz, fun v q => nomatch q⟩
    · exact ⟨_, hTI, fun v q => nomatch q⟩
    · exact ⟨_, hTO, fun v q => nomatch q⟩
    · exact ⟨o1, e1, fun v q => by rw [d1] at q; cases q⟩
    · exact ⟨o2, e2, fun v q => by rw [d2] at q; cases q⟩
  keep := by
    rintro i h h' ⟨hz, hTI, ⟨x, y, hTO⟩, h1, h2⟩ k
    exact ⟨k z (by simp) _ hz, k TI (by simp) _ hTI, ⟨x, y, k TO (by simp) _ hTO⟩, h1.at fun o q => k i1 (by simp) o q, h2.at fun o q => k i2 (by simp) o q⟩
  item := by
    intro X hP hw hK hc i pins s σ H E I hf st hg
    subst hP hw hK
    obtain ⟨hz, hTI, ⟨x0, y0, hTO⟩, h1, h2⟩ := st
    obtain ⟨xs, ys, x, y, hqx, hqy, hx, hy⟩ := hg
    obtain ⟨its, rv, p, _⟩ := I.tuple hqx
    obtain ⟨its2, rv2, p2, _⟩ := I.list hqy
    obtain ⟨u, hu, ru⟩ := rv.get hx
    obtain ⟨u2, hu2, ru2⟩ := rv2.get hy
    have hzl : z < s.heap.objs.size := Heap.lt_size hz
    have lx : i < its.toArray.size := by rw [List.size_toArray]; exact (List.getElem?_eq_some_iff.mp hu).1
    have ly : i < its2.toArray.size := by rw [List.size_toArray]; exact (List.getElem?_eq_some_iff.mp hu2).1
    have D1 := Draws.tuple (prog := X.prog) (w := X.w) (A := X.A.in1) (I.ok.hd hc) i1 a D.a1 its.toArray
    have D2 := Draws.list (prog := X.prog) (w := X.w) (A := X.A.in1) (I.ok.hd hc) i2 b D.b2 its2.toArray
    refine wpAny_pyNext_zipD2_item D.s D1 D2 hz hTI hTO ⟨h1, show s.heap.IsTuple a its.toArray from p⟩ ⟨h2, p2.isList⟩ lx ly fun v1 v2 h' tk y1 y2 z' TO' st1 st2 hT hsz hk => ?_
    have ev1 : v1 = u := by
      have q : its[i]? = some v1 := by simpa using y1
      rw [hu] at q
      exact (Option.some.inj q).symm
    have ev2 : v2 = u2 := by
      have q : its2[i]? = some v2 := by simpa using y2
      rw [hu2] at q
      exact (Option.some.inj q).symm
    subst ev1 ev2
    refine ⟨_, rfl, wpAny_letOwnedTupleGo_zip (s := { s with heap := h', toks := tk }) z' fun h'' z'' sb => ?_⟩
    have off : ∀ c o, c ∉ [z, TI, TO, i1, i2] → s.heap.get? c = some o → h''.get? c = some o := fun c o hb q =>
      (sb.2 c (fun q' => hb (by simp [q']))).trans (hk c o (fun q' => hb (by simp [q'])) (fun q' => hb (by simp [q'])) (fun q' => hb (by simp [q'])) (fun q' => hb (by simp [q'])) q)
    have hT2 : h''.get? s.heap.objs.size = some { cls := .type "tuple", data := .seq #[v1, v2] } := (sb.2 _ (Nat.ne_of_gt hzl)).trans hT
    have new : ObjOk X.prog X.w (upd H s.heap.objs.size (.tup [x, y])) h'' s.heap.objs.size (.tup [x, y]) :=
      ⟨by show 2 ≤ sizeLine; decide, [v1, v2], .cons ru (.cons ru2 .nil), ⟨_, hT2, rfl, _, rfl⟩⟩
    have I1 : Inv X pins σ (upd H s.heap.objs.size (.tup [x, y])) { s with heap := h'', toks := tk } := I.turnedNew (ch := [z, TI, TO, i1, i2]) off hf (Nat.le_refl _) new
    refine ⟨.ref s.heap.objs.size, _, I1, rfl, ⟨_, x, y, rfl, I.hok.fresh (Nat.le_refl _), rfl, fun l hl => by rw [I.tuple_inj hl hqx]; exact hx, fun l hl => by rw [I.list_inj hl hqy]; exact hy⟩, ⟨z'', ?_, ⟨v1, v2, ?_⟩, ?_, ?_⟩, fun c hcm => ?_⟩
    · exact (sb.2 _ D.s.TIz).trans (hk _ _ D.s.TIz D.s.TITO D.s.TIi1 D.s.TIi2 hTI)
    · exact (sb.2 _ D.s.TOz).trans TO'
    · exact st1.1.at fun o q => (sb.2 _ (Ne.symm D.s.zi1)).trans q
    · exact st2.1.at fun o q => (sb.2 _ (Ne.symm D.s.zi2)).trans q
    · have hlt : c < s.heap.objs.size := by
        simp only [List.mem_cons, List.not_mem_nil, or_false] at hcm
        rcases hcm with q | q | q | q | q <;> rw [q]
        · exact hzl
        · exact Heap.lt_size hTI
        · exact Heap.lt_size hTO
        · obtain ⟨_, e1, _⟩ := h1; exact Heap.lt_size e1
        · obtain ⟨_, e2, _⟩ := h2; exact Heap.lt_size e2
      rw [upd_ne (Nat.ne_of_lt hlt)]
      exact (hf c hcm).1
  done := by
    intro X hP hw hK hc i pins s σ H E I hf st hg
    subst hP hw hK
    obtain ⟨hz, hTI, ⟨x0, y0, hTO⟩, h1, h2⟩ := st
    obtain ⟨xs, ys, hqx, hqy, n1, n2⟩ := hg
    obtain ⟨its, rv, p, _⟩ := I.tuple hqx
    obtain ⟨its2, rv2, p2, _⟩ := I.list hqy
    have m1 : i = its.toArray.size := by rw [List.size_toArray, ← rv.length]; exact n1
    have m2 : i = its2.toArray.size := by rw [List.size_toArray, ← rv2.length]; exact n2
    have D1 := Draws.tuple (prog := X.prog) (w := X.w) (A := X.A.in1) (I.ok.hd hc) i1 a D.a1 its.toArray
    have D2 := Draws.list (prog := X.prog) (w := X.w) (A := X.A.in1) (I.ok.hd hc) i2 b D.b2 its2.toArray
    refine wpAny_pyNext_zipD2_end D.s D1 D2 hz hTI hTO ⟨h1, show s.heap.IsTuple a its.toArray from p⟩ ⟨h2, p2.isList⟩ (Nat.le_of_eq m1) (Nat.le_of_eq m2) (.inl m1) fun h' tk hk => ⟨rfl, I.turnedL (ch := [z, TI, TO, i1, i2]) (fun c o hb q => ?_) hf⟩
    exact hk c o (fun q' => hb (by simp [q'])) (fun q' => hb (by simp [q'])) (fun q' => hb (by simp [q'])) (fun q' => hb (by simp [q'])) q
  self := fun A i s Q E st h => wpAny_pyIter_zip st.1 h
theorem apart_of {n a b : Nat} (la : a < n) (lb : b < n) : Apart (n + 4) (n + 2) (n + 3) n (n + 1) a b := by
  have ne : ∀ {i j : Nat}, i ≠ j → (i : Addr) ≠ j := fun h => h
  refine ⟨⟨ne (by omega), ne (by omega), ne (by omega), ne (by omega), List.mem_cons_self, ?_, ?_, ne (by omega), List.mem_cons_self, ?_, ?_, ?_, ?_⟩, ne (by omega), ne (by omega)⟩ <;>
    · intro hm
      rcases List.mem_cons.mp hm with hm | hm
      · have hm : (_ : Nat) = _ := hm
        omega
      · have hm : (_ : Nat) = _ := List.mem_singleton.mp hm
        omega
def iZipM (K : PySem.W.Frag) (ta : TA) : TI := fun σ H R => ta σ H fun vs H1 => ∃ a b xs ys, vs = [.ref a, .ref b] ∧ SqT K H1 a xs ∧ SqL K H1 b ys ∧ R (ItzM K a b) H1
theorem pi_zipM {X : Cx} {e e2 : Expr} {ta : TA} {p pos tpos : Pos} {elts : List Expr} {kk : Nat} (hg : Gl X "zip") (hm : X.mg "zip" = none) (ha : PA X [e, e2] ta)
    (hs : starEach [e, e2] X.env = (false, eval e X.env) :: starEach [e2] X.env := by rfl) (hpl : (backTo pos (starEach [e2] X.env)).any (·.1) = false := by rfl) :
    PI X (.Tuple elts kk tpos) (.Call (.Name "zip" p) [e, e2] [] pos) (iZipM X.K ta) := by
  refine ⟨fun pins s σ H R I h => ?_⟩
  refine Call_ (ld_blt I hg hm PyProof.Rows.boot_zip (PyProof.Rows.callWith_type1 (thn (ha.run pos pins s σ H _ I h) fun us s1 ⟨vs, H1, I1, r1, q1⟩ => ?_) hs hpl))
  obtain ⟨a, b, xs, ys, rfl, hqx, hqy, q⟩ := q1
  obtain ⟨u1, u2, rfl, r, r'⟩ := vals2 r1
  cases r
  cases r'
  obtain ⟨its, rv, p1, _⟩ := I1.tuple hqx
  obtain ⟨its2, rv2, p2, _⟩ := I1.list hqy
  have la : a < s1.heap.objs.size := p1.lt
  have lb : b < s1.heap.objs.size := p2.lt
  refine zip_begins2 (begins_tuple a its.toArray) (begins_list b its2.toArray) (show s1.heap.IsTuple a its.toArray from p1) p2.isList fun h' hz hTI hTO h1 h2 hsz hk => wpAny_pyIter_zip hz ?_
  have I2 : Inv X pins σ H1 { s1 with heap := h' } := I1.kept (t' := s1.toks) hk
  have ap : Apart (s1.heap.objs.size + 4) (s1.heap.objs.size + 2) (s1.heap.objs.size + 3) s1.heap.objs.size (s1.heap.objs.size + 1) a b := apart_of la lb
  refine ⟨s1.heap.objs.size + 4, [s1.heap.objs.size + 4, s1.heap.objs.size + 2, s1.heap.objs.size + 3, s1.heap.objs.size, s1.heap.objs.size + 1], _, _, H1, rfl, I2, turn_zipM ap, ⟨hz, hTI, ⟨_, _, hTO⟩, ⟨_, h1, rfl, rfl⟩, ⟨_, h2, rfl, rfl⟩⟩, fun c hcm => ?_, q⟩
  have hle : s1.heap.objs.size ≤ c := by
    simp only [List.mem_cons, List.not_mem_nil, or_false] at hcm
    rcases hcm with z | z | z | z | z <;> rw [z]
    · exact Nat.le_add_right _ _
    · exact Nat.le_add_right _ _
    · exact Nat.le_add_right _ _
    · exact Nat.le_refl _
    · exact Nat.le_add_right _ _
  exact I1.fpOk hle (I1.hok.fresh hle)
/-- a loop over zip of a tuple and a list of one length -/
theorem for_zipM {K : PySem.W.Frag} {a b : Addr} {xs ys : List V} {g : TG} {tb : TS} {D : Ends} {σ : L2.St} {H : Hp} (hl : xs.length = ys.length) (Pv : Nat → L2.St → Hp → Prop) (h0 : Pv 0 σ H) (hq : ∀ i σ H, Pv i σ H → SqT K H a xs ∧ SqL K H b ys)
    (hs : ∀ (i : Nat) (x y : V) (T : Addr) (σ : L2.St) (H : Hp), xs[i]? = some x → ys[i]? = some y → Pv i σ H → H T = none → g (.ref T) σ (upd H T (.tup [x, y])) fun σ2 H2 => tb { D with nx := Pv (i + 1), ct := Pv (i + 1), bk := D.nx } σ2 H2) (hd : ∀ σ H, Pv xs.length σ H → D.nx σ H) :
    ∃ W : Nat → Nat → L2.St → Hp → Prop, (∃ m, W 0 m σ H) ∧ ∀ i m σ H, W i m σ H →
      ((ItzM K a b).stop i H ∧ D.nx σ H) ∨ ((ItzM K a b).go i H ∧ ∃ N : L2.St → Hp → Prop, (∀ σ' H', N σ' H' → ∃ m', m' < m ∧ W (i + 1) m' σ' H') ∧ ∀ v H', (ItzM K a b).yld i H v H' → g v σ H' fun σ2 H2 => tb { D with nx := N, ct := N, bk := D.nx } σ2 H2) := by
  refine ⟨fun i m σ H => m = xs.length - i ∧ i ≤ xs.length ∧ Pv i σ H, ⟨xs.length, rfl, Nat.zero_le _, h0⟩, ?_⟩
  rintro i m σ H ⟨rfl, hi, p⟩
  obtain ⟨qx, qy⟩ := hq i σ H p
  rcases Nat.lt_or_eq_of_le hi with lt | e
  · have hx : xs[i]? = some xs[i] := List.getElem?_eq_getElem lt
    have hy : ys[i]? = some (ys[i]'(by omega)) := List.getElem?_eq_getElem (by omega)
    refine .inr ⟨⟨xs, ys, _, _, qx, qy, hx, hy⟩, Pv (i + 1), fun σ' H' p' => ⟨xs.length - (i + 1), by omega, rfl, lt, p'⟩, ?_⟩
    rintro v H' ⟨T, x', y', rfl, hT, rfl, f1, f2⟩
    exact hs i x' y' T σ H (f1 xs qx) (f2 ys qy) p hT
  · subst e
    exact .inl ⟨⟨xs, ys, qx, qy, rfl, hl⟩, hd σ H p⟩
/-! ### an own exception made where nothing is handled: its context is None -/
theorem pmk_oexN {X : Cx} {CX : CXT} {x : Str} {e : Expr} {es : List Expr} {ta : TA} {p pos : Pos} {C fI : Addr} {k : Nat} {fd : FuncData} {ps : List Str} {sp : Sp} (T : OexC X.K C) (iC : PySem.W.findIn X.K (.ref C) "__init__" = some (some (.ref fI))) (tI : PySem.W.typeIn X.K (.ref fI) = some (.type "function"))
    (F1 : FnOk X.prog X.w X.K X.mg X.base CX k fI fd ps sp) (hr : Room (k + 1) X.A) (hb : Binds X.K fd ps []) (hx : Passes CX X (fun _ _ _ => False)) (hg : Gl X x) (hm : X.mg x = some (.ref C)) (ha : PA X (e :: es) ta)
    (hdb : (x == ("__debug__" : Str)) = false := by decide) (he : starEach (e :: es) X.env = (false, eval e X.env) :: starEach es X.env := by rfl) (hpl : (backTo pos (starEach es X.env)).any (·.1) = false := by rfl) :
    L2N.PMk X (.Call (.Name x p) (e :: es) [] pos) (tMkO C sp [] ta) := by
  intro pins s σ H Q I h
  obtain ⟨nm, q, N, bs, bm, sn, sub, ab, col, dd, k0, k1, k2, k3, k5, hC, hbm⟩ := T.cls
  refine wpAny_Call_Name_kw (ld_glob I hg hm ?_ hdb)
  refine PySem.W.callWith_K (h₀ := X.base) I.ok.mod.kin T.kC (thn (ha.run pos pins s σ H _ I h) fun us s1 ⟨vs, H1, I1, r1, hz, q1⟩ => ⟨I1.kIn, ?_⟩) he hpl
  show wpAny _ _ (call (.ref C) us) _ _ _
  obtain ⟨hp, g, dr, tk, os⟩ := s1
  have up : hp.objs.size ≤ hp.objs.size + 1 := Nat.le_succ _
  have hq := q1 (hp.objs.size + 1) (I1.hok.fresh up)
  rw [List.append_nil] at hq
  have kk : ∀ b o, hp.get? b = some o → ((hp.push (PySem.W.kdv_tup us)).push (PySem.HandSPX.excO C hp.objs.size)).get? b = some o := fun b o e => Heap.get?_push_of_some _ (Heap.get?_push_of_some _ e)
  have here : ((hp.push (PySem.W.kdv_tup us)).push (PySem.HandSPX.excO C hp.objs.size)).get? (hp.objs.size + 1) = some (PySem.HandSPX.excO C hp.objs.size) := by heap_get
  have I2 : Inv X pins σ (upd H1 (hp.objs.size + 1) (exo (hp.objs.size + 1) C none)) ⟨(hp.push (PySem.W.kdv_tup us)).push (PySem.HandSPX.excO C hp.objs.size), g, dr, tk, os⟩ := I1.laid (t' := tk) kk up (exo_ok here)
  have r2 : Vals (V.ref (hp.objs.size + 1) :: vs) (Value.ref (hp.objs.size + 1) :: us) := .cons rfl r1
  have hl : (Value.ref (hp.objs.size + 1) :: us ++ []).length = ps.length := by
    rw [List.append_nil, ← r2.length]
    exact F1.len _ _ _ _ hq
  have b2 := hb _ (Value.ref (hp.objs.size + 1) :: us) I2.kIn hl
  rw [List.append_nil] at b2
  have hus : us.length ≤ sizeLine := by
    have e1 := r1.length
    rw [sizeLine_eq]
    omega
  refine wpAny_call (PySem.HandSPX.call_own PySem.F.excBase_ValueError (fun Y => PySem.HandSPX.refsVE_contains Y bm hbm) (I1.kIn _ _ hC) (PySem.W.looks_findIn I1.kIn iC) (fun self => PySem.W.bind_fn I1.kIn self tI) hus
    (codeAny_mono (F1.run _ X.stack _ _ ⟨Value.ref (hp.objs.size + 1) :: us, []⟩ _ _ _ (fun _ _ _ => False) (hr.make C us []) (I2.env0.make C us []) b2 r2 hq) fun r s' hq' => ?_))
  cases r with
  | error er => exact hx pins σ _ _ er s' I2 hq'
  | ok fl =>
    cases fl with
    | ret u =>
      obtain ⟨v, H2, os2, bare2, un2, hok2, rv, ev, d, fs, ea, ed, hd1, q2⟩ := hq'
      subst ev
      obtain ⟨h2, g2, d2, t2, os'⟩ := s'
      obtain ⟨t0, G, J, kG, ge, hoe, na⟩ := mk_end0 (d2 := d2) (t2 := t2) I1 up kk un2 hok2 os2 bare2 ea ed hd1
      exact ⟨rv, hp.objs.size + 1, _, _, ⟨G, g2, d2, t2, os'⟩, _, .ref C, some d, rfl, J, kG, ge, hoe, ⟨rfl, rfl, fun vs hv => by cases hv; rfl⟩, rfl, rfl, na, rfl, bare2, raises_own T.exC T.tyC, q2⟩
    | next => exact hq'.elim
    | brk => exact hq'.elim
    | cont => exact hq'.elim
/-! ### a local name that holds one of several defs: the promise goes with the address -/
structure HeldX (P : Program) (w : World) (K : PySem.W.Frag) (mg : Str → Option Value) (base : Heap) (CX : CXT) (k : Nat) (f : Addr) (sp : Sp) : Prop where
  ex : ∃ (fd : FuncData) (ps : List Str), FnOk P w K mg base CX k f fd ps sp ∧ PySem.W.keepIn K (.ref f) = true ∧ Binds K fd ps []
def tCallAX (i : Nat) (S : Addr → Sp → Prop) (E : XK) (t : TA) : TE := fun σ H Q => ∃ f sp, σ[i]? = some (some (.ref f)) ∧ S f sp ∧ t σ H fun vs H1 => sp vs H1 Q E
theorem pe_callAX {X : Cx} {CX : CXT} {k i : Nat} {E : XK} {x : Str} {p pos : Pos} {e : Expr} {es : List Expr} {t : TA} {S : Addr → Sp → Prop} (A : ∀ f sp, S f sp → HeldX X.prog X.w X.K X.mg X.base CX k f sp) (hr : Room k X.A) (hN : X.N[i]? = some x) (hv : Vis X.env.scope x) (hx : Passes CX X E) (ha : PA X (e :: es) t)
    (hdb : (x == ("__debug__" : Str)) = false := by decide) (hcd : (x == ("__classdict__" : Str)) = false := by decide)
    (he : starEach (e :: es) X.env = (false, eval e X.env) :: starEach es X.env := by rfl) (hpl : (backTo pos (starEach es X.env)).any (·.1) = false := by rfl) : PE X (.Call (.Name x p) (e :: es) [] pos) (tCallAX i S E t) := by
  refine ⟨fun pins s σ H Q I h => ?_⟩
  obtain ⟨f, sp, hs, hS, ht⟩ := h
  obtain ⟨fd, ps, F, hk, hb⟩ := (A f sp hS).ex
  refine (pe_callL (i := i) (f := f) (sp := sp) (dvs := []) (E := E) F hr hN hv hk hb .nil hx ha hdb hcd he hpl).run pins s σ H Q I ⟨hs, ?_⟩
  have e0 : (fun (vs : List V) (H1 : Hp) => sp (vs ++ []) H1 Q E) = fun vs H1 => sp vs H1 Q E := by
    funext vs H1
    rw [List.append_nil]
  show t σ H (fun vs H1 => sp (vs ++ []) H1 Q E)
  rw [e0]
  exact ht
end WX
/-! ## WBase -/
set_option Elab.async false
set_option linter.all false
set_option maxRecDepth 100000
set_option maxHeartbeats 2000000
/-! The text by places, what the top has left, how a def's promise is kept. -/
namespace WX
open PySem PySem.Spec PyProof.Rows L2 He
def top (i : Nat) : Stmt := PySem.Challenge.pw_windowada_k33_whole_run_and_trace.main.body.getD i (.Pass ⟨0, 0, 0, 0⟩)
def cBody : Stmt → List Stmt
  | .ClassDef _ _ _ b _ _ _ _ _ _ _ => b
  | _ => []
def mth (i j : Nat) : Stmt := (cBody (top i)).getD j (.Pass ⟨0, 0, 0, 0⟩)
/-! ### the facts of the top -/

def gls0 : List Str := ["Unit", "Module", "AdaError", "NORMAL", "EXHAUSTED", "FAULT", "NoInput", "OutOfFuel", "Events", "Fuel", "Overflow", "DivisionByZero", "CodeRaised", "CodeFault", "Frame", "CodeRun", "ARITHMETIC", "ACTIONS", "region_of", "raised", "fits", "checked", "quotient", "divide", "arithmetic"]
def gls1 : List Str := ["negate", "absolute", "compute", "element_index", "run_load", "run_store", "run_check", "run_again", "run_get", "run_call", "step", "run_frame", "run_noting", "run_module", "trace_module", "_law_start", "_law_take", "_law_place", "_law_operand", "_law_target", "_law_around", "_law_memory", "_law_call", "_law_instruction", "_law_regions"]
def gls2 : List Str := ["_law_unit", "_law_shapes", "_law_module", "_law_exact", "_law_value", "_law_outer", "_law_compute", "_law_cells", "_law_again", "_law_step", "_law_enter", "_law_region", "_law_run", "_law_begin", "_law_alike", "law"]
def gls : List Str := gls0 ++ (gls1 ++ gls2)
def frs0 : List Str := ["len", "abs", "int", "list", "tuple", "range", "zip", "enumerate", "isinstance", "str", "bool"]
def fa0 : List Fa := [.int "CONSTRAINT" (0), .int "STORAGE" (2), .int "END" (3), .int "DEPTH_LIMIT" (10), .int "MIN" (-2147483648), .int "MAX" (2147483647)]
def fa1 : List Fa := [.cls "Unit", .cls "Module", .cls "Events", .cls "Fuel", .cls "Frame", .cls "CodeRun"]
def fa2 : List Fa := [.mkr "Unit", .mkr "Module", .mkr "Events", .mkr "Fuel", .mkr "Frame", .mkr "CodeRun"]
def fa3 : List Fa := [.meth "Events" "put", .meth "Events" "get", .meth "Fuel" "tick", .meth "Frame" "value", .meth "Frame" "outer", .meth "CodeRun" "note"]
def fa4 : List Fa := [.exc "NoInput", .exc "OutOfFuel", .exc "CodeFault", .exc "Overflow", .exc "DivisionByZero"]
def fa5 : List Fa := [.noat "Unit" "parent", .noat "Unit" "arguments", .noat "Unit" "results", .noat "Unit" "registers", .noat "Unit" "cells", .noat "Unit" "code", .noat "Unit" "regions"]
def fa6 : List Fa := [.noat "Module" "units", .noat "Module" "names", .noat "Module" "places"]
def fa7 : List Fa := [.noat "Events" "inputs", .noat "Events" "taken", .noat "Events" "made"]
def fa8 : List Fa := [.noat "Fuel" "units"]
def fa9 : List Fa := [.noat "Frame" "number", .noat "Frame" "unit", .noat "Frame" "parent", .noat "Frame" "depth", .noat "Frame" "registers", .noat "Frame" "cells"]
def fa10 : List Fa := [.noat "CodeRun" "module", .noat "CodeRun" "events", .noat "CodeRun" "fuel", .noat "CodeRun" "limit", .noat "CodeRun" "seen"]
def faG : List Fa := gls.map Fa.glo
def faF : List Fa := frs0.map Fa.free
def fa : List Fa := faG ++ (faF ++ (fa0 ++ (fa1 ++ (fa2 ++ (fa3 ++ (fa4 ++ (fa5 ++ (fa6 ++ (fa7 ++ (fa8 ++ (fa9 ++ (fa10))))))))))))
abbrev st_Unit_init : Stmt := (mth 3 0)
def N_Unit_init : List Str := ["self", "parent", "arguments", "results", "registers", "cells", "code", "regions"]
theorem sc_Unit_init : FnScope ["self", "parent", "arguments", "results", "registers", "cells", "code", "regions"] ["self", "parent", "arguments", "results", "registers", "cells", "code", "regions"] (defScope st_Unit_init) := ⟨rfl, rfl, rfl, by decide +kernel, rfl, by decide +kernel, by decide +kernel⟩
def d_Unit_init : DefD := ⟨("Unit", some "__init__"), "__init__", "Unit.__init__", defArgs st_Unit_init, defBody st_Unit_init, defScope st_Unit_init, [], []⟩
abbrev st_Module_init : Stmt := (mth 4 0)
def N_Module_init : List Str := ["self", "units", "names", "places"]
theorem sc_Module_init : FnScope ["self", "units", "names", "places"] ["self", "units", "names", "places"] (defScope st_Module_init) := ⟨rfl, rfl, rfl, by decide +kernel, rfl, by decide +kernel, by decide +kernel⟩
def d_Module_init : DefD := ⟨("Module", some "__init__"), "__init__", "Module.__init__", defArgs st_Module_init, defBody st_Module_init, defScope st_Module_init, [], []⟩
abbrev st_region_of : Stmt := (top 5)
def N_region_of : List Str := ["unit", "index", "region"]
theorem sc_region_of : FnScope ["unit", "index", "region"] ["unit", "index"] (defScope st_region_of) := ⟨rfl, rfl, rfl, by decide +kernel, rfl, by decide +kernel, by decide +kernel⟩
def d_region_of : DefD := ⟨("region_of", none), "region_of", "region_of", defArgs st_region_of, defBody st_region_of, defScope st_region_of, [], []⟩
abbrev st_Events_init : Stmt := (mth 18 0)
def N_Events_init : List Str := ["self", "inputs"]
theorem sc_Events_init : FnScope ["self", "inputs"] ["self", "inputs"] (defScope st_Events_init) := ⟨rfl, rfl, rfl, by decide +kernel, rfl, by decide +kernel, by decide +kernel⟩
def d_Events_init : DefD := ⟨("Events", some "__init__"), "__init__", "Events.__init__", defArgs st_Events_init, defBody st_Events_init, defScope st_Events_init, [], []⟩
abbrev st_Events_put : Stmt := (mth 18 1)
def N_Events_put : List Str := ["self", "word"]
theorem sc_Events_put : FnScope ["self", "word"] ["self", "word"] (defScope st_Events_put) := ⟨rfl, rfl, rfl, by decide +kernel, rfl, by decide +kernel, by decide +kernel⟩
def d_Events_put : DefD := ⟨("Events", some "put"), "put", "Events.put", defArgs st_Events_put, defBody st_Events_put, defScope st_Events_put, [], []⟩
abbrev st_Events_get : Stmt := (mth 18 2)
def N_Events_get : List Str := ["self", "word"]
theorem sc_Events_get : FnScope ["self", "word"] ["self"] (defScope st_Events_get) := ⟨rfl, rfl, rfl, by decide +kernel, rfl, by decide +kernel, by decide +kernel⟩
def d_Events_get : DefD := ⟨("Events", some "get"), "get", "Events.get", defArgs st_Events_get, defBody st_Events_get, defScope st_Events_get, [], []⟩
abbrev st_Events_rows : Stmt := (mth 18 3)
def N_Events_rows : List Str := ["self"]
theorem sc_Events_rows : FnScope ["self"] ["self"] (defScope st_Events_rows) := ⟨rfl, rfl, rfl, by decide +kernel, rfl, by decide +kernel, by decide +kernel⟩
abbrev st_Fuel_init : Stmt := (mth 19 0)
def N_Fuel_init : List Str := ["self", "units"]
theorem sc_Fuel_init : FnScope ["self", "units"] ["self", "units"] (defScope st_Fuel_init) := ⟨rfl, rfl, rfl, by decide +kernel, rfl, by decide +kernel, by decide +kernel⟩
def d_Fuel_init : DefD := ⟨("Fuel", some "__init__"), "__init__", "Fuel.__init__", defArgs st_Fuel_init, defBody st_Fuel_init, defScope st_Fuel_init, [], []⟩
abbrev st_Fuel_tick : Stmt := (mth 19 1)
def N_Fuel_tick : List Str := ["self"]
theorem sc_Fuel_tick : FnScope ["self"] ["self"] (defScope st_Fuel_tick) := ⟨rfl, rfl, rfl, by decide +kernel, rfl, by decide +kernel, by decide +kernel⟩
def d_Fuel_tick : DefD := ⟨("Fuel", some "tick"), "tick", "Fuel.tick", defArgs st_Fuel_tick, defBody st_Fuel_tick, defScope st_Fuel_tick, [], []⟩
abbrev st_raised : Stmt := (top 20)
def N_raised : List Str := ["name", "place"]
theorem sc_raised : FnScope ["name", "place"] ["name", "place"] (defScope st_raised) := ⟨rfl, rfl, rfl, by decide +kernel, rfl, by decide +kernel, by decide +kernel⟩
def d_raised : DefD := ⟨("raised", none), "raised", "raised", defArgs st_raised, defBody st_raised, defScope st_raised, [], []⟩
abbrev st_fits : Stmt := (top 26)
def N_fits : List Str := ["number"]
theorem sc_fits : FnScope ["number"] ["number"] (defScope st_fits) := ⟨rfl, rfl, rfl, by decide +kernel, rfl, by decide +kernel, by decide +kernel⟩
def d_fits : DefD := ⟨("fits", none), "fits", "fits", defArgs st_fits, defBody st_fits, defScope st_fits, [], []⟩
abbrev st_checked : Stmt := (top 27)
def N_checked : List Str := ["number"]
theorem sc_checked : FnScope ["number"] ["number"] (defScope st_checked) := ⟨rfl, rfl, rfl, by decide +kernel, rfl, by decide +kernel, by decide +kernel⟩
def d_checked : DefD := ⟨("checked", none), "checked", "checked", defArgs st_checked, defBody st_checked, defScope st_checked, [], []⟩
abbrev st_quotient : Stmt := (top 28)
def N_quotient : List Str := ["left", "right", "size"]
theorem sc_quotient : FnScope ["left", "right", "size"] ["left", "right"] (defScope st_quotient) := ⟨rfl, rfl, rfl, by decide +kernel, rfl, by decide +kernel, by decide +kernel⟩
def d_quotient : DefD := ⟨("quotient", none), "quotient", "quotient", defArgs st_quotient, defBody st_quotient, defScope st_quotient, [], []⟩
abbrev st_divide : Stmt := (top 29)
def N_divide : List Str := ["op", "left", "right"]
theorem sc_divide : FnScope ["op", "left", "right"] ["op", "left", "right"] (defScope st_divide) := ⟨rfl, rfl, rfl, by decide +kernel, rfl, by decide +kernel, by decide +kernel⟩
def d_divide : DefD := ⟨("divide", none), "divide", "divide", defArgs st_divide, defBody st_divide, defScope st_divide, [], []⟩
abbrev st_arithmetic : Stmt := (top 30)
def N_arithmetic : List Str := ["op", "left", "right"]
theorem sc_arithmetic : FnScope ["op", "left", "right"] ["op", "left", "right"] (defScope st_arithmetic) := ⟨rfl, rfl, rfl, by decide +kernel, rfl, by decide +kernel, by decide +kernel⟩
def d_arithmetic : DefD := ⟨("arithmetic", none), "arithmetic", "arithmetic", defArgs st_arithmetic, defBody st_arithmetic, defScope st_arithmetic, [], []⟩
abbrev st_negate : Stmt := (top 31)
def N_negate : List Str := ["word"]
theorem sc_negate : FnScope ["word"] ["word"] (defScope st_negate) := ⟨rfl, rfl, rfl, by decide +kernel, rfl, by decide +kernel, by decide +kernel⟩
def d_negate : DefD := ⟨("negate", none), "negate", "negate", defArgs st_negate, defBody st_negate, defScope st_negate, [], []⟩
abbrev st_absolute : Stmt := (top 32)
def N_absolute : List Str := ["word"]
theorem sc_absolute : FnScope ["word"] ["word"] (defScope st_absolute) := ⟨rfl, rfl, rfl, by decide +kernel, rfl, by decide +kernel, by decide +kernel⟩
def d_absolute : DefD := ⟨("absolute", none), "absolute", "absolute", defArgs st_absolute, defBody st_absolute, defScope st_absolute, [], []⟩
abbrev st_CodeRaised_init : Stmt := (mth 34 0)
def N_CodeRaised_init : List Str := ["self", "number", "place"]
theorem sc_CodeRaised_init : FnScope ["self", "number", "place"] ["self", "number", "place"] (defScope st_CodeRaised_init) := ⟨rfl, rfl, rfl, by decide +kernel, rfl, by decide +kernel, by decide +kernel⟩
def d_CodeRaised_init : DefD := ⟨("CodeRaised", some "__init__"), "__init__", "CodeRaised.__init__", defArgs st_CodeRaised_init, defBody st_CodeRaised_init, defScope st_CodeRaised_init, [], []⟩
abbrev st_Frame_init : Stmt := (mth 36 0)
def N_Frame_init : List Str := ["self", "number", "unit", "parent", "depth"]
theorem sc_Frame_init : FnScope ["self", "number", "unit", "parent", "depth"] ["self", "number", "unit", "parent", "depth"] (defScope st_Frame_init) := ⟨rfl, rfl, rfl, by decide +kernel, rfl, by decide +kernel, by decide +kernel⟩
def d_Frame_init : DefD := ⟨("Frame", some "__init__"), "__init__", "Frame.__init__", defArgs st_Frame_init, defBody st_Frame_init, defScope st_Frame_init, [], []⟩
abbrev st_Frame_value : Stmt := (mth 36 1)
def N_Frame_value : List Str := ["self", "operand"]
theorem sc_Frame_value : FnScope ["self", "operand"] ["self", "operand"] (defScope st_Frame_value) := ⟨rfl, rfl, rfl, by decide +kernel, rfl, by decide +kernel, by decide +kernel⟩
def d_Frame_value : DefD := ⟨("Frame", some "value"), "value", "Frame.value", defArgs st_Frame_value, defBody st_Frame_value, defScope st_Frame_value, [], []⟩
abbrev st_Frame_outer : Stmt := (mth 36 2)
def N_Frame_outer : List Str := ["self", "hops", "frame", "_"]
theorem sc_Frame_outer : FnScope ["self", "hops", "frame", "_"] ["self", "hops"] (defScope st_Frame_outer) := ⟨rfl, rfl, rfl, by decide +kernel, rfl, by decide +kernel, by decide +kernel⟩
def d_Frame_outer : DefD := ⟨("Frame", some "outer"), "outer", "Frame.outer", defArgs st_Frame_outer, defBody st_Frame_outer, defScope st_Frame_outer, [], []⟩
abbrev st_CodeRun_init : Stmt := (mth 37 0)
def N_CodeRun_init : List Str := ["self", "module", "inputs", "fuel", "limit"]
theorem sc_CodeRun_init : FnScope ["self", "module", "inputs", "fuel", "limit"] ["self", "module", "inputs", "fuel", "limit"] (defScope st_CodeRun_init) := ⟨rfl, rfl, rfl, by decide +kernel, rfl, by decide +kernel, by decide +kernel⟩
def d_CodeRun_init : DefD := ⟨("CodeRun", some "__init__"), "__init__", "CodeRun.__init__", defArgs st_CodeRun_init, defBody st_CodeRun_init, defScope st_CodeRun_init, [], []⟩
abbrev st_CodeRun_note : Stmt := (mth 37 1)
def N_CodeRun_note : List Str := ["self", "frame", "index"]
theorem sc_CodeRun_note : FnScope ["self", "frame", "index"] ["self", "frame", "index"] (defScope st_CodeRun_note) := ⟨rfl, rfl, rfl, by decide +kernel, rfl, by decide +kernel, by decide +kernel⟩
def d_CodeRun_note : DefD := ⟨("CodeRun", some "note"), "note", "CodeRun.note", defArgs st_CodeRun_note, defBody st_CodeRun_note, defScope st_CodeRun_note, [], []⟩
abbrev st_compute : Stmt := (top 38)
def N_compute : List Str := ["frame", "instruction", "name", "first", "result"]
theorem sc_compute : FnScope ["frame", "instruction", "name", "first", "result"] ["frame", "instruction"] (defScope st_compute) := ⟨rfl, rfl, rfl, by decide +kernel, rfl, by decide +kernel, by decide +kernel⟩
def d_compute : DefD := ⟨("compute", none), "compute", "compute", defArgs st_compute, defBody st_compute, defScope st_compute, [], []⟩
abbrev st_element_index : Stmt := (top 39)
def N_element_index : List Str := ["frame", "operand", "cell", "count", "chosen"]
theorem sc_element_index : FnScope ["frame", "operand", "cell", "count", "chosen"] ["frame", "operand", "cell", "count"] (defScope st_element_index) := ⟨rfl, rfl, rfl, by decide +kernel, rfl, by decide +kernel, by decide +kernel⟩
def d_element_index : DefD := ⟨("element_index", none), "element_index", "element_index", defArgs st_element_index, defBody st_element_index, defScope st_element_index, [], []⟩
abbrev st_run_load : Stmt := (top 40)
def N_run_load : List Str := ["run", "frame", "instruction", "cell"]
theorem sc_run_load : FnScope ["run", "frame", "instruction", "cell"] ["run", "frame", "instruction"] (defScope st_run_load) := ⟨rfl, rfl, rfl, by decide +kernel, rfl, by decide +kernel, by decide +kernel⟩
def d_run_load : DefD := ⟨("run_load", none), "run_load", "run_load", defArgs st_run_load, defBody st_run_load, defScope st_run_load, [], []⟩
abbrev st_run_store : Stmt := (top 41)
def N_run_store : List Str := ["run", "frame", "instruction", "cell"]
theorem sc_run_store : FnScope ["run", "frame", "instruction", "cell"] ["run", "frame", "instruction"] (defScope st_run_store) := ⟨rfl, rfl, rfl, by decide +kernel, rfl, by decide +kernel, by decide +kernel⟩
def d_run_store : DefD := ⟨("run_store", none), "run_store", "run_store", defArgs st_run_store, defBody st_run_store, defScope st_run_store, [], []⟩
abbrev st_run_check : Stmt := (top 42)
def N_run_check : List Str := ["run", "frame", "instruction"]
theorem sc_run_check : FnScope ["run", "frame", "instruction"] ["run", "frame", "instruction"] (defScope st_run_check) := ⟨rfl, rfl, rfl, by decide +kernel, rfl, by decide +kernel, by decide +kernel⟩
def d_run_check : DefD := ⟨("run_check", none), "run_check", "run_check", defArgs st_run_check, defBody st_run_check, defScope st_run_check, [], []⟩
abbrev st_run_again : Stmt := (top 43)
def N_run_again : List Str := ["run", "frame", "instruction", "number", "place"]
theorem sc_run_again : FnScope ["run", "frame", "instruction", "number", "place"] ["run", "frame", "instruction"] (defScope st_run_again) := ⟨rfl, rfl, rfl, by decide +kernel, rfl, by decide +kernel, by decide +kernel⟩
def d_run_again : DefD := ⟨("run_again", none), "run_again", "run_again", defArgs st_run_again, defBody st_run_again, defScope st_run_again, [], []⟩
abbrev st_run_get : Stmt := (top 44)
def N_run_get : List Str := ["run", "frame", "instruction"]
theorem sc_run_get : FnScope ["run", "frame", "instruction"] ["run", "frame", "instruction"] (defScope st_run_get) := ⟨rfl, rfl, rfl, by decide +kernel, rfl, by decide +kernel, by decide +kernel⟩
def d_run_get : DefD := ⟨("run_get", none), "run_get", "run_get", defArgs st_run_get, defBody st_run_get, defScope st_run_get, [], []⟩
abbrev st_run_call : Stmt := (top 45)
def N_run_call : List Str := ["run", "frame", "instruction", "values", "operand", "number", "callee", "at", "word", "results", "register_number"]
theorem sc_run_call : FnScope ["run", "frame", "instruction", "values", "operand", "number", "callee", "at", "word", "results", "register_number"] ["run", "frame", "instruction"] (defScope st_run_call) := ⟨rfl, rfl, rfl, by decide +kernel, rfl, by decide +kernel, by decide +kernel⟩
def d_run_call : DefD := ⟨("run_call", none), "run_call", "run_call", defArgs st_run_call, defBody st_run_call, defScope st_run_call, [], []⟩
abbrev st_step : Stmt := (top 46)
def N_step : List Str := ["run", "frame", "instruction", "index", "name", "action"]
theorem sc_step : FnScope ["run", "frame", "instruction", "index", "name", "action"] ["run", "frame", "instruction", "index"] (defScope st_step) := ⟨rfl, rfl, rfl, by decide +kernel, rfl, by decide +kernel, by decide +kernel⟩
def d_step : DefD := ⟨("step", none), "step", "step", defArgs st_step, defBody st_step, defScope st_step, [], []⟩
abbrev st_run_frame : Stmt := (top 47)
def N_run_frame : List Str := ["run", "frame", "index", "instruction", "operand", "e", "region"]
theorem sc_run_frame : FnScope ["run", "frame", "index", "instruction", "operand", "e", "region"] ["run", "frame"] (defScope st_run_frame) := ⟨rfl, rfl, rfl, by decide +kernel, rfl, by decide +kernel, by decide +kernel⟩
def d_run_frame : DefD := ⟨("run_frame", none), "run_frame", "run_frame", defArgs st_run_frame, defBody st_run_frame, defScope st_run_frame, [], []⟩
abbrev st_run_noting : Stmt := (top 48)
def N_run_noting : List Str := ["module", "inputs", "fuel", "limit", "run", "ending", "e"]
theorem sc_run_noting : FnScope ["module", "inputs", "fuel", "limit", "run", "ending", "e"] ["module", "inputs", "fuel", "limit"] (defScope st_run_noting) := ⟨rfl, rfl, rfl, by decide +kernel, rfl, by decide +kernel, by decide +kernel⟩
def d_run_noting : DefD := ⟨("run_noting", none), "run_noting", "run_noting", defArgs st_run_noting, defBody st_run_noting, defScope st_run_noting, [], []⟩
abbrev st_run_module : Stmt := (top 49)
def N_run_module : List Str := ["module", "inputs", "fuel", "events", "ending", "_"]
theorem sc_run_module : FnScope ["module", "inputs", "fuel", "events", "ending", "_"] ["module", "inputs", "fuel"] (defScope st_run_module) := ⟨rfl, rfl, rfl, by decide +kernel, rfl, by decide +kernel, by decide +kernel⟩
def d_run_module : DefD := ⟨("run_module", none), "run_module", "run_module", defArgs st_run_module, defBody st_run_module, defScope st_run_module, [], []⟩
abbrev st_trace_module : Stmt := (top 52)
def N_trace_module : List Str := ["module", "inputs", "fuel", "limit"]
theorem sc_trace_module : FnScope ["module", "inputs", "fuel", "limit"] ["module", "inputs", "fuel", "limit"] (defScope st_trace_module) := ⟨rfl, rfl, rfl, by decide +kernel, rfl, by decide +kernel, by decide +kernel⟩
def d_trace_module : DefD := ⟨("trace_module", none), "trace_module", "trace_module", defArgs st_trace_module, defBody st_trace_module, defScope st_trace_module, [], []⟩
abbrev st_law_start : Stmt := (top 54)
def N_law_start : List Str := ["_law_script", "_law_great", "_law_seed", "_law_cell", "_law_state"]
theorem sc_law_start : FnScope ["_law_script", "_law_great", "_law_seed", "_law_cell", "_law_state"] ["_law_script"] (defScope st_law_start) := ⟨rfl, rfl, rfl, by decide +kernel, rfl, by decide +kernel, by decide +kernel⟩
def d_law_start : DefD := ⟨("_law_start", none), "_law_start", "_law_start", defArgs st_law_start, defBody st_law_start, defScope st_law_start, [], []⟩
abbrev st_law_take : Stmt := (top 55)
def N_law_take : List Str := ["_law_state", "_law_many", "_law_digit", "_law_mixed"]
theorem sc_law_take : FnScope ["_law_state", "_law_many", "_law_digit", "_law_mixed"] ["_law_state", "_law_many"] (defScope st_law_take) := ⟨rfl, rfl, rfl, by decide +kernel, rfl, by decide +kernel, by decide +kernel⟩
def d_law_take : DefD := ⟨("_law_take", none), "_law_take", "_law_take", defArgs st_law_take, defBody st_law_take, defScope st_law_take, [], []⟩
abbrev st_law_place : Stmt := (top 56)
def N_law_place : List Str := ["_law_state"]
theorem sc_law_place : FnScope ["_law_state"] ["_law_state"] (defScope st_law_place) := ⟨rfl, rfl, rfl, by decide +kernel, rfl, by decide +kernel, by decide +kernel⟩
def d_law_place : DefD := ⟨("_law_place", none), "_law_place", "_law_place", defArgs st_law_place, defBody st_law_place, defScope st_law_place, [], []⟩
abbrev st_law_operand : Stmt := (top 57)
def N_law_operand : List Str := ["_law_state", "_law_shape"]
theorem sc_law_operand : FnScope ["_law_state", "_law_shape"] ["_law_state", "_law_shape"] (defScope st_law_operand) := ⟨rfl, rfl, rfl, by decide +kernel, rfl, by decide +kernel, by decide +kernel⟩
def d_law_operand : DefD := ⟨("_law_operand", none), "_law_operand", "_law_operand", defArgs st_law_operand, defBody st_law_operand, defScope st_law_operand, [], []⟩
abbrev st_law_target : Stmt := (top 58)
def N_law_target : List Str := ["_law_state", "_law_index", "_law_ticks", "_law_target_here"]
theorem sc_law_target : FnScope ["_law_state", "_law_index", "_law_ticks", "_law_target_here"] ["_law_state", "_law_index", "_law_ticks"] (defScope st_law_target) := ⟨rfl, rfl, rfl, by decide +kernel, rfl, by decide +kernel, by decide +kernel⟩
def d_law_target : DefD := ⟨("_law_target", none), "_law_target", "_law_target", defArgs st_law_target, defBody st_law_target, defScope st_law_target, [], []⟩
abbrev st_law_around : Stmt := (top 59)
def N_law_around : List Str := ["_law_shapes_here", "_law_number", "_law_hops", "_law_k"]
theorem sc_law_around : FnScope ["_law_shapes_here", "_law_number", "_law_hops", "_law_k"] ["_law_shapes_here", "_law_number", "_law_hops"] (defScope st_law_around) := ⟨rfl, rfl, rfl, by decide +kernel, rfl, by decide +kernel, by decide +kernel⟩
def d_law_around : DefD := ⟨("_law_around", none), "_law_around", "_law_around", defArgs st_law_around, defBody st_law_around, defScope st_law_around, [], []⟩
abbrev st_law_memory : Stmt := (top 60)
def N_law_memory : List Str := ["_law_state", "_law_shapes_here", "_law_number", "_law_shape", "_law_hops", "_law_cells_here", "_law_cell", "_law_count", "_law_element"]
theorem sc_law_memory : FnScope ["_law_state", "_law_shapes_here", "_law_number", "_law_shape", "_law_hops", "_law_cells_here", "_law_cell", "_law_count", "_law_element"] ["_law_state", "_law_shapes_here", "_law_number"] (defScope st_law_memory) := ⟨rfl, rfl, rfl, by decide +kernel, rfl, by decide +kernel, by decide +kernel⟩
def d_law_memory : DefD := ⟨("_law_memory", none), "_law_memory", "_law_memory", defArgs st_law_memory, defBody st_law_memory, defScope st_law_memory, [], []⟩
abbrev st_law_call : Stmt := (top 61)
def N_law_call : List Str := ["_law_state", "_law_shapes_here", "_law_number", "_law_shape", "_law_hops", "_law_parent", "_law_called", "_law_k", "_law_other", "_law_given", "_law_first", "_law_results"]
theorem sc_law_call : FnScope ["_law_state", "_law_shapes_here", "_law_number", "_law_shape", "_law_hops", "_law_parent", "_law_called", "_law_k", "_law_other", "_law_given", "_law_first", "_law_results"] ["_law_state", "_law_shapes_here", "_law_number"] (defScope st_law_call) := ⟨rfl, rfl, rfl, by decide +kernel, rfl, by decide +kernel, by decide +kernel⟩
def d_law_call : DefD := ⟨("_law_call", none), "_law_call", "_law_call", defArgs st_law_call, defBody st_law_call, defScope st_law_call, [], []⟩
abbrev st_law_instruction : Stmt := (top 62)
def N_law_instruction : List Str := ["_law_state", "_law_shapes_here", "_law_number", "_law_index", "_law_ticks", "_law_regions_here", "_law_shape", "_law_kind", "_law_d", "_law_p", "_law_x", "_law_op", "_law_low", "_law_region_here", "_law_k"]
theorem sc_law_instruction : FnScope ["_law_state", "_law_shapes_here", "_law_number", "_law_index", "_law_ticks", "_law_regions_here", "_law_shape", "_law_kind", "_law_d", "_law_p", "_law_x", "_law_op", "_law_low", "_law_region_here", "_law_k"] ["_law_state", "_law_shapes_here", "_law_number", "_law_index", "_law_ticks", "_law_regions_here"] (defScope st_law_instruction) := ⟨rfl, rfl, rfl, by decide +kernel, rfl, by decide +kernel, by decide +kernel⟩
def d_law_instruction : DefD := ⟨("_law_instruction", none), "_law_instruction", "_law_instruction", defArgs st_law_instruction, defBody st_law_instruction, defScope st_law_instruction, [], []⟩
abbrev st_law_regions : Stmt := (top 63)
def N_law_regions : List Str := ["_law_state", "_law_shape", "_law_size", "_law_regions_here", "_law_k", "_law_start_here", "_law_stop", "_law_entry", "_law_first", "_law_second"]
theorem sc_law_regions : FnScope ["_law_state", "_law_shape", "_law_size", "_law_regions_here", "_law_k", "_law_start_here", "_law_stop", "_law_entry", "_law_first", "_law_second"] ["_law_state", "_law_shape", "_law_size"] (defScope st_law_regions) := ⟨rfl, rfl, rfl, by decide +kernel, rfl, by decide +kernel, by decide +kernel⟩
def d_law_regions : DefD := ⟨("_law_regions", none), "_law_regions", "_law_regions", defArgs st_law_regions, defBody st_law_regions, defScope st_law_regions, [], []⟩
abbrev st_law_unit : Stmt := (top 64)
def N_law_unit : List Str := ["_law_state", "_law_shapes_here", "_law_number", "_law_shape", "_law_wide", "_law_size", "_law_ticks", "_law_index", "_law_regions_here", "_law_code", "_law_k"]
theorem sc_law_unit : FnScope ["_law_state", "_law_shapes_here", "_law_number", "_law_shape", "_law_wide", "_law_size", "_law_ticks", "_law_index", "_law_regions_here", "_law_code", "_law_k"] ["_law_state", "_law_shapes_here", "_law_number"] (defScope st_law_unit) := ⟨rfl, rfl, rfl, by decide +kernel, rfl, by decide +kernel, by decide +kernel⟩
def d_law_unit : DefD := ⟨("_law_unit", none), "_law_unit", "_law_unit", defArgs st_law_unit, defBody st_law_unit, defScope st_law_unit, [], []⟩
abbrev st_law_shapes : Stmt := (top 65)
def N_law_shapes : List Str := ["_law_state", "_law_shapes_here", "_law_more", "_law_number", "_law_parent", "_law_level", "_law_arguments", "_law_results", "_law_registers"]
theorem sc_law_shapes : FnScope ["_law_state", "_law_shapes_here", "_law_more", "_law_number", "_law_parent", "_law_level", "_law_arguments", "_law_results", "_law_registers"] ["_law_state"] (defScope st_law_shapes) := ⟨rfl, rfl, rfl, by decide +kernel, rfl, by decide +kernel, by decide +kernel⟩
def d_law_shapes : DefD := ⟨("_law_shapes", none), "_law_shapes", "_law_shapes", defArgs st_law_shapes, defBody st_law_shapes, defScope st_law_shapes, [], []⟩
abbrev st_law_module : Stmt := (top 66)
def N_law_module : List Str := ["_law_state", "_law_shapes_here", "_law_units", "_law_number", "_law_names", "_law_places", "_law_k"]
theorem sc_law_module : FnScope ["_law_state", "_law_shapes_here", "_law_units", "_law_number", "_law_names", "_law_places", "_law_k"] ["_law_state"] (defScope st_law_module) := ⟨rfl, rfl, rfl, by decide +kernel, rfl, by decide +kernel, by decide +kernel⟩
def d_law_module : DefD := ⟨("_law_module", none), "_law_module", "_law_module", defArgs st_law_module, defBody st_law_module, defScope st_law_module, [], []⟩
abbrev st_law_exact : Stmt := (top 67)
def N_law_exact : List Str := ["_law_name", "_law_left", "_law_right", "_law_size", "_law_rest"]
theorem sc_law_exact : FnScope ["_law_name", "_law_left", "_law_right", "_law_size", "_law_rest"] ["_law_name", "_law_left", "_law_right"] (defScope st_law_exact) := ⟨rfl, rfl, rfl, by decide +kernel, rfl, by decide +kernel, by decide +kernel⟩
def d_law_exact : DefD := ⟨("_law_exact", none), "_law_exact", "_law_exact", defArgs st_law_exact, defBody st_law_exact, defScope st_law_exact, [], []⟩
abbrev st_law_value : Stmt := (top 68)
def N_law_value : List Str := ["_law_frame", "_law_operand_here"]
theorem sc_law_value : FnScope ["_law_frame", "_law_operand_here"] ["_law_frame", "_law_operand_here"] (defScope st_law_value) := ⟨rfl, rfl, rfl, by decide +kernel, rfl, by decide +kernel, by decide +kernel⟩
def d_law_value : DefD := ⟨("_law_value", none), "_law_value", "_law_value", defArgs st_law_value, defBody st_law_value, defScope st_law_value, [], []⟩
abbrev st_law_outer : Stmt := (top 69)
def N_law_outer : List Str := ["_law_frame", "_law_hops", "_law_k"]
theorem sc_law_outer : FnScope ["_law_frame", "_law_hops", "_law_k"] ["_law_frame", "_law_hops"] (defScope st_law_outer) := ⟨rfl, rfl, rfl, by decide +kernel, rfl, by decide +kernel, by decide +kernel⟩
def d_law_outer : DefD := ⟨("_law_outer", none), "_law_outer", "_law_outer", defArgs st_law_outer, defBody st_law_outer, defScope st_law_outer, [], []⟩
abbrev st_law_compute : Stmt := (top 70)
def N_law_compute : List Str := ["_law_run_here", "_law_frame", "_law_instruction_here", "_law_name", "_law_left", "_law_word", "_law_right", "_law_row"]
theorem sc_law_compute : FnScope ["_law_run_here", "_law_frame", "_law_instruction_here", "_law_name", "_law_left", "_law_word", "_law_right", "_law_row"] ["_law_run_here", "_law_frame", "_law_instruction_here"] (defScope st_law_compute) := ⟨rfl, rfl, rfl, by decide +kernel, rfl, by decide +kernel, by decide +kernel⟩
def d_law_compute : DefD := ⟨("_law_compute", none), "_law_compute", "_law_compute", defArgs st_law_compute, defBody st_law_compute, defScope st_law_compute, [], []⟩
abbrev st_law_cells : Stmt := (top 71)
def N_law_cells : List Str := ["_law_run_here", "_law_frame", "_law_instruction_here", "_law_element", "_law_row"]
theorem sc_law_cells : FnScope ["_law_run_here", "_law_frame", "_law_instruction_here", "_law_element", "_law_row"] ["_law_run_here", "_law_frame", "_law_instruction_here"] (defScope st_law_cells) := ⟨rfl, rfl, rfl, by decide +kernel, rfl, by decide +kernel, by decide +kernel⟩
def d_law_cells : DefD := ⟨("_law_cells", none), "_law_cells", "_law_cells", defArgs st_law_cells, defBody st_law_cells, defScope st_law_cells, [], []⟩
abbrev st_law_again : Stmt := (top 72)
def N_law_again : List Str := ["_law_run_here", "_law_frame", "_law_instruction_here", "_law_number", "_law_place_here", "_law_module_here"]
theorem sc_law_again : FnScope ["_law_run_here", "_law_frame", "_law_instruction_here", "_law_number", "_law_place_here", "_law_module_here"] ["_law_run_here", "_law_frame", "_law_instruction_here"] (defScope st_law_again) := ⟨rfl, rfl, rfl, by decide +kernel, rfl, by decide +kernel, by decide +kernel⟩
def d_law_again : DefD := ⟨("_law_again", none), "_law_again", "_law_again", defArgs st_law_again, defBody st_law_again, defScope st_law_again, [], []⟩
abbrev st_law_step : Stmt := (top 73)
def N_law_step : List Str := ["_law_run_here", "_law_frame", "_law_instruction_here", "_law_name", "_law_row", "_law_word"]
theorem sc_law_step : FnScope ["_law_run_here", "_law_frame", "_law_instruction_here", "_law_name", "_law_row", "_law_word"] ["_law_run_here", "_law_frame", "_law_instruction_here"] (defScope st_law_step) := ⟨rfl, rfl, rfl, by decide +kernel, rfl, by decide +kernel, by decide +kernel⟩
def d_law_step : DefD := ⟨("_law_step", none), "_law_step", "_law_step", defArgs st_law_step, defBody st_law_step, defScope st_law_step, [], []⟩
abbrev st_law_enter : Stmt := (top 74)
def N_law_enter : List Str := ["_law_run_here", "_law_frame", "_law_instruction_here", "_law_unit_here", "_law_given", "_law_operand_here", "_law_callee", "_law_values", "_law_raised", "_law_row", "_law_k"]
theorem sc_law_enter : FnScope ["_law_run_here", "_law_frame", "_law_instruction_here", "_law_unit_here", "_law_given", "_law_operand_here", "_law_callee", "_law_values", "_law_raised", "_law_row", "_law_k"] ["_law_run_here", "_law_frame", "_law_instruction_here"] (defScope st_law_enter) := ⟨rfl, rfl, rfl, by decide +kernel, rfl, by decide +kernel, by decide +kernel⟩
def d_law_enter : DefD := ⟨("_law_enter", none), "_law_enter", "_law_enter", defArgs st_law_enter, defBody st_law_enter, defScope st_law_enter, [], []⟩
abbrev st_law_region : Stmt := (top 75)
def N_law_region : List Str := ["_law_unit_here", "_law_index", "_law_region_here"]
theorem sc_law_region : FnScope ["_law_unit_here", "_law_index", "_law_region_here"] ["_law_unit_here", "_law_index"] (defScope st_law_region) := ⟨rfl, rfl, rfl, by decide +kernel, rfl, by decide +kernel, by decide +kernel⟩
def d_law_region : DefD := ⟨("_law_region", none), "_law_region", "_law_region", defArgs st_law_region, defBody st_law_region, defScope st_law_region, [], []⟩
abbrev st_law_run : Stmt := (top 76)
def N_law_run : List Str := ["_law_run_here", "_law_frame", "_law_unit_here", "_law_row", "_law_index", "_law_step_here", "_law_instruction_here", "_law_operand_here", "_law_raised", "_law_following", "_law_region_here"]
theorem sc_law_run : FnScope ["_law_run_here", "_law_frame", "_law_unit_here", "_law_row", "_law_index", "_law_step_here", "_law_instruction_here", "_law_operand_here", "_law_raised", "_law_following", "_law_region_here"] ["_law_run_here", "_law_frame"] (defScope st_law_run) := ⟨rfl, rfl, rfl, by decide +kernel, rfl, by decide +kernel, by decide +kernel⟩
def d_law_run : DefD := ⟨("_law_run", none), "_law_run", "_law_run", defArgs st_law_run, defBody st_law_run, defScope st_law_run, [], []⟩
abbrev st_law_begin : Stmt := (top 77)
def N_law_begin : List Str := ["_law_module_here", "_law_inputs", "_law_units", "_law_limit", "_law_run_here", "_law_unit_here", "_law_place_here"]
theorem sc_law_begin : FnScope ["_law_module_here", "_law_inputs", "_law_units", "_law_limit", "_law_run_here", "_law_unit_here", "_law_place_here"] ["_law_module_here", "_law_inputs", "_law_units", "_law_limit"] (defScope st_law_begin) := ⟨rfl, rfl, rfl, by decide +kernel, rfl, by decide +kernel, by decide +kernel⟩
def d_law_begin : DefD := ⟨("_law_begin", none), "_law_begin", "_law_begin", defArgs st_law_begin, defBody st_law_begin, defScope st_law_begin, [], []⟩
abbrev st_law_alike : Stmt := (top 78)
def N_law_alike : List Str := ["_law_answer", "_law_due", "_law_k"]
theorem sc_law_alike : FnScope ["_law_answer", "_law_due", "_law_k"] ["_law_answer", "_law_due"] (defScope st_law_alike) := ⟨rfl, rfl, rfl, by decide +kernel, rfl, by decide +kernel, by decide +kernel⟩
def d_law_alike : DefD := ⟨("_law_alike", none), "_law_alike", "_law_alike", defArgs st_law_alike, defBody st_law_alike, defScope st_law_alike, [], []⟩
abbrev st_law : Stmt := (top 79)
def N_law : List Str := ["_law_script", "_law_state", "_law_module_here", "_law_inputs", "_law_k", "_law_units", "_law_limit", "_law_run_here", "_law_due", "_law_passed", "_law_noted"]
theorem sc_law : FnScope ["_law_script", "_law_state", "_law_module_here", "_law_inputs", "_law_k", "_law_units", "_law_limit", "_law_run_here", "_law_due", "_law_passed", "_law_noted"] ["_law_script"] (defScope st_law) := ⟨rfl, rfl, rfl, by decide +kernel, rfl, by decide +kernel, by decide +kernel⟩
def d_law : DefD := ⟨("law", none), "law", "law", defArgs st_law, defBody st_law, defScope st_law, [], []⟩
def fn0 : List DefD := [d_Unit_init, d_Module_init, d_region_of, d_Events_init, d_Events_put, d_Events_get, d_Fuel_init, d_Fuel_tick, d_raised, d_fits, d_checked, d_quotient, d_divide, d_arithmetic, d_negate, d_absolute, d_CodeRaised_init, d_Frame_init, d_Frame_value, d_Frame_outer, d_CodeRun_init, d_CodeRun_note, d_compute, d_element_index, d_run_load, d_run_store, d_run_check, d_run_again, d_run_get, d_run_call]
def fn1 : List DefD := [d_step, d_run_frame, d_run_noting, d_run_module, d_trace_module, d_law_start, d_law_take, d_law_place, d_law_operand, d_law_target, d_law_around, d_law_memory, d_law_call, d_law_instruction, d_law_regions, d_law_unit, d_law_shapes, d_law_module, d_law_exact, d_law_value, d_law_outer, d_law_compute, d_law_cells, d_law_again, d_law_step, d_law_enter, d_law_region, d_law_run, d_law_begin, d_law_alike, d_law]
def fn : List DefD := fn0 ++ fn1
def keysA : List Str := ["add", "sub", "mul", "div", "mod", "rem"]
def keysB : List Str := ["check", "load", "store", "call", "again", "get"]
def ts : List Tab := [(fun K => ga K "ARITHMETIC", keysA), (fun K => ga K "ACTIONS", keysB)]
def valsA : List (Str × Dv) := [("add", .str "+"), ("sub", .str "-"), ("mul", .str "*"), ("div", .str "/"), ("mod", .str "mod"), ("rem", .str "rem")]
def valsC : List (Str × Dv) := [("check", .glo "run_check"), ("load", .glo "run_load"), ("store", .glo "run_store"), ("call", .glo "run_call"), ("again", .glo "run_again"), ("get", .glo "run_get")]
/-- what holds of the top's heap: K is a part of it -/
structure Txt (w : World) (K : PySem.W.Frag) (mg : Str → Option Value) : Prop where
  c : SaysT fa fn ts w K
  g : ∀ x, x ∈ gls → mg x = some (.ref (ga K x))
  fr : ∀ x, x ∈ frs0 → mg x = none
  i : ∀ x j, (Fa.int x j).ok K = true → ∃ t, mg x = some (.int j t)
  tn : tupB K "NORMAL" [.str "normal"] = true
  te : tupB K "EXHAUSTED" [.str "exhausted"] = true
  tf : tupB K "FAULT" [.str "fault"] = true
  va : valsB K (ga K "ARITHMETIC") valsA = true
  vb : valsB K (ga K "ACTIONS") valsC = true
  vn : ∀ z, z ∈ (["move", "neg", "abs", "less", "equal", "add", "sub", "mul", "div", "mod", "rem"] : List Str) → PySem.W.nsIn K (ga K "ACTIONS") z = some none
  ox : OexC K (ga K "CodeRaised")
  oi : PySem.W.findIn K (.ref (ga K "CodeRaised")) "__init__" = some (some (.ref (ma K (ga K "CodeRaised") "__init__")))
  ot : PySem.W.typeIn K (.ref (ma K (ga K "CodeRaised") "__init__")) = some (.type "function")
  on : PySem.W.findIn K (.ref (ga K "CodeRaised")) "number" = some none ∧ PySem.W.findIn K (.ref (ga K "CodeRaised")) "place" = some none
  xf : XfC K (ga K "CodeRaised")
  em : ∀ x y b, (x, y, b) ∈ ([("CodeRaised", "CodeRaised", true), ("OutOfFuel", "CodeRaised", false), ("CodeFault", "CodeRaised", false), ("OutOfFuel", "OutOfFuel", true), ("CodeFault", "OutOfFuel", false), ("CodeRaised", "OutOfFuel", false), ("CodeFault", "CodeFault", true), ("CodeRaised", "CodeFault", false), ("NoInput", "NoInput", true)] : List (Str × Str × Bool)) → PySem.W.exmOne K (.ref (ga K x)) (.ref (ga K y)) = some b
  ea : ∀ x, x ∈ (["Overflow", "DivisionByZero"] : List Str) → PySem.W.exmAny K (.ref (ga K x)) [.ref (ga K "Overflow"), .ref (ga K "DivisionByZero")] = some true
  pr : ∃ p gf fd, PropOf K (ga K "Events") "rows" p gf ∧ FunD K "rows" "Events.rows" (defArgs st_Events_rows) (defBody st_Events_rows) (defScope st_Events_rows) [] [] gf fd
section
variable {P : Program} {w : World} {K : PySem.W.Frag} {mg : Str → Option Value} {base : Heap}
theorem Txt.f (T : Txt w K mg) {f : Fa} (j : Nat) (h : fa[j]? = some f := by rfl) : f.ok K = true := T.c.d.fact j h
/-! ### a def with its promise -/
structure Def (P : Program) (w : World) (K : PySem.W.Frag) (mg : Str → Option Value) (base : Heap) (CX : CXT) (k : Nat) (x : Str) (ps : List Str) (sp : Sp) : Prop where
  ex : ∃ f fd, mg x = some (.ref f) ∧ PySem.W.keepIn K (.ref f) = true ∧ Binds K fd ps [] ∧ FnOk P w K mg base CX k f fd ps sp
structure MDef (P : Program) (w : World) (K : PySem.W.Frag) (mg : Str → Option Value) (base : Heap) (CX : CXT) (k : Nat) (C m : Str) (ps : List Str) (sp : Sp) : Prop where
  ex : ∃ fd, PySem.W.keepIn K (.ref (ma K (ga K C) m)) = true ∧ Binds K fd ps [] ∧ FnOk P w K mg base CX k (ma K (ga K C) m) fd ps sp
theorem Def.imp {CX : CXT} {k : Nat} {x : Str} {ps : List Str} {sp sp' : Sp} (D : Def P w K mg base CX k x ps sp) (h : ∀ vs H Q E, sp' vs H Q E → sp vs H Q E) : Def P w K mg base CX k x ps sp' := by
  obtain ⟨f, fd, h1, h2, h3, F⟩ := D.ex
  exact ⟨f, fd, h1, h2, h3, F.imp h⟩
section
variable {X : Cx} {CX : CXT} {j k : Nat} {x C m : Str} {ps : List Str} {sp : Sp} {E : XK} {p pos apos : Pos} {e o : Expr} {es : List Expr} {t : TA} {ta : TE}
theorem pe_callD (D : Def X.prog X.w X.K X.mg X.base CX j x ps sp) (hr : Room k X.A) (hk : j ≤ k) (hg : Gl X x) (hx : Passes CX X E) (ha : PA X (e :: es) t) (hdb : (x == ("__debug__" : Str)) = false := by decide)
    (he : starEach (e :: es) X.env = (false, eval e X.env) :: starEach es X.env := by rfl) (hpl : (backTo pos (starEach es X.env)).any (·.1) = false := by rfl) : PE X (.Call (.Name x p) (e :: es) [] pos) (tCall sp [] E t) := by
  obtain ⟨f, fd, h1, h2, h3, F⟩ := D.ex
  exact pe_call F (hr.mono hk) hg h1 h2 h3 .nil hx ha hdb he hpl
/-- within a try's body: what the callee lets out depends on the slots -/
theorem pe_callDS {E : St → XK} (D : Def X.prog X.w X.K X.mg X.base CX j x ps sp) (hr : Room k X.A) (hk : j ≤ k) (hg : Gl X x) (hx : ∀ σ, PassesAt CX X σ (E σ)) (ha : PA X (e :: es) t) (hdb : (x == ("__debug__" : Str)) = false := by decide)
    (he : starEach (e :: es) X.env = (false, eval e X.env) :: starEach es X.env := by rfl) (hpl : (backTo pos (starEach es X.env)).any (·.1) = false := by rfl) : PE X (.Call (.Name x p) (e :: es) [] pos) (tCallS sp E t) := by
  obtain ⟨f, fd, h1, h2, h3, F⟩ := D.ex
  exact pe_callS F (hr.mono hk) hg h1 h2 h3 hx ha hdb he hpl
theorem pe_methD {pl : Sem Bool} (D : MDef X.prog X.w X.K X.mg X.base CX j C m ps sp) (he : PE X o ta) (c : Cls X.K (ga X.K C)) (hm : Meth X.K (ga X.K C) m (ma X.K (ga X.K C) m)) (hr : Room k X.A) (hk : j ≤ k) (hx : Passes CX X E) (ha : PA X (e :: es) t)
    (hst : starEach (e :: es) X.env = (false, eval e X.env) :: starEach es X.env := by rfl) (hpl : (backTo pos (starEach es X.env)).any (·.1) = false := by rfl)
    (ht : eval (.Call (.Attribute o m apos) (e :: es) [] pos) X.env = (do
      let ov ← eval o X.env
      standAt apos.atName
      let (f, first) ← holding [ov] (getMethod ov m pl)
      callWith pos f first (backTo pos (starEach (e :: es) X.env)) (backToKw pos (keywordEach [] X.env))) := by rfl) : PE X (.Call (.Attribute o m apos) (e :: es) [] pos) (tMeth (ga X.K C) m sp [] E ta t) := by
  obtain ⟨fd, _, h3, F⟩ := D.ex
  exact pe_meth he c hm F (hr.mono hk) h3 .nil hx ha hst hpl ht
theorem pe_methD0 {pl : Sem Bool} (D : MDef X.prog X.w X.K X.mg X.base CX j C m ps sp) (he : PE X o ta) (c : Cls X.K (ga X.K C)) (hm : Meth X.K (ga X.K C) m (ma X.K (ga X.K C) m)) (hr : Room k X.A) (hk : j ≤ k) (hx : Passes CX X E)
    (ht : eval (.Call (.Attribute o m apos) [] [] pos) X.env = (do
      let ov ← eval o X.env
      standAt apos.atName
      let (f, first) ← holding [ov] (getMethod ov m pl)
      callWith pos f first (backTo pos (starEach [] X.env)) (backToKw pos (keywordEach [] X.env))) := by rfl) : PE X (.Call (.Attribute o m apos) [] [] pos) (tMeth (ga X.K C) m sp [] E ta tNil) := by
  obtain ⟨fd, _, h3, F⟩ := D.ex
  exact pe_meth0 he c hm F (hr.mono hk) h3 .nil hx ht
theorem pe_makeD (D : MDef X.prog X.w X.K X.mg X.base CX j C "__init__" ps sp) (M : Mk X.K (ga X.K C) (ma X.K (ga X.K C) "__init__")) (hm : X.mg C = some (.ref (ga X.K C))) (hr : Room k X.A) (hk : j + 1 ≤ k) (hg : Gl X C) (hx : Passes CX X E) (ha : PA X (e :: es) t) (hdb : (C == ("__debug__" : Str)) = false := by decide)
    (he : starEach (e :: es) X.env = (false, eval e X.env) :: starEach es X.env := by rfl) (hpl : (backTo pos (starEach es X.env)).any (·.1) = false := by rfl) : PE X (.Call (.Name C p) (e :: es) [] pos) (tMake (ga X.K C) sp [] E t) := by
  obtain ⟨fd, _, h3, F⟩ := D.ex
  exact pe_make M F (hr.mono hk) hg hm h3 .nil hx ha hdb he hpl
theorem pe_gi {i : Int} (hm : ∃ t, X.mg x = some (.int i t)) (hg : Gl X x) (hd : (x == ("__debug__" : Str)) = false := by decide) : PE X (.Name x p) (tC (.int i)) := by
  obtain ⟨t, h⟩ := hm
  exact pe_glob hg h ⟨t, rfl⟩ hd
end

theorem F_Unit_init (T : Txt w K mg) : ∃ fd, FunD K "__init__" "Unit.__init__" (defArgs st_Unit_init) (defBody st_Unit_init) (defScope st_Unit_init) [] [] (ma K (ga K "Unit") "__init__") fd := T.c.d.def_ 0 (d := d_Unit_init) rfl
theorem D_Unit_init (T : Txt w K mg) {CX : CXT} {k : Nat} {sp : Sp} (len : ∀ vs H Q E, sp vs H Q E → vs.length = 8) (hbody : ∀ (cdv : Value) (A : Around) (outer : List Env) (s : Shared) (H : Hp) (vs : List V) (Q : VK) (E : XK), Room k (A.deeper (envOfC "Unit.__init__" (defScope st_Unit_init) s.heap.objs.size (ma K (ga K "Unit") "__init__") cdv)) → sp vs H Q E →
      ∃ t, PSs (cxOf CX P w K mg base ["self", "parent", "arguments", "results", "registers", "cells", "code", "regions"] "Unit.__init__" (defScope st_Unit_init) (ma K (ga K "Unit") "__init__") cdv A outer s H E) (defBody st_Unit_init) t ∧ t { nx := fun _ H' => Q .non H', rt := Q } (start ["self", "parent", "arguments", "results", "registers", "cells", "code", "regions"] vs) H) : MDef P w K mg base CX (k + 1) "Unit" "__init__" ["self", "parent", "arguments", "results", "registers", "cells", "code", "regions"] sp := by
  obtain ⟨fd, F⟩ := F_Unit_init T
  exact ⟨fd, F.kp, F.bindsN fun _ _ _ _ _ _ us hl => match us, hl with | [_, _, _, _, _, _, _, _], _ => rfl, F.ok sc_Unit_init len hbody⟩
theorem F_Module_init (T : Txt w K mg) : ∃ fd, FunD K "__init__" "Module.__init__" (defArgs st_Module_init) (defBody st_Module_init) (defScope st_Module_init) [] [] (ma K (ga K "Module") "__init__") fd := T.c.d.def_ 1 (d := d_Module_init) rfl
theorem D_Module_init (T : Txt w K mg) {CX : CXT} {k : Nat} {sp : Sp} (len : ∀ vs H Q E, sp vs H Q E → vs.length = 4) (hbody : ∀ (cdv : Value) (A : Around) (outer : List Env) (s : Shared) (H : Hp) (vs : List V) (Q : VK) (E : XK), Room k (A.deeper (envOfC "Module.__init__" (defScope st_Module_init) s.heap.objs.size (ma K (ga K "Module") "__init__") cdv)) → sp vs H Q E →
      ∃ t, PSs (cxOf CX P w K mg base ["self", "units", "names", "places"] "Module.__init__" (defScope st_Module_init) (ma K (ga K "Module") "__init__") cdv A outer s H E) (defBody st_Module_init) t ∧ t { nx := fun _ H' => Q .non H', rt := Q } (start ["self", "units", "names", "places"] vs) H) : MDef P w K mg base CX (k + 1) "Module" "__init__" ["self", "units", "names", "places"] sp := by
  obtain ⟨fd, F⟩ := F_Module_init T
  exact ⟨fd, F.kp, F.bindsN fun _ _ _ _ _ _ us hl => match us, hl with | [_, _, _, _], _ => rfl, F.ok sc_Module_init len hbody⟩
theorem F_region_of (T : Txt w K mg) : ∃ fd, FunD K "region_of" "region_of" (defArgs st_region_of) (defBody st_region_of) (defScope st_region_of) [] [] (ga K "region_of") fd := T.c.d.def_ 2 (d := d_region_of) rfl
theorem D_region_of (T : Txt w K mg) {CX : CXT} {k : Nat} {sp : Sp} (len : ∀ vs H Q E, sp vs H Q E → vs.length = 2) (hbody : ∀ (cdv : Value) (A : Around) (outer : List Env) (s : Shared) (H : Hp) (vs : List V) (Q : VK) (E : XK), Room k (A.deeper (envOfC "region_of" (defScope st_region_of) s.heap.objs.size (ga K "region_of") cdv)) → sp vs H Q E →
      ∃ t, PSs (cxOf CX P w K mg base ["unit", "index", "region"] "region_of" (defScope st_region_of) (ga K "region_of") cdv A outer s H E) (defBody st_region_of) t ∧ t { nx := fun _ H' => Q .non H', rt := Q } (start ["unit", "index", "region"] vs) H) : Def P w K mg base CX (k + 1) "region_of" ["unit", "index"] sp := by
  obtain ⟨fd, F⟩ := F_region_of T
  exact ⟨_, fd, T.g "region_of" (by decide +kernel), F.kp, F.bindsN fun _ _ _ _ _ _ us hl => match us, hl with | [_, _], _ => rfl, F.ok sc_region_of len hbody⟩
theorem F_Events_init (T : Txt w K mg) : ∃ fd, FunD K "__init__" "Events.__init__" (defArgs st_Events_init) (defBody st_Events_init) (defScope st_Events_init) [] [] (ma K (ga K "Events") "__init__") fd := T.c.d.def_ 3 (d := d_Events_init) rfl
theorem D_Events_init (T : Txt w K mg) {CX : CXT} {k : Nat} {sp : Sp} (len : ∀ vs H Q E, sp vs H Q E → vs.length = 2) (hbody : ∀ (cdv : Value) (A : Around) (outer : List Env) (s : Shared) (H : Hp) (vs : List V) (Q : VK) (E : XK), Room k (A.deeper (envOfC "Events.__init__" (defScope st_Events_init) s.heap.objs.size (ma K (ga K "Events") "__init__") cdv)) → sp vs H Q E →
      ∃ t, PSs (cxOf CX P w K mg base ["self", "inputs"] "Events.__init__" (defScope st_Events_init) (ma K (ga K "Events") "__init__") cdv A outer s H E) (defBody st_Events_init) t ∧ t { nx := fun _ H' => Q .non H', rt := Q } (start ["self", "inputs"] vs) H) : MDef P w K mg base CX (k + 1) "Events" "__init__" ["self", "inputs"] sp := by
  obtain ⟨fd, F⟩ := F_Events_init T
  exact ⟨fd, F.kp, F.bindsN fun _ _ _ _ _ _ us hl => match us, hl with | [_, _], _ => rfl, F.ok sc_Events_init len hbody⟩
theorem F_Events_put (T : Txt w K mg) : ∃ fd, FunD K "put" "Events.put" (defArgs st_Events_put) (defBody st_Events_put) (defScope st_Events_put) [] [] (ma K (ga K "Events") "put") fd := T.c.d.def_ 4 (d := d_Events_put) rfl
theorem D_Events_put (T : Txt w K mg) {CX : CXT} {k : Nat} {sp : Sp} (len : ∀ vs H Q E, sp vs H Q E → vs.length = 2) (hbody : ∀ (cdv : Value) (A : Around) (outer : List Env) (s : Shared) (H : Hp) (vs : List V) (Q : VK) (E : XK), Room k (A.deeper (envOfC "Events.put" (defScope st_Events_put) s.heap.objs.size (ma K (ga K "Events") "put") cdv)) → sp vs H Q E →
      ∃ t, PSs (cxOf CX P w K mg base ["self", "word"] "Events.put" (defScope st_Events_put) (ma K (ga K "Events") "put") cdv A outer s H E) (defBody st_Events_put) t ∧ t { nx := fun _ H' => Q .non H', rt := Q } (start ["self", "word"] vs) H) : MDef P w K mg base CX (k + 1) "Events" "put" ["self", "word"] sp := by
  obtain ⟨fd, F⟩ := F_Events_put T
  exact ⟨fd, F.kp, F.bindsN fun _ _ _ _ _ _ us hl => match us, hl with | [_, _], _ => rfl, F.ok sc_Events_put len hbody⟩
theorem F_Events_get (T : Txt w K mg) : ∃ fd, FunD K "get" "Events.get" (defArgs st_Events_get) (defBody st_Events_get) (defScope st_Events_get) [] [] (ma K (ga K "Events") "get") fd := T.c.d.def_ 5 (d := d_Events_get) rfl
theorem D_Events_get (T : Txt w K mg) {CX : CXT} {k : Nat} {sp : Sp} (len : ∀ vs H Q E, sp vs H Q E → vs.length = 1) (hbody : ∀ (cdv : Value) (A : Around) (outer : List Env) (s : Shared) (H : Hp) (vs : List V) (Q : VK) (E : XK), Room k (A.deeper (envOfC "Events.get" (defScope st_Events_get) s.heap.objs.size (ma K (ga K "Events") "get") cdv)) → sp vs H Q E →
      ∃ t, PSs (cxOf CX P w K mg base ["self", "word"] "Events.get" (defScope st_Events_get) (ma K (ga K "Events") "get") cdv A outer s H E) (defBody st_Events_get) t ∧ t { nx := fun _ H' => Q .non H', rt := Q } (start ["self", "word"] vs) H) : MDef P w K mg base CX (k + 1) "Events" "get" ["self"] sp := by
  obtain ⟨fd, F⟩ := F_Events_get T
  exact ⟨fd, F.kp, F.bindsN fun _ _ _ _ _ _ us hl => match us, hl with | [_], _ => rfl, F.ok sc_Events_get len hbody⟩
theorem F_Fuel_init (T : Txt w K mg) : ∃ fd, FunD K "__init__" "Fuel.__init__" (defArgs st_Fuel_init) (defBody st_Fuel_init) (defScope st_Fuel_init) [] [] (ma K (ga K "Fuel") "__init__") fd := T.c.d.def_ 6 (d := d_Fuel_init) rfl
theorem D_Fuel_init (T : Txt w K mg) {CX : CXT} {k : Nat} {sp : Sp} (len : ∀ vs H Q E, sp vs H Q E → vs.length = 2) (hbody : ∀ (cdv : Value) (A : Around) (outer : List Env) (s : Shared) (H : Hp) (vs : List V) (Q : VK) (E : XK), Room k (A.deeper (envOfC "Fuel.__init__" (defScope st_Fuel_init) s.heap.objs.size (ma K (ga K "Fuel") "__init__") cdv)) → sp vs H Q E →
      ∃ t, PSs (cxOf CX P w K mg base ["self", "units"] "Fuel.__init__" (defScope st_Fuel_init) (ma K (ga K "Fuel") "__init__") cdv A outer s H E) (defBody st_Fuel_init) t ∧ t { nx := fun _ H' => Q .non H', rt := Q } (start ["self", "units"] vs) H) : MDef P w K mg base CX (k + 1) "Fuel" "__init__" ["self", "units"] sp := by
  obtain ⟨fd, F⟩ := F_Fuel_init T
  exact ⟨fd, F.kp, F.bindsN fun _ _ _ _ _ _ us hl => match us, hl with | [_, _], _ => rfl, F.ok sc_Fuel_init len hbody⟩
theorem F_Fuel_tick (T : Txt w K mg) : ∃ fd, FunD K "tick" "Fuel.tick" (defArgs st_Fuel_tick) (defBody st_Fuel_tick) (defScope st_Fuel_tick) [] [] (ma K (ga K "Fuel") "tick") fd := T.c.d.def_ 7 (d := d_Fuel_tick) rfl
theorem D_Fuel_tick (T : Txt w K mg) {CX : CXT} {k : Nat} {sp : Sp} (len : ∀ vs H Q E, sp vs H Q E → vs.length = 1) (hbody : ∀ (cdv : Value) (A : Around) (outer : List Env) (s : Shared) (H : Hp) (vs : List V) (Q : VK) (E : XK), Room k (A.deeper (envOfC "Fuel.tick" (defScope st_Fuel_tick) s.heap.objs.size (ma K (ga K "Fuel") "tick") cdv)) → sp vs H Q E →
      ∃ t, PSs (cxOf CX P w K mg base ["self"] "Fuel.tick" (defScope st_Fuel_tick) (ma K (ga K "Fuel") "tick") cdv A outer s H E) (defBody st_Fuel_tick) t ∧ t { nx := fun _ H' => Q .non H', rt := Q } (start ["self"] vs) H) : MDef P w K mg base CX (k + 1) "Fuel" "tick" ["self"] sp := by
  obtain ⟨fd, F⟩ := F_Fuel_tick T
  exact ⟨fd, F.kp, F.bindsN fun _ _ _ _ _ _ us hl => match us, hl with | [_], _ => rfl, F.ok sc_Fuel_tick len hbody⟩
theorem F_raised (T : Txt w K mg) : ∃ fd, FunD K "raised" "raised" (defArgs st_raised) (defBody st_raised) (defScope st_raised) [] [] (ga K "raised") fd := T.c.d.def_ 8 (d := d_raised) rfl
theorem D_raised (T : Txt w K mg) {CX : CXT} {k : Nat} {sp : Sp} (len : ∀ vs H Q E, sp vs H Q E → vs.length = 2) (hbody : ∀ (cdv : Value) (A : Around) (outer : List Env) (s : Shared) (H : Hp) (vs : List V) (Q : VK) (E : XK), Room k (A.deeper (envOfC "raised" (defScope st_raised) s.heap.objs.size (ga K "raised") cdv)) → sp vs H Q E →
      ∃ t, PSs (cxOf CX P w K mg base ["name", "place"] "raised" (defScope st_raised) (ga K "raised") cdv A outer s H E) (defBody st_raised) t ∧ t { nx := fun _ H' => Q .non H', rt := Q } (start ["name", "place"] vs) H) : Def P w K mg base CX (k + 1) "raised" ["name", "place"] sp := by
  obtain ⟨fd, F⟩ := F_raised T
  exact ⟨_, fd, T.g "raised" (by decide +kernel), F.kp, F.bindsN fun _ _ _ _ _ _ us hl => match us, hl with | [_, _], _ => rfl, F.ok sc_raised len hbody⟩
theorem F_fits (T : Txt w K mg) : ∃ fd, FunD K "fits" "fits" (defArgs st_fits) (defBody st_fits) (defScope st_fits) [] [] (ga K "fits") fd := T.c.d.def_ 9 (d := d_fits) rfl
theorem D_fits (T : Txt w K mg) {CX : CXT} {k : Nat} {sp : Sp} (len : ∀ vs H Q E, sp vs H Q E → vs.length = 1) (hbody : ∀ (cdv : Value) (A : Around) (outer : List Env) (s : Shared) (H : Hp) (vs : List V) (Q : VK) (E : XK), Room k (A.deeper (envOfC "fits" (defScope st_fits) s.heap.objs.size (ga K "fits") cdv)) → sp vs H Q E →
      ∃ t, PSs (cxOf CX P w K mg base ["number"] "fits" (defScope st_fits) (ga K "fits") cdv A outer s H E) (defBody st_fits) t ∧ t { nx := fun _ H' => Q .non H', rt := Q } (start ["number"] vs) H) : Def P w K mg base CX (k + 1) "fits" ["number"] sp := by
  obtain ⟨fd, F⟩ := F_fits T
  exact ⟨_, fd, T.g "fits" (by decide +kernel), F.kp, F.bindsN fun _ _ _ _ _ _ us hl => match us, hl with | [_], _ => rfl, F.ok sc_fits len hbody⟩
theorem F_checked (T : Txt w K mg) : ∃ fd, FunD K "checked" "checked" (defArgs st_checked) (defBody st_checked) (defScope st_checked) [] [] (ga K "checked") fd := T.c.d.def_ 10 (d := d_checked) rfl
theorem D_checked (T : Txt w K mg) {CX : CXT} {k : Nat} {sp : Sp} (len : ∀ vs H Q E, sp vs H Q E → vs.length = 1) (hbody : ∀ (cdv : Value) (A : Around) (outer : List Env) (s : Shared) (H : Hp) (vs : List V) (Q : VK) (E : XK), Room k (A.deeper (envOfC "checked" (defScope st_checked) s.heap.objs.size (ga K "checked") cdv)) → sp vs H Q E →
      ∃ t, PSs (cxOf CX P w K mg base ["number"] "checked" (defScope st_checked) (ga K "checked") cdv A outer s H E) (defBody st_checked) t ∧ t { nx := fun _ H' => Q .non H', rt := Q } (start ["number"] vs) H) : Def P w K mg base CX (k + 1) "checked" ["number"] sp := by
  obtain ⟨fd, F⟩ := F_checked T
  exact ⟨_, fd, T.g "checked" (by decide +kernel), F.kp, F.bindsN fun _ _ _ _ _ _ us hl => match us, hl with | [_], _ => rfl, F.ok sc_checked len hbody⟩
theorem F_quotient (T : Txt w K mg) : ∃ fd, FunD K "quotient" "quotient" (defArgs st_quotient) (defBody st_quotient) (defScope st_quotient) [] [] (ga K "quotient") fd := T.c.d.def_ 11 (d := d_quotient) rfl
theorem D_quotient (T : Txt w K mg) {CX : CXT} {k : Nat} {sp : Sp} (len : ∀ vs H Q E, sp vs H Q E → vs.length = 2) (hbody : ∀ (cdv : Value) (A : Around) (outer : List Env) (s : Shared) (H : Hp) (vs : List V) (Q : VK) (E : XK), Room k (A.deeper (envOfC "quotient" (defScope st_quotient) s.heap.objs.size (ga K "quotient") cdv)) → sp vs H Q E →
      ∃ t, PSs (cxOf CX P w K mg base ["left", "right", "size"] "quotient" (defScope st_quotient) (ga K "quotient") cdv A outer s H E) (defBody st_quotient) t ∧ t { nx := fun _ H' => Q .non H', rt := Q } (start ["left", "right", "size"] vs) H) : Def P w K mg base CX (k + 1) "quotient" ["left", "right"] sp := by
  obtain ⟨fd, F⟩ := F_quotient T
  exact ⟨_, fd, T.g "quotient" (by decide +kernel), F.kp, F.bindsN fun _ _ _ _ _ _ us hl => match us, hl with | [_, _], _ => rfl, F.ok sc_quotient len hbody⟩
theorem F_divide (T : Txt w K mg) : ∃ fd, FunD K "divide" "divide" (defArgs st_divide) (defBody st_divide) (defScope st_divide) [] [] (ga K "divide") fd := T.c.d.def_ 12 (d := d_divide) rfl
theorem D_divide (T : Txt w K mg) {CX : CXT} {k : Nat} {sp : Sp} (len : ∀ vs H Q E, sp vs H Q E → vs.length = 3) (hbody : ∀ (cdv : Value) (A : Around) (outer : List Env) (s : Shared) (H : Hp) (vs : List V) (Q : VK) (E : XK), Room k (A.deeper (envOfC "divide" (defScope st_divide) s.heap.objs.size (ga K "divide") cdv)) → sp vs H Q E →
      ∃ t, PSs (cxOf CX P w K mg base ["op", "left", "right"] "divide" (defScope st_divide) (ga K "divide") cdv A outer s H E) (defBody st_divide) t ∧ t { nx := fun _ H' => Q .non H', rt := Q } (start ["op", "left", "right"] vs) H) : Def P w K mg base CX (k + 1) "divide" ["op", "left", "right"] sp := by
  obtain ⟨fd, F⟩ := F_divide T
  exact ⟨_, fd, T.g "divide" (by decide +kernel), F.kp, F.bindsN fun _ _ _ _ _ _ us hl => match us, hl with | [_, _, _], _ => rfl, F.ok sc_divide len hbody⟩
theorem F_arithmetic (T : Txt w K mg) : ∃ fd, FunD K "arithmetic" "arithmetic" (defArgs st_arithmetic) (defBody st_arithmetic) (defScope st_arithmetic) [] [] (ga K "arithmetic") fd := T.c.d.def_ 13 (d := d_arithmetic) rfl
theorem D_arithmetic (T : Txt w K mg) {CX : CXT} {k : Nat} {sp : Sp} (len : ∀ vs H Q E, sp vs H Q E → vs.length = 3) (hbody : ∀ (cdv : Value) (A : Around) (outer : List Env) (s : Shared) (H : Hp) (vs : List V) (Q : VK) (E : XK), Room k (A.deeper (envOfC "arithmetic" (defScope st_arithmetic) s.heap.objs.size (ga K "arithmetic") cdv)) → sp vs H Q E →
      ∃ t, PSs (cxOf CX P w K mg base ["op", "left", "right"] "arithmetic" (defScope st_arithmetic) (ga K "arithmetic") cdv A outer s H E) (defBody st_arithmetic) t ∧ t { nx := fun _ H' => Q .non H', rt := Q } (start ["op", "left", "right"] vs) H) : Def P w K mg base CX (k + 1) "arithmetic" ["op", "left", "right"] sp := by
  obtain ⟨fd, F⟩ := F_arithmetic T
  exact ⟨_, fd, T.g "arithmetic" (by decide +kernel), F.kp, F.bindsN fun _ _ _ _ _ _ us hl => match us, hl with | [_, _, _], _ => rfl, F.ok sc_arithmetic len hbody⟩
theorem F_negate (T : Txt w K mg) : ∃ fd, FunD K "negate" "negate" (defArgs st_negate) (defBody st_negate) (defScope st_negate) [] [] (ga K "negate") fd := T.c.d.def_ 14 (d := d_negate) rfl
theorem D_negate (T : Txt w K mg) {CX : CXT} {k : Nat} {sp : Sp} (len : ∀ vs H Q E, sp vs H Q E → vs.length = 1) (hbody : ∀ (cdv : Value) (A : Around) (outer : List Env) (s : Shared) (H : Hp) (vs : List V) (Q : VK) (E : XK), Room k (A.deeper (envOfC "negate" (defScope st_negate) s.heap.objs.size (ga K "negate") cdv)) → sp vs H Q E →
      ∃ t, PSs (cxOf CX P w K mg base ["word"] "negate" (defScope st_negate) (ga K "negate") cdv A outer s H E) (defBody st_negate) t ∧ t { nx := fun _ H' => Q .non H', rt := Q } (start ["word"] vs) H) : Def P w K mg base CX (k + 1) "negate" ["word"] sp := by
  obtain ⟨fd, F⟩ := F_negate T
  exact ⟨_, fd, T.g "negate" (by decide +kernel), F.kp, F.bindsN fun _ _ _ _ _ _ us hl => match us, hl with | [_], _ => rfl, F.ok sc_negate len hbody⟩
theorem F_absolute (T : Txt w K mg) : ∃ fd, FunD K "absolute" "absolute" (defArgs st_absolute) (defBody st_absolute) (defScope st_absolute) [] [] (ga K "absolute") fd := T.c.d.def_ 15 (d := d_absolute) rfl
theorem D_absolute (T : Txt w K mg) {CX : CXT} {k : Nat} {sp : Sp} (len : ∀ vs H Q E, sp vs H Q E → vs.length = 1) (hbody : ∀ (cdv : Value) (A : Around) (outer : List Env) (s : Shared) (H : Hp) (vs : List V) (Q : VK) (E : XK), Room k (A.deeper (envOfC "absolute" (defScope st_absolute) s.heap.objs.size (ga K "absolute") cdv)) → sp vs H Q E →
      ∃ t, PSs (cxOf CX P w K mg base ["word"] "absolute" (defScope st_absolute) (ga K "absolute") cdv A outer s H E) (defBody st_absolute) t ∧ t { nx := fun _ H' => Q .non H', rt := Q } (start ["word"] vs) H) : Def P w K mg base CX (k + 1) "absolute" ["word"] sp := by
  obtain ⟨fd, F⟩ := F_absolute T
  exact ⟨_, fd, T.g "absolute" (by decide +kernel), F.kp, F.bindsN fun _ _ _ _ _ _ us hl => match us, hl with | [_], _ => rfl, F.ok sc_absolute len hbody⟩
theorem F_CodeRaised_init (T : Txt w K mg) : ∃ fd, FunD K "__init__" "CodeRaised.__init__" (defArgs st_CodeRaised_init) (defBody st_CodeRaised_init) (defScope st_CodeRaised_init) [] [] (ma K (ga K "CodeRaised") "__init__") fd := T.c.d.def_ 16 (d := d_CodeRaised_init) rfl
theorem D_CodeRaised_init (T : Txt w K mg) {CX : CXT} {k : Nat} {sp : Sp} (len : ∀ vs H Q E, sp vs H Q E → vs.length = 3) (hbody : ∀ (cdv : Value) (A : Around) (outer : List Env) (s : Shared) (H : Hp) (vs : List V) (Q : VK) (E : XK), Room k (A.deeper (envOfC "CodeRaised.__init__" (defScope st_CodeRaised_init) s.heap.objs.size (ma K (ga K "CodeRaised") "__init__") cdv)) → sp vs H Q E →
      ∃ t, PSs (cxOf CX P w K mg base ["self", "number", "place"] "CodeRaised.__init__" (defScope st_CodeRaised_init) (ma K (ga K "CodeRaised") "__init__") cdv A outer s H E) (defBody st_CodeRaised_init) t ∧ t { nx := fun _ H' => Q .non H', rt := Q } (start ["self", "number", "place"] vs) H) : MDef P w K mg base CX (k + 1) "CodeRaised" "__init__" ["self", "number", "place"] sp := by
  obtain ⟨fd, F⟩ := F_CodeRaised_init T
  exact ⟨fd, F.kp, F.bindsN fun _ _ _ _ _ _ us hl => match us, hl with | [_, _, _], _ => rfl, F.ok sc_CodeRaised_init len hbody⟩
theorem F_Frame_init (T : Txt w K mg) : ∃ fd, FunD K "__init__" "Frame.__init__" (defArgs st_Frame_init) (defBody st_Frame_init) (defScope st_Frame_init) [] [] (ma K (ga K "Frame") "__init__") fd := T.c.d.def_ 17 (d := d_Frame_init) rfl
theorem D_Frame_init (T : Txt w K mg) {CX : CXT} {k : Nat} {sp : Sp} (len : ∀ vs H Q E, sp vs H Q E → vs.length = 5) (hbody : ∀ (cdv : Value) (A : Around) (outer : List Env) (s : Shared) (H : Hp) (vs : List V) (Q : VK) (E : XK), Room k (A.deeper (envOfC "Frame.__init__" (defScope st_Frame_init) s.heap.objs.size (ma K (ga K "Frame") "__init__") cdv)) → sp vs H Q E →
      ∃ t, PSs (cxOf CX P w K mg base ["self", "number", "unit", "parent", "depth"] "Frame.__init__" (defScope st_Frame_init) (ma K (ga K "Frame") "__init__") cdv A outer s H E) (defBody st_Frame_init) t ∧ t { nx := fun _ H' => Q .non H', rt := Q } (start ["self", "number", "unit", "parent", "depth"] vs) H) : MDef P w K mg base CX (k + 1) "Frame" "__init__" ["self", "number", "unit", "parent", "depth"] sp := by
  obtain ⟨fd, F⟩ := F_Frame_init T
  exact ⟨fd, F.kp, F.bindsN fun _ _ _ _ _ _ us hl => match us, hl with | [_, _, _, _, _], _ => rfl, F.ok sc_Frame_init len hbody⟩
theorem F_Frame_value (T : Txt w K mg) : ∃ fd, FunD K "value" "Frame.value" (defArgs st_Frame_value) (defBody st_Frame_value) (defScope st_Frame_value) [] [] (ma K (ga K "Frame") "value") fd := T.c.d.def_ 18 (d := d_Frame_value) rfl
theorem D_Frame_value (T : Txt w K mg) {CX : CXT} {k : Nat} {sp : Sp} (len : ∀ vs H Q E, sp vs H Q E → vs.length = 2) (hbody : ∀ (cdv : Value) (A : Around) (outer : List Env) (s : Shared) (H : Hp) (vs : List V) (Q : VK) (E : XK), Room k (A.deeper (envOfC "Frame.value" (defScope st_Frame_value) s.heap.objs.size (ma K (ga K "Frame") "value") cdv)) → sp vs H Q E →
      ∃ t, PSs (cxOf CX P w K mg base ["self", "operand"] "Frame.value" (defScope st_Frame_value) (ma K (ga K "Frame") "value") cdv A outer s H E) (defBody st_Frame_value) t ∧ t { nx := fun _ H' => Q .non H', rt := Q } (start ["self", "operand"] vs) H) : MDef P w K mg base CX (k + 1) "Frame" "value" ["self", "operand"] sp := by
  obtain ⟨fd, F⟩ := F_Frame_value T
  exact ⟨fd, F.kp, F.bindsN fun _ _ _ _ _ _ us hl => match us, hl with | [_, _], _ => rfl, F.ok sc_Frame_value len hbody⟩
theorem F_Frame_outer (T : Txt w K mg) : ∃ fd, FunD K "outer" "Frame.outer" (defArgs st_Frame_outer) (defBody st_Frame_outer) (defScope st_Frame_outer) [] [] (ma K (ga K "Frame") "outer") fd := T.c.d.def_ 19 (d := d_Frame_outer) rfl
theorem D_Frame_outer (T : Txt w K mg) {CX : CXT} {k : Nat} {sp : Sp} (len : ∀ vs H Q E, sp vs H Q E → vs.length = 2) (hbody : ∀ (cdv : Value) (A : Around) (outer : List Env) (s : Shared) (H : Hp) (vs : List V) (Q : VK) (E : XK), Room k (A.deeper (envOfC "Frame.outer" (defScope st_Frame_outer) s.heap.objs.size (ma K (ga K "Frame") "outer") cdv)) → sp vs H Q E →
      ∃ t, PSs (cxOf CX P w K mg base ["self", "hops", "frame", "_"] "Frame.outer" (defScope st_Frame_outer) (ma K (ga K "Frame") "outer") cdv A outer s H E) (defBody st_Frame_outer) t ∧ t { nx := fun _ H' => Q .non H', rt := Q } (start ["self", "hops", "frame", "_"] vs) H) : MDef P w K mg base CX (k + 1) "Frame" "outer" ["self", "hops"] sp := by
  obtain ⟨fd, F⟩ := F_Frame_outer T
  exact ⟨fd, F.kp, F.bindsN fun _ _ _ _ _ _ us hl => match us, hl with | [_, _], _ => rfl, F.ok sc_Frame_outer len hbody⟩
theorem F_CodeRun_init (T : Txt w K mg) : ∃ fd, FunD K "__init__" "CodeRun.__init__" (defArgs st_CodeRun_init) (defBody st_CodeRun_init) (defScope st_CodeRun_init) [] [] (ma K (ga K "CodeRun") "__init__") fd := T.c.d.def_ 20 (d := d_CodeRun_init) rfl
theorem D_CodeRun_init (T : Txt w K mg) {CX : CXT} {k : Nat} {sp : Sp} (len : ∀ vs H Q E, sp vs H Q E → vs.length = 5) (hbody : ∀ (cdv : Value) (A : Around) (outer : List Env) (s : Shared) (H : Hp) (vs : List V) (Q : VK) (E : XK), Room k (A.deeper (envOfC "CodeRun.__init__" (defScope st_CodeRun_init) s.heap.objs.size (ma K (ga K "CodeRun") "__init__") cdv)) → sp vs H Q E →
      ∃ t, PSs (cxOf CX P w K mg base ["self", "module", "inputs", "fuel", "limit"] "CodeRun.__init__" (defScope st_CodeRun_init) (ma K (ga K "CodeRun") "__init__") cdv A outer s H E) (defBody st_CodeRun_init) t ∧ t { nx := fun _ H' => Q .non H', rt := Q } (start ["self", "module", "inputs", "fuel", "limit"] vs) H) : MDef P w K mg base CX (k + 1) "CodeRun" "__init__" ["self", "module", "inputs", "fuel", "limit"] sp := by
  obtain ⟨fd, F⟩ := F_CodeRun_init T
  exact ⟨fd, F.kp, F.bindsN fun _ _ _ _ _ _ us hl => match us, hl with | [_, _, _, _, _], _ => rfl, F.ok sc_CodeRun_init len hbody⟩
theorem F_CodeRun_note (T : Txt w K mg) : ∃ fd, FunD K "note" "CodeRun.note" (defArgs st_CodeRun_note) (defBody st_CodeRun_note) (defScope st_CodeRun_note) [] [] (ma K (ga K "CodeRun") "note") fd := T.c.d.def_ 21 (d := d_CodeRun_note) rfl
theorem D_CodeRun_note (T : Txt w K mg) {CX : CXT} {k : Nat} {sp : Sp} (len : ∀ vs H Q E, sp vs H Q E → vs.length = 3) (hbody : ∀ (cdv : Value) (A : Around) (outer : List Env) (s : Shared) (H : Hp) (vs : List V) (Q : VK) (E : XK), Room k (A.deeper (envOfC "CodeRun.note" (defScope st_CodeRun_note) s.heap.objs.size (ma K (ga K "CodeRun") "note") cdv)) → sp vs H Q E →
      ∃ t, PSs (cxOf CX P w K mg base ["self", "frame", "index"] "CodeRun.note" (defScope st_CodeRun_note) (ma K (ga K "CodeRun") "note") cdv A outer s H E) (defBody st_CodeRun_note) t ∧ t { nx := fun _ H' => Q .non H', rt := Q } (start ["self", "frame", "index"] vs) H) : MDef P w K mg base CX (k + 1) "CodeRun" "note" ["self", "frame", "index"] sp := by
  obtain ⟨fd, F⟩ := F_CodeRun_note T
  exact ⟨fd, F.kp, F.bindsN fun _ _ _ _ _ _ us hl => match us, hl with | [_, _, _], _ => rfl, F.ok sc_CodeRun_note len hbody⟩
theorem F_compute (T : Txt w K mg) : ∃ fd, FunD K "compute" "compute" (defArgs st_compute) (defBody st_compute) (defScope st_compute) [] [] (ga K "compute") fd := T.c.d.def_ 22 (d := d_compute) rfl
theorem D_compute (T : Txt w K mg) {CX : CXT} {k : Nat} {sp : Sp} (len : ∀ vs H Q E, sp vs H Q E → vs.length = 2) (hbody : ∀ (cdv : Value) (A : Around) (outer : List Env) (s : Shared) (H : Hp) (vs : List V) (Q : VK) (E : XK), Room k (A.deeper (envOfC "compute" (defScope st_compute) s.heap.objs.size (ga K "compute") cdv)) → sp vs H Q E →
      ∃ t, PSs (cxOf CX P w K mg base ["frame", "instruction", "name", "first", "result"] "compute" (defScope st_compute) (ga K "compute") cdv A outer s H E) (defBody st_compute) t ∧ t { nx := fun _ H' => Q .non H', rt := Q } (start ["frame", "instruction", "name", "first", "result"] vs) H) : Def P w K mg base CX (k + 1) "compute" ["frame", "instruction"] sp := by
  obtain ⟨fd, F⟩ := F_compute T
  exact ⟨_, fd, T.g "compute" (by decide +kernel), F.kp, F.bindsN fun _ _ _ _ _ _ us hl => match us, hl with | [_, _], _ => rfl, F.ok sc_compute len hbody⟩
theorem F_element_index (T : Txt w K mg) : ∃ fd, FunD K "element_index" "element_index" (defArgs st_element_index) (defBody st_element_index) (defScope st_element_index) [] [] (ga K "element_index") fd := T.c.d.def_ 23 (d := d_element_index) rfl
theorem D_element_index (T : Txt w K mg) {CX : CXT} {k : Nat} {sp : Sp} (len : ∀ vs H Q E, sp vs H Q E → vs.length = 4) (hbody : ∀ (cdv : Value) (A : Around) (outer : List Env) (s : Shared) (H : Hp) (vs : List V) (Q : VK) (E : XK), Room k (A.deeper (envOfC "element_index" (defScope st_element_index) s.heap.objs.size (ga K "element_index") cdv)) → sp vs H Q E →
      ∃ t, PSs (cxOf CX P w K mg base ["frame", "operand", "cell", "count", "chosen"] "element_index" (defScope st_element_index) (ga K "element_index") cdv A outer s H E) (defBody st_element_index) t ∧ t { nx := fun _ H' => Q .non H', rt := Q } (start ["frame", "operand", "cell", "count", "chosen"] vs) H) : Def P w K mg base CX (k + 1) "element_index" ["frame", "operand", "cell", "count"] sp := by
  obtain ⟨fd, F⟩ := F_element_index T
  exact ⟨_, fd, T.g "element_index" (by decide +kernel), F.kp, F.bindsN fun _ _ _ _ _ _ us hl => match us, hl with | [_, _, _, _], _ => rfl, F.ok sc_element_index len hbody⟩
theorem F_run_load (T : Txt w K mg) : ∃ fd, FunD K "run_load" "run_load" (defArgs st_run_load) (defBody st_run_load) (defScope st_run_load) [] [] (ga K "run_load") fd := T.c.d.def_ 24 (d := d_run_load) rfl
theorem D_run_load (T : Txt w K mg) {CX : CXT} {k : Nat} {sp : Sp} (len : ∀ vs H Q E, sp vs H Q E → vs.length = 3) (hbody : ∀ (cdv : Value) (A : Around) (outer : List Env) (s : Shared) (H : Hp) (vs : List V) (Q : VK) (E : XK), Room k (A.deeper (envOfC "run_load" (defScope st_run_load) s.heap.objs.size (ga K "run_load") cdv)) → sp vs H Q E →
      ∃ t, PSs (cxOf CX P w K mg base ["run", "frame", "instruction", "cell"] "run_load" (defScope st_run_load) (ga K "run_load") cdv A outer s H E) (defBody st_run_load) t ∧ t { nx := fun _ H' => Q .non H', rt := Q } (start ["run", "frame", "instruction", "cell"] vs) H) : Def P w K mg base CX (k + 1) "run_load" ["run", "frame", "instruction"] sp := by
  obtain ⟨fd, F⟩ := F_run_load T
  exact ⟨_, fd, T.g "run_load" (by decide +kernel), F.kp, F.bindsN fun _ _ _ _ _ _ us hl => match us, hl with | [_, _, _], _ => rfl, F.ok sc_run_load len hbody⟩
theorem F_run_store (T : Txt w K mg) : ∃ fd, FunD K "run_store" "run_store" (defArgs st_run_store) (defBody st_run_store) (defScope st_run_store) [] [] (ga K "run_store") fd := T.c.d.def_ 25 (d := d_run_store) rfl
theorem D_run_store (T : Txt w K mg) {CX : CXT} {k : Nat} {sp : Sp} (len : ∀ vs H Q E, sp vs H Q E → vs.length = 3) (hbody : ∀ (cdv : Value) (A : Around) (outer : List Env) (s : Shared) (H : Hp) (vs : List V) (Q : VK) (E : XK), Room k (A.deeper (envOfC "run_store" (defScope st_run_store) s.heap.objs.size (ga K "run_store") cdv)) → sp vs H Q E →
      ∃ t, PSs (cxOf CX P w K mg base ["run", "frame", "instruction", "cell"] "run_store" (defScope st_run_store) (ga K "run_store") cdv A outer s H E) (defBody st_run_store) t ∧ t { nx := fun _ H' => Q .non H', rt := Q } (start ["run", "frame", "instruction", "cell"] vs) H) : Def P w K mg base CX (k + 1) "run_store" ["run", "frame", "instruction"] sp := by
  obtain ⟨fd, F⟩ := F_run_store T
  exact ⟨_, fd, T.g "run_store" (by decide +kernel), F.kp, F.bindsN fun _ _ _ _ _ _ us hl => match us, hl with | [_, _, _], _ => rfl, F.ok sc_run_store len hbody⟩
theorem F_run_check (T : Txt w K mg) : ∃ fd, FunD K "run_check" "run_check" (defArgs st_run_check) (defBody st_run_check) (defScope st_run_check) [] [] (ga K "run_check") fd := T.c.d.def_ 26 (d := d_run_check) rfl
theorem D_run_check (T : Txt w K mg) {CX : CXT} {k : Nat} {sp : Sp} (len : ∀ vs H Q E, sp vs H Q E → vs.length = 3) (hbody : ∀ (cdv : Value) (A : Around) (outer : List Env) (s : Shared) (H : Hp) (vs : List V) (Q : VK) (E : XK), Room k (A.deeper (envOfC "run_check" (defScope st_run_check) s.heap.objs.size (ga K "run_check") cdv)) → sp vs H Q E →
      ∃ t, PSs (cxOf CX P w K mg base ["run", "frame", "instruction"] "run_check" (defScope st_run_check) (ga K "run_check") cdv A outer s H E) (defBody st_run_check) t ∧ t { nx := fun _ H' => Q .non H', rt := Q } (start ["run", "frame", "instruction"] vs) H) : Def P w K mg base CX (k + 1) "run_check" ["run", "frame", "instruction"] sp := by
  obtain ⟨fd, F⟩ := F_run_check T
  exact ⟨_, fd, T.g "run_check" (by decide +kernel), F.kp, F.bindsN fun _ _ _ _ _ _ us hl => match us, hl with | [_, _, _], _ => rfl, F.ok sc_run_check len hbody⟩
theorem F_run_again (T : Txt w K mg) : ∃ fd, FunD K "run_again" "run_again" (defArgs st_run_again) (defBody st_run_again) (defScope st_run_again) [] [] (ga K "run_again") fd := T.c.d.def_ 27 (d := d_run_again) rfl
theorem D_run_again (T : Txt w K mg) {CX : CXT} {k : Nat} {sp : Sp} (len : ∀ vs H Q E, sp vs H Q E → vs.length = 3) (hbody : ∀ (cdv : Value) (A : Around) (outer : List Env) (s : Shared) (H : Hp) (vs : List V) (Q : VK) (E : XK), Room k (A.deeper (envOfC "run_again" (defScope st_run_again) s.heap.objs.size (ga K "run_again") cdv)) → sp vs H Q E →
      ∃ t, PSs (cxOf CX P w K mg base ["run", "frame", "instruction", "number", "place"] "run_again" (defScope st_run_again) (ga K "run_again") cdv A outer s H E) (defBody st_run_again) t ∧ t { nx := fun _ H' => Q .non H', rt := Q } (start ["run", "frame", "instruction", "number", "place"] vs) H) : Def P w K mg base CX (k + 1) "run_again" ["run", "frame", "instruction"] sp := by
  obtain ⟨fd, F⟩ := F_run_again T
  exact ⟨_, fd, T.g "run_again" (by decide +kernel), F.kp, F.bindsN fun _ _ _ _ _ _ us hl => match us, hl with | [_, _, _], _ => rfl, F.ok sc_run_again len hbody⟩
theorem F_run_get (T : Txt w K mg) : ∃ fd, FunD K "run_get" "run_get" (defArgs st_run_get) (defBody st_run_get) (defScope st_run_get) [] [] (ga K "run_get") fd := T.c.d.def_ 28 (d := d_run_get) rfl
theorem D_run_get (T : Txt w K mg) {CX : CXT} {k : Nat} {sp : Sp} (len : ∀ vs H Q E, sp vs H Q E → vs.length = 3) (hbody : ∀ (cdv : Value) (A : Around) (outer : List Env) (s : Shared) (H : Hp) (vs : List V) (Q : VK) (E : XK), Room k (A.deeper (envOfC "run_get" (defScope st_run_get) s.heap.objs.size (ga K "run_get") cdv)) → sp vs H Q E →
      ∃ t, PSs (cxOf CX P w K mg base ["run", "frame", "instruction"] "run_get" (defScope st_run_get) (ga K "run_get") cdv A outer s H E) (defBody st_run_get) t ∧ t { nx := fun _ H' => Q .non H', rt := Q } (start ["run", "frame", "instruction"] vs) H) : Def P w K mg base CX (k + 1) "run_get" ["run", "frame", "instruction"] sp := by
  obtain ⟨fd, F⟩ := F_run_get T
  exact ⟨_, fd, T.g "run_get" (by decide +kernel), F.kp, F.bindsN fun _ _ _ _ _ _ us hl => match us, hl with | [_, _, _], _ => rfl, F.ok sc_run_get len hbody⟩
theorem F_run_call (T : Txt w K mg) : ∃ fd, FunD K "run_call" "run_call" (defArgs st_run_call) (defBody st_run_call) (defScope st_run_call) [] [] (ga K "run_call") fd := T.c.d.def_ 29 (d := d_run_call) rfl
theorem D_run_call (T : Txt w K mg) {CX : CXT} {k : Nat} {sp : Sp} (len : ∀ vs H Q E, sp vs H Q E → vs.length = 3) (hbody : ∀ (cdv : Value) (A : Around) (outer : List Env) (s : Shared) (H : Hp) (vs : List V) (Q : VK) (E : XK), Room k (A.deeper (envOfC "run_call" (defScope st_run_call) s.heap.objs.size (ga K "run_call") cdv)) → sp vs H Q E →
      ∃ t, PSs (cxOf CX P w K mg base ["run", "frame", "instruction", "values", "operand", "number", "callee", "at", "word", "results", "register_number"] "run_call" (defScope st_run_call) (ga K "run_call") cdv A outer s H E) (defBody st_run_call) t ∧ t { nx := fun _ H' => Q .non H', rt := Q } (start ["run", "frame", "instruction", "values", "operand", "number", "callee", "at", "word", "results", "register_number"] vs) H) : Def P w K mg base CX (k + 1) "run_call" ["run", "frame", "instruction"] sp := by
  obtain ⟨fd, F⟩ := F_run_call T
  exact ⟨_, fd, T.g "run_call" (by decide +kernel), F.kp, F.bindsN fun _ _ _ _ _ _ us hl => match us, hl with | [_, _, _], _ => rfl, F.ok sc_run_call len hbody⟩
theorem F_step (T : Txt w K mg) : ∃ fd, FunD K "step" "step" (defArgs st_step) (defBody st_step) (defScope st_step) [] [] (ga K "step") fd := T.c.d.def_ 30 (d := d_step) rfl
theorem D_step (T : Txt w K mg) {CX : CXT} {k : Nat} {sp : Sp} (len : ∀ vs H Q E, sp vs H Q E → vs.length = 4) (hbody : ∀ (cdv : Value) (A : Around) (outer : List Env) (s : Shared) (H : Hp) (vs : List V) (Q : VK) (E : XK), Room k (A.deeper (envOfC "step" (defScope st_step) s.heap.objs.size (ga K "step") cdv)) → sp vs H Q E →
      ∃ t, PSs (cxOf CX P w K mg base ["run", "frame", "instruction", "index", "name", "action"] "step" (defScope st_step) (ga K "step") cdv A outer s H E) (defBody st_step) t ∧ t { nx := fun _ H' => Q .non H', rt := Q } (start ["run", "frame", "instruction", "index", "name", "action"] vs) H) : Def P w K mg base CX (k + 1) "step" ["run", "frame", "instruction", "index"] sp := by
  obtain ⟨fd, F⟩ := F_step T
  exact ⟨_, fd, T.g "step" (by decide +kernel), F.kp, F.bindsN fun _ _ _ _ _ _ us hl => match us, hl with | [_, _, _, _], _ => rfl, F.ok sc_step len hbody⟩
theorem F_run_frame (T : Txt w K mg) : ∃ fd, FunD K "run_frame" "run_frame" (defArgs st_run_frame) (defBody st_run_frame) (defScope st_run_frame) [] [] (ga K "run_frame") fd := T.c.d.def_ 31 (d := d_run_frame) rfl
theorem D_run_frame (T : Txt w K mg) {CX : CXT} {k : Nat} {sp : Sp} (len : ∀ vs H Q E, sp vs H Q E → vs.length = 2) (hbody : ∀ (cdv : Value) (A : Around) (outer : List Env) (s : Shared) (H : Hp) (vs : List V) (Q : VK) (E : XK), Room k (A.deeper (envOfC "run_frame" (defScope st_run_frame) s.heap.objs.size (ga K "run_frame") cdv)) → sp vs H Q E →
      ∃ t, PSs (cxOf CX P w K mg base ["run", "frame", "index", "instruction", "operand", "e", "region"] "run_frame" (defScope st_run_frame) (ga K "run_frame") cdv A outer s H E) (defBody st_run_frame) t ∧ t { nx := fun _ H' => Q .non H', rt := Q } (start ["run", "frame", "index", "instruction", "operand", "e", "region"] vs) H) : Def P w K mg base CX (k + 1) "run_frame" ["run", "frame"] sp := by
  obtain ⟨fd, F⟩ := F_run_frame T
  exact ⟨_, fd, T.g "run_frame" (by decide +kernel), F.kp, F.bindsN fun _ _ _ _ _ _ us hl => match us, hl with | [_, _], _ => rfl, F.ok sc_run_frame len hbody⟩
theorem F_run_noting (T : Txt w K mg) : ∃ fd, FunD K "run_noting" "run_noting" (defArgs st_run_noting) (defBody st_run_noting) (defScope st_run_noting) [] [] (ga K "run_noting") fd := T.c.d.def_ 32 (d := d_run_noting) rfl
theorem D_run_noting (T : Txt w K mg) {CX : CXT} {k : Nat} {sp : Sp} (len : ∀ vs H Q E, sp vs H Q E → vs.length = 4) (hbody : ∀ (cdv : Value) (A : Around) (outer : List Env) (s : Shared) (H : Hp) (vs : List V) (Q : VK) (E : XK), Room k (A.deeper (envOfC "run_noting" (defScope st_run_noting) s.heap.objs.size (ga K "run_noting") cdv)) → sp vs H Q E →
      ∃ t, PSs (cxOf CX P w K mg base ["module", "inputs", "fuel", "limit", "run", "ending", "e"] "run_noting" (defScope st_run_noting) (ga K "run_noting") cdv A outer s H E) (defBody st_run_noting) t ∧ t { nx := fun _ H' => Q .non H', rt := Q } (start ["module", "inputs", "fuel", "limit", "run", "ending", "e"] vs) H) : Def P w K mg base CX (k + 1) "run_noting" ["module", "inputs", "fuel", "limit"] sp := by
  obtain ⟨fd, F⟩ := F_run_noting T
  exact ⟨_, fd, T.g "run_noting" (by decide +kernel), F.kp, F.bindsN fun _ _ _ _ _ _ us hl => match us, hl with | [_, _, _, _], _ => rfl, F.ok sc_run_noting len hbody⟩
theorem F_run_module (T : Txt w K mg) : ∃ fd, FunD K "run_module" "run_module" (defArgs st_run_module) (defBody st_run_module) (defScope st_run_module) [] [] (ga K "run_module") fd := T.c.d.def_ 33 (d := d_run_module) rfl
theorem F_trace_module (T : Txt w K mg) : ∃ fd, FunD K "trace_module" "trace_module" (defArgs st_trace_module) (defBody st_trace_module) (defScope st_trace_module) [] [] (ga K "trace_module") fd := T.c.d.def_ 34 (d := d_trace_module) rfl
theorem F_law_start (T : Txt w K mg) : ∃ fd, FunD K "_law_start" "_law_start" (defArgs st_law_start) (defBody st_law_start) (defScope st_law_start) [] [] (ga K "_law_start") fd := T.c.d.def_ 35 (d := d_law_start) rfl
theorem D_law_start (T : Txt w K mg) {CX : CXT} {k : Nat} {sp : Sp} (len : ∀ vs H Q E, sp vs H Q E → vs.length = 1) (hbody : ∀ (cdv : Value) (A : Around) (outer : List Env) (s : Shared) (H : Hp) (vs : List V) (Q : VK) (E : XK), Room k (A.deeper (envOfC "_law_start" (defScope st_law_start) s.heap.objs.size (ga K "_law_start") cdv)) → sp vs H Q E →
      ∃ t, PSs (cxOf CX P w K mg base ["_law_script", "_law_great", "_law_seed", "_law_cell", "_law_state"] "_law_start" (defScope st_law_start) (ga K "_law_start") cdv A outer s H E) (defBody st_law_start) t ∧ t { nx := fun _ H' => Q .non H', rt := Q } (start ["_law_script", "_law_great", "_law_seed", "_law_cell", "_law_state"] vs) H) : Def P w K mg base CX (k + 1) "_law_start" ["_law_script"] sp := by
  obtain ⟨fd, F⟩ := F_law_start T
  exact ⟨_, fd, T.g "_law_start" (by decide +kernel), F.kp, F.bindsN fun _ _ _ _ _ _ us hl => match us, hl with | [_], _ => rfl, F.ok sc_law_start len hbody⟩
theorem F_law_take (T : Txt w K mg) : ∃ fd, FunD K "_law_take" "_law_take" (defArgs st_law_take) (defBody st_law_take) (defScope st_law_take) [] [] (ga K "_law_take") fd := T.c.d.def_ 36 (d := d_law_take) rfl
theorem D_law_take (T : Txt w K mg) {CX : CXT} {k : Nat} {sp : Sp} (len : ∀ vs H Q E, sp vs H Q E → vs.length = 2) (hbody : ∀ (cdv : Value) (A : Around) (outer : List Env) (s : Shared) (H : Hp) (vs : List V) (Q : VK) (E : XK), Room k (A.deeper (envOfC "_law_take" (defScope st_law_take) s.heap.objs.size (ga K "_law_take") cdv)) → sp vs H Q E →
      ∃ t, PSs (cxOf CX P w K mg base ["_law_state", "_law_many", "_law_digit", "_law_mixed"] "_law_take" (defScope st_law_take) (ga K "_law_take") cdv A outer s H E) (defBody st_law_take) t ∧ t { nx := fun _ H' => Q .non H', rt := Q } (start ["_law_state", "_law_many", "_law_digit", "_law_mixed"] vs) H) : Def P w K mg base CX (k + 1) "_law_take" ["_law_state", "_law_many"] sp := by
  obtain ⟨fd, F⟩ := F_law_take T
  exact ⟨_, fd, T.g "_law_take" (by decide +kernel), F.kp, F.bindsN fun _ _ _ _ _ _ us hl => match us, hl with | [_, _], _ => rfl, F.ok sc_law_take len hbody⟩
theorem F_law_place (T : Txt w K mg) : ∃ fd, FunD K "_law_place" "_law_place" (defArgs st_law_place) (defBody st_law_place) (defScope st_law_place) [] [] (ga K "_law_place") fd := T.c.d.def_ 37 (d := d_law_place) rfl
theorem D_law_place (T : Txt w K mg) {CX : CXT} {k : Nat} {sp : Sp} (len : ∀ vs H Q E, sp vs H Q E → vs.length = 1) (hbody : ∀ (cdv : Value) (A : Around) (outer : List Env) (s : Shared) (H : Hp) (vs : List V) (Q : VK) (E : XK), Room k (A.deeper (envOfC "_law_place" (defScope st_law_place) s.heap.objs.size (ga K "_law_place") cdv)) → sp vs H Q E →
      ∃ t, PSs (cxOf CX P w K mg base ["_law_state"] "_law_place" (defScope st_law_place) (ga K "_law_place") cdv A outer s H E) (defBody st_law_place) t ∧ t { nx := fun _ H' => Q .non H', rt := Q } (start ["_law_state"] vs) H) : Def P w K mg base CX (k + 1) "_law_place" ["_law_state"] sp := by
  obtain ⟨fd, F⟩ := F_law_place T
  exact ⟨_, fd, T.g "_law_place" (by decide +kernel), F.kp, F.bindsN fun _ _ _ _ _ _ us hl => match us, hl with | [_], _ => rfl, F.ok sc_law_place len hbody⟩
theorem F_law_operand (T : Txt w K mg) : ∃ fd, FunD K "_law_operand" "_law_operand" (defArgs st_law_operand) (defBody st_law_operand) (defScope st_law_operand) [] [] (ga K "_law_operand") fd := T.c.d.def_ 38 (d := d_law_operand) rfl
theorem D_law_operand (T : Txt w K mg) {CX : CXT} {k : Nat} {sp : Sp} (len : ∀ vs H Q E, sp vs H Q E → vs.length = 2) (hbody : ∀ (cdv : Value) (A : Around) (outer : List Env) (s : Shared) (H : Hp) (vs : List V) (Q : VK) (E : XK), Room k (A.deeper (envOfC "_law_operand" (defScope st_law_operand) s.heap.objs.size (ga K "_law_operand") cdv)) → sp vs H Q E →
      ∃ t, PSs (cxOf CX P w K mg base ["_law_state", "_law_shape"] "_law_operand" (defScope st_law_operand) (ga K "_law_operand") cdv A outer s H E) (defBody st_law_operand) t ∧ t { nx := fun _ H' => Q .non H', rt := Q } (start ["_law_state", "_law_shape"] vs) H) : Def P w K mg base CX (k + 1) "_law_operand" ["_law_state", "_law_shape"] sp := by
  obtain ⟨fd, F⟩ := F_law_operand T
  exact ⟨_, fd, T.g "_law_operand" (by decide +kernel), F.kp, F.bindsN fun _ _ _ _ _ _ us hl => match us, hl with | [_, _], _ => rfl, F.ok sc_law_operand len hbody⟩
theorem F_law_target (T : Txt w K mg) : ∃ fd, FunD K "_law_target" "_law_target" (defArgs st_law_target) (defBody st_law_target) (defScope st_law_target) [] [] (ga K "_law_target") fd := T.c.d.def_ 39 (d := d_law_target) rfl
theorem D_law_target (T : Txt w K mg) {CX : CXT} {k : Nat} {sp : Sp} (len : ∀ vs H Q E, sp vs H Q E → vs.length = 3) (hbody : ∀ (cdv : Value) (A : Around) (outer : List Env) (s : Shared) (H : Hp) (vs : List V) (Q : VK) (E : XK), Room k (A.deeper (envOfC "_law_target" (defScope st_law_target) s.heap.objs.size (ga K "_law_target") cdv)) → sp vs H Q E →
      ∃ t, PSs (cxOf CX P w K mg base ["_law_state", "_law_index", "_law_ticks", "_law_target_here"] "_law_target" (defScope st_law_target) (ga K "_law_target") cdv A outer s H E) (defBody st_law_target) t ∧ t { nx := fun _ H' => Q .non H', rt := Q } (start ["_law_state", "_law_index", "_law_ticks", "_law_target_here"] vs) H) : Def P w K mg base CX (k + 1) "_law_target" ["_law_state", "_law_index", "_law_ticks"] sp := by
  obtain ⟨fd, F⟩ := F_law_target T
  exact ⟨_, fd, T.g "_law_target" (by decide +kernel), F.kp, F.bindsN fun _ _ _ _ _ _ us hl => match us, hl with | [_, _, _], _ => rfl, F.ok sc_law_target len hbody⟩
theorem F_law_around (T : Txt w K mg) : ∃ fd, FunD K "_law_around" "_law_around" (defArgs st_law_around) (defBody st_law_around) (defScope st_law_around) [] [] (ga K "_law_around") fd := T.c.d.def_ 40 (d := d_law_around) rfl
theorem D_law_around (T : Txt w K mg) {CX : CXT} {k : Nat} {sp : Sp} (len : ∀ vs H Q E, sp vs H Q E → vs.length = 3) (hbody : ∀ (cdv : Value) (A : Around) (outer : List Env) (s : Shared) (H : Hp) (vs : List V) (Q : VK) (E : XK), Room k (A.deeper (envOfC "_law_around" (defScope st_law_around) s.heap.objs.size (ga K "_law_around") cdv)) → sp vs H Q E →
      ∃ t, PSs (cxOf CX P w K mg base ["_law_shapes_here", "_law_number", "_law_hops", "_law_k"] "_law_around" (defScope st_law_around) (ga K "_law_around") cdv A outer s H E) (defBody st_law_around) t ∧ t { nx := fun _ H' => Q .non H', rt := Q } (start ["_law_shapes_here", "_law_number", "_law_hops", "_law_k"] vs) H) : Def P w K mg base CX (k + 1) "_law_around" ["_law_shapes_here", "_law_number", "_law_hops"] sp := by
  obtain ⟨fd, F⟩ := F_law_around T
  exact ⟨_, fd, T.g "_law_around" (by decide +kernel), F.kp, F.bindsN fun _ _ _ _ _ _ us hl => match us, hl with | [_, _, _], _ => rfl, F.ok sc_law_around len hbody⟩
theorem F_law_memory (T : Txt w K mg) : ∃ fd, FunD K "_law_memory" "_law_memory" (defArgs st_law_memory) (defBody st_law_memory) (defScope st_law_memory) [] [] (ga K "_law_memory") fd := T.c.d.def_ 41 (d := d_law_memory) rfl
theorem D_law_memory (T : Txt w K mg) {CX : CXT} {k : Nat} {sp : Sp} (len : ∀ vs H Q E, sp vs H Q E → vs.length = 3) (hbody : ∀ (cdv : Value) (A : Around) (outer : List Env) (s : Shared) (H : Hp) (vs : List V) (Q : VK) (E : XK), Room k (A.deeper (envOfC "_law_memory" (defScope st_law_memory) s.heap.objs.size (ga K "_law_memory") cdv)) → sp vs H Q E →
      ∃ t, PSs (cxOf CX P w K mg base ["_law_state", "_law_shapes_here", "_law_number", "_law_shape", "_law_hops", "_law_cells_here", "_law_cell", "_law_count", "_law_element"] "_law_memory" (defScope st_law_memory) (ga K "_law_memory") cdv A outer s H E) (defBody st_law_memory) t ∧ t { nx := fun _ H' => Q .non H', rt := Q } (start ["_law_state", "_law_shapes_here", "_law_number", "_law_shape", "_law_hops", "_law_cells_here", "_law_cell", "_law_count", "_law_element"] vs) H) : Def P w K mg base CX (k + 1) "_law_memory" ["_law_state", "_law_shapes_here", "_law_number"] sp := by
  obtain ⟨fd, F⟩ := F_law_memory T
  exact ⟨_, fd, T.g "_law_memory" (by decide +kernel), F.kp, F.bindsN fun _ _ _ _ _ _ us hl => match us, hl with | [_, _, _], _ => rfl, F.ok sc_law_memory len hbody⟩
theorem F_law_call (T : Txt w K mg) : ∃ fd, FunD K "_law_call" "_law_call" (defArgs st_law_call) (defBody st_law_call) (defScope st_law_call) [] [] (ga K "_law_call") fd := T.c.d.def_ 42 (d := d_law_call) rfl
theorem D_law_call (T : Txt w K mg) {CX : CXT} {k : Nat} {sp : Sp} (len : ∀ vs H Q E, sp vs H Q E → vs.length = 3) (hbody : ∀ (cdv : Value) (A : Around) (outer : List Env) (s : Shared) (H : Hp) (vs : List V) (Q : VK) (E : XK), Room k (A.deeper (envOfC "_law_call" (defScope st_law_call) s.heap.objs.size (ga K "_law_call") cdv)) → sp vs H Q E →
      ∃ t, PSs (cxOf CX P w K mg base ["_law_state", "_law_shapes_here", "_law_number", "_law_shape", "_law_hops", "_law_parent", "_law_called", "_law_k", "_law_other", "_law_given", "_law_first", "_law_results"] "_law_call" (defScope st_law_call) (ga K "_law_call") cdv A outer s H E) (defBody st_law_call) t ∧ t { nx := fun _ H' => Q .non H', rt := Q } (start ["_law_state", "_law_shapes_here", "_law_number", "_law_shape", "_law_hops", "_law_parent", "_law_called", "_law_k", "_law_other", "_law_given", "_law_first", "_law_results"] vs) H) : Def P w K mg base CX (k + 1) "_law_call" ["_law_state", "_law_shapes_here", "_law_number"] sp := by
  obtain ⟨fd, F⟩ := F_law_call T
  exact ⟨_, fd, T.g "_law_call" (by decide +kernel), F.kp, F.bindsN fun _ _ _ _ _ _ us hl => match us, hl with | [_, _, _], _ => rfl, F.ok sc_law_call len hbody⟩
theorem F_law_instruction (T : Txt w K mg) : ∃ fd, FunD K "_law_instruction" "_law_instruction" (defArgs st_law_instruction) (defBody st_law_instruction) (defScope st_law_instruction) [] [] (ga K "_law_instruction") fd := T.c.d.def_ 43 (d := d_law_instruction) rfl
theorem D_law_instruction (T : Txt w K mg) {CX : CXT} {k : Nat} {sp : Sp} (len : ∀ vs H Q E, sp vs H Q E → vs.length = 6) (hbody : ∀ (cdv : Value) (A : Around) (outer : List Env) (s : Shared) (H : Hp) (vs : List V) (Q : VK) (E : XK), Room k (A.deeper (envOfC "_law_instruction" (defScope st_law_instruction) s.heap.objs.size (ga K "_law_instruction") cdv)) → sp vs H Q E →
      ∃ t, PSs (cxOf CX P w K mg base ["_law_state", "_law_shapes_here", "_law_number", "_law_index", "_law_ticks", "_law_regions_here", "_law_shape", "_law_kind", "_law_d", "_law_p", "_law_x", "_law_op", "_law_low", "_law_region_here", "_law_k"] "_law_instruction" (defScope st_law_instruction) (ga K "_law_instruction") cdv A outer s H E) (defBody st_law_instruction) t ∧ t { nx := fun _ H' => Q .non H', rt := Q } (start ["_law_state", "_law_shapes_here", "_law_number", "_law_index", "_law_ticks", "_law_regions_here", "_law_shape", "_law_kind", "_law_d", "_law_p", "_law_x", "_law_op", "_law_low", "_law_region_here", "_law_k"] vs) H) : Def P w K mg base CX (k + 1) "_law_instruction" ["_law_state", "_law_shapes_here", "_law_number", "_law_index", "_law_ticks", "_law_regions_here"] sp := by
  obtain ⟨fd, F⟩ := F_law_instruction T
  exact ⟨_, fd, T.g "_law_instruction" (by decide +kernel), F.kp, F.bindsN fun _ _ _ _ _ _ us hl => match us, hl with | [_, _, _, _, _, _], _ => rfl, F.ok sc_law_instruction len hbody⟩
theorem F_law_regions (T : Txt w K mg) : ∃ fd, FunD K "_law_regions" "_law_regions" (defArgs st_law_regions) (defBody st_law_regions) (defScope st_law_regions) [] [] (ga K "_law_regions") fd := T.c.d.def_ 44 (d := d_law_regions) rfl
theorem D_law_regions (T : Txt w K mg) {CX : CXT} {k : Nat} {sp : Sp} (len : ∀ vs H Q E, sp vs H Q E → vs.length = 3) (hbody : ∀ (cdv : Value) (A : Around) (outer : List Env) (s : Shared) (H : Hp) (vs : List V) (Q : VK) (E : XK), Room k (A.deeper (envOfC "_law_regions" (defScope st_law_regions) s.heap.objs.size (ga K "_law_regions") cdv)) → sp vs H Q E →
      ∃ t, PSs (cxOf CX P w K mg base ["_law_state", "_law_shape", "_law_size", "_law_regions_here", "_law_k", "_law_start_here", "_law_stop", "_law_entry", "_law_first", "_law_second"] "_law_regions" (defScope st_law_regions) (ga K "_law_regions") cdv A outer s H E) (defBody st_law_regions) t ∧ t { nx := fun _ H' => Q .non H', rt := Q } (start ["_law_state", "_law_shape", "_law_size", "_law_regions_here", "_law_k", "_law_start_here", "_law_stop", "_law_entry", "_law_first", "_law_second"] vs) H) : Def P w K mg base CX (k + 1) "_law_regions" ["_law_state", "_law_shape", "_law_size"] sp := by
  obtain ⟨fd, F⟩ := F_law_regions T
  exact ⟨_, fd, T.g "_law_regions" (by decide +kernel), F.kp, F.bindsN fun _ _ _ _ _ _ us hl => match us, hl with | [_, _, _], _ => rfl, F.ok sc_law_regions len hbody⟩
theorem F_law_unit (T : Txt w K mg) : ∃ fd, FunD K "_law_unit" "_law_unit" (defArgs st_law_unit) (defBody st_law_unit) (defScope st_law_unit) [] [] (ga K "_law_unit") fd := T.c.d.def_ 45 (d := d_law_unit) rfl
theorem D_law_unit (T : Txt w K mg) {CX : CXT} {k : Nat} {sp : Sp} (len : ∀ vs H Q E, sp vs H Q E → vs.length = 3) (hbody : ∀ (cdv : Value) (A : Around) (outer : List Env) (s : Shared) (H : Hp) (vs : List V) (Q : VK) (E : XK), Room k (A.deeper (envOfC "_law_unit" (defScope st_law_unit) s.heap.objs.size (ga K "_law_unit") cdv)) → sp vs H Q E →
      ∃ t, PSs (cxOf CX P w K mg base ["_law_state", "_law_shapes_here", "_law_number", "_law_shape", "_law_wide", "_law_size", "_law_ticks", "_law_index", "_law_regions_here", "_law_code", "_law_k"] "_law_unit" (defScope st_law_unit) (ga K "_law_unit") cdv A outer s H E) (defBody st_law_unit) t ∧ t { nx := fun _ H' => Q .non H', rt := Q } (start ["_law_state", "_law_shapes_here", "_law_number", "_law_shape", "_law_wide", "_law_size", "_law_ticks", "_law_index", "_law_regions_here", "_law_code", "_law_k"] vs) H) : Def P w K mg base CX (k + 1) "_law_unit" ["_law_state", "_law_shapes_here", "_law_number"] sp := by
  obtain ⟨fd, F⟩ := F_law_unit T
  exact ⟨_, fd, T.g "_law_unit" (by decide +kernel), F.kp, F.bindsN fun _ _ _ _ _ _ us hl => match us, hl with | [_, _, _], _ => rfl, F.ok sc_law_unit len hbody⟩
theorem F_law_shapes (T : Txt w K mg) : ∃ fd, FunD K "_law_shapes" "_law_shapes" (defArgs st_law_shapes) (defBody st_law_shapes) (defScope st_law_shapes) [] [] (ga K "_law_shapes") fd := T.c.d.def_ 46 (d := d_law_shapes) rfl
theorem D_law_shapes (T : Txt w K mg) {CX : CXT} {k : Nat} {sp : Sp} (len : ∀ vs H Q E, sp vs H Q E → vs.length = 1) (hbody : ∀ (cdv : Value) (A : Around) (outer : List Env) (s : Shared) (H : Hp) (vs : List V) (Q : VK) (E : XK), Room k (A.deeper (envOfC "_law_shapes" (defScope st_law_shapes) s.heap.objs.size (ga K "_law_shapes") cdv)) → sp vs H Q E →
      ∃ t, PSs (cxOf CX P w K mg base ["_law_state", "_law_shapes_here", "_law_more", "_law_number", "_law_parent", "_law_level", "_law_arguments", "_law_results", "_law_registers"] "_law_shapes" (defScope st_law_shapes) (ga K "_law_shapes") cdv A outer s H E) (defBody st_law_shapes) t ∧ t { nx := fun _ H' => Q .non H', rt := Q } (start ["_law_state", "_law_shapes_here", "_law_more", "_law_number", "_law_parent", "_law_level", "_law_arguments", "_law_results", "_law_registers"] vs) H) : Def P w K mg base CX (k + 1) "_law_shapes" ["_law_state"] sp := by
  obtain ⟨fd, F⟩ := F_law_shapes T
  exact ⟨_, fd, T.g "_law_shapes" (by decide +kernel), F.kp, F.bindsN fun _ _ _ _ _ _ us hl => match us, hl with | [_], _ => rfl, F.ok sc_law_shapes len hbody⟩
theorem F_law_module (T : Txt w K mg) : ∃ fd, FunD K "_law_module" "_law_module" (defArgs st_law_module) (defBody st_law_module) (defScope st_law_module) [] [] (ga K "_law_module") fd := T.c.d.def_ 47 (d := d_law_module) rfl
theorem D_law_module (T : Txt w K mg) {CX : CXT} {k : Nat} {sp : Sp} (len : ∀ vs H Q E, sp vs H Q E → vs.length = 1) (hbody : ∀ (cdv : Value) (A : Around) (outer : List Env) (s : Shared) (H : Hp) (vs : List V) (Q : VK) (E : XK), Room k (A.deeper (envOfC "_law_module" (defScope st_law_module) s.heap.objs.size (ga K "_law_module") cdv)) → sp vs H Q E →
      ∃ t, PSs (cxOf CX P w K mg base ["_law_state", "_law_shapes_here", "_law_units", "_law_number", "_law_names", "_law_places", "_law_k"] "_law_module" (defScope st_law_module) (ga K "_law_module") cdv A outer s H E) (defBody st_law_module) t ∧ t { nx := fun _ H' => Q .non H', rt := Q } (start ["_law_state", "_law_shapes_here", "_law_units", "_law_number", "_law_names", "_law_places", "_law_k"] vs) H) : Def P w K mg base CX (k + 1) "_law_module" ["_law_state"] sp := by
  obtain ⟨fd, F⟩ := F_law_module T
  exact ⟨_, fd, T.g "_law_module" (by decide +kernel), F.kp, F.bindsN fun _ _ _ _ _ _ us hl => match us, hl with | [_], _ => rfl, F.ok sc_law_module len hbody⟩
theorem F_law_exact (T : Txt w K mg) : ∃ fd, FunD K "_law_exact" "_law_exact" (defArgs st_law_exact) (defBody st_law_exact) (defScope st_law_exact) [] [] (ga K "_law_exact") fd := T.c.d.def_ 48 (d := d_law_exact) rfl
theorem D_law_exact (T : Txt w K mg) {CX : CXT} {k : Nat} {sp : Sp} (len : ∀ vs H Q E, sp vs H Q E → vs.length = 3) (hbody : ∀ (cdv : Value) (A : Around) (outer : List Env) (s : Shared) (H : Hp) (vs : List V) (Q : VK) (E : XK), Room k (A.deeper (envOfC "_law_exact" (defScope st_law_exact) s.heap.objs.size (ga K "_law_exact") cdv)) → sp vs H Q E →
      ∃ t, PSs (cxOf CX P w K mg base ["_law_name", "_law_left", "_law_right", "_law_size", "_law_rest"] "_law_exact" (defScope st_law_exact) (ga K "_law_exact") cdv A outer s H E) (defBody st_law_exact) t ∧ t { nx := fun _ H' => Q .non H', rt := Q } (start ["_law_name", "_law_left", "_law_right", "_law_size", "_law_rest"] vs) H) : Def P w K mg base CX (k + 1) "_law_exact" ["_law_name", "_law_left", "_law_right"] sp := by
  obtain ⟨fd, F⟩ := F_law_exact T
  exact ⟨_, fd, T.g "_law_exact" (by decide +kernel), F.kp, F.bindsN fun _ _ _ _ _ _ us hl => match us, hl with | [_, _, _], _ => rfl, F.ok sc_law_exact len hbody⟩
theorem F_law_value (T : Txt w K mg) : ∃ fd, FunD K "_law_value" "_law_value" (defArgs st_law_value) (defBody st_law_value) (defScope st_law_value) [] [] (ga K "_law_value") fd := T.c.d.def_ 49 (d := d_law_value) rfl
theorem D_law_value (T : Txt w K mg) {CX : CXT} {k : Nat} {sp : Sp} (len : ∀ vs H Q E, sp vs H Q E → vs.length = 2) (hbody : ∀ (cdv : Value) (A : Around) (outer : List Env) (s : Shared) (H : Hp) (vs : List V) (Q : VK) (E : XK), Room k (A.deeper (envOfC "_law_value" (defScope st_law_value) s.heap.objs.size (ga K "_law_value") cdv)) → sp vs H Q E →
      ∃ t, PSs (cxOf CX P w K mg base ["_law_frame", "_law_operand_here"] "_law_value" (defScope st_law_value) (ga K "_law_value") cdv A outer s H E) (defBody st_law_value) t ∧ t { nx := fun _ H' => Q .non H', rt := Q } (start ["_law_frame", "_law_operand_here"] vs) H) : Def P w K mg base CX (k + 1) "_law_value" ["_law_frame", "_law_operand_here"] sp := by
  obtain ⟨fd, F⟩ := F_law_value T
  exact ⟨_, fd, T.g "_law_value" (by decide +kernel), F.kp, F.bindsN fun _ _ _ _ _ _ us hl => match us, hl with | [_, _], _ => rfl, F.ok sc_law_value len hbody⟩
theorem F_law_outer (T : Txt w K mg) : ∃ fd, FunD K "_law_outer" "_law_outer" (defArgs st_law_outer) (defBody st_law_outer) (defScope st_law_outer) [] [] (ga K "_law_outer") fd := T.c.d.def_ 50 (d := d_law_outer) rfl
theorem D_law_outer (T : Txt w K mg) {CX : CXT} {k : Nat} {sp : Sp} (len : ∀ vs H Q E, sp vs H Q E → vs.length = 2) (hbody : ∀ (cdv : Value) (A : Around) (outer : List Env) (s : Shared) (H : Hp) (vs : List V) (Q : VK) (E : XK), Room k (A.deeper (envOfC "_law_outer" (defScope st_law_outer) s.heap.objs.size (ga K "_law_outer") cdv)) → sp vs H Q E →
      ∃ t, PSs (cxOf CX P w K mg base ["_law_frame", "_law_hops", "_law_k"] "_law_outer" (defScope st_law_outer) (ga K "_law_outer") cdv A outer s H E) (defBody st_law_outer) t ∧ t { nx := fun _ H' => Q .non H', rt := Q } (start ["_law_frame", "_law_hops", "_law_k"] vs) H) : Def P w K mg base CX (k + 1) "_law_outer" ["_law_frame", "_law_hops"] sp := by
  obtain ⟨fd, F⟩ := F_law_outer T
  exact ⟨_, fd, T.g "_law_outer" (by decide +kernel), F.kp, F.bindsN fun _ _ _ _ _ _ us hl => match us, hl with | [_, _], _ => rfl, F.ok sc_law_outer len hbody⟩
theorem F_law_compute (T : Txt w K mg) : ∃ fd, FunD K "_law_compute" "_law_compute" (defArgs st_law_compute) (defBody st_law_compute) (defScope st_law_compute) [] [] (ga K "_law_compute") fd := T.c.d.def_ 51 (d := d_law_compute) rfl
theorem D_law_compute (T : Txt w K mg) {CX : CXT} {k : Nat} {sp : Sp} (len : ∀ vs H Q E, sp vs H Q E → vs.length = 3) (hbody : ∀ (cdv : Value) (A : Around) (outer : List Env) (s : Shared) (H : Hp) (vs : List V) (Q : VK) (E : XK), Room k (A.deeper (envOfC "_law_compute" (defScope st_law_compute) s.heap.objs.size (ga K "_law_compute") cdv)) → sp vs H Q E →
      ∃ t, PSs (cxOf CX P w K mg base ["_law_run_here", "_law_frame", "_law_instruction_here", "_law_name", "_law_left", "_law_word", "_law_right", "_law_row"] "_law_compute" (defScope st_law_compute) (ga K "_law_compute") cdv A outer s H E) (defBody st_law_compute) t ∧ t { nx := fun _ H' => Q .non H', rt := Q } (start ["_law_run_here", "_law_frame", "_law_instruction_here", "_law_name", "_law_left", "_law_word", "_law_right", "_law_row"] vs) H) : Def P w K mg base CX (k + 1) "_law_compute" ["_law_run_here", "_law_frame", "_law_instruction_here"] sp := by
  obtain ⟨fd, F⟩ := F_law_compute T
  exact ⟨_, fd, T.g "_law_compute" (by decide +kernel), F.kp, F.bindsN fun _ _ _ _ _ _ us hl => match us, hl with | [_, _, _], _ => rfl, F.ok sc_law_compute len hbody⟩
theorem F_law_cells (T : Txt w K mg) : ∃ fd, FunD K "_law_cells" "_law_cells" (defArgs st_law_cells) (defBody st_law_cells) (defScope st_law_cells) [] [] (ga K "_law_cells") fd := T.c.d.def_ 52 (d := d_law_cells) rfl
theorem D_law_cells (T : Txt w K mg) {CX : CXT} {k : Nat} {sp : Sp} (len : ∀ vs H Q E, sp vs H Q E → vs.length = 3) (hbody : ∀ (cdv : Value) (A : Around) (outer : List Env) (s : Shared) (H : Hp) (vs : List V) (Q : VK) (E : XK), Room k (A.deeper (envOfC "_law_cells" (defScope st_law_cells) s.heap.objs.size (ga K "_law_cells") cdv)) → sp vs H Q E →
      ∃ t, PSs (cxOf CX P w K mg base ["_law_run_here", "_law_frame", "_law_instruction_here", "_law_element", "_law_row"] "_law_cells" (defScope st_law_cells) (ga K "_law_cells") cdv A outer s H E) (defBody st_law_cells) t ∧ t { nx := fun _ H' => Q .non H', rt := Q } (start ["_law_run_here", "_law_frame", "_law_instruction_here", "_law_element", "_law_row"] vs) H) : Def P w K mg base CX (k + 1) "_law_cells" ["_law_run_here", "_law_frame", "_law_instruction_here"] sp := by
  obtain ⟨fd, F⟩ := F_law_cells T
  exact ⟨_, fd, T.g "_law_cells" (by decide +kernel), F.kp, F.bindsN fun _ _ _ _ _ _ us hl => match us, hl with | [_, _, _], _ => rfl, F.ok sc_law_cells len hbody⟩
theorem F_law_again (T : Txt w K mg) : ∃ fd, FunD K "_law_again" "_law_again" (defArgs st_law_again) (defBody st_law_again) (defScope st_law_again) [] [] (ga K "_law_again") fd := T.c.d.def_ 53 (d := d_law_again) rfl
theorem D_law_again (T : Txt w K mg) {CX : CXT} {k : Nat} {sp : Sp} (len : ∀ vs H Q E, sp vs H Q E → vs.length = 3) (hbody : ∀ (cdv : Value) (A : Around) (outer : List Env) (s : Shared) (H : Hp) (vs : List V) (Q : VK) (E : XK), Room k (A.deeper (envOfC "_law_again" (defScope st_law_again) s.heap.objs.size (ga K "_law_again") cdv)) → sp vs H Q E →
      ∃ t, PSs (cxOf CX P w K mg base ["_law_run_here", "_law_frame", "_law_instruction_here", "_law_number", "_law_place_here", "_law_module_here"] "_law_again" (defScope st_law_again) (ga K "_law_again") cdv A outer s H E) (defBody st_law_again) t ∧ t { nx := fun _ H' => Q .non H', rt := Q } (start ["_law_run_here", "_law_frame", "_law_instruction_here", "_law_number", "_law_place_here", "_law_module_here"] vs) H) : Def P w K mg base CX (k + 1) "_law_again" ["_law_run_here", "_law_frame", "_law_instruction_here"] sp := by
  obtain ⟨fd, F⟩ := F_law_again T
  exact ⟨_, fd, T.g "_law_again" (by decide +kernel), F.kp, F.bindsN fun _ _ _ _ _ _ us hl => match us, hl with | [_, _, _], _ => rfl, F.ok sc_law_again len hbody⟩
theorem F_law_step (T : Txt w K mg) : ∃ fd, FunD K "_law_step" "_law_step" (defArgs st_law_step) (defBody st_law_step) (defScope st_law_step) [] [] (ga K "_law_step") fd := T.c.d.def_ 54 (d := d_law_step) rfl
theorem D_law_step (T : Txt w K mg) {CX : CXT} {k : Nat} {sp : Sp} (len : ∀ vs H Q E, sp vs H Q E → vs.length = 3) (hbody : ∀ (cdv : Value) (A : Around) (outer : List Env) (s : Shared) (H : Hp) (vs : List V) (Q : VK) (E : XK), Room k (A.deeper (envOfC "_law_step" (defScope st_law_step) s.heap.objs.size (ga K "_law_step") cdv)) → sp vs H Q E →
      ∃ t, PSs (cxOf CX P w K mg base ["_law_run_here", "_law_frame", "_law_instruction_here", "_law_name", "_law_row", "_law_word"] "_law_step" (defScope st_law_step) (ga K "_law_step") cdv A outer s H E) (defBody st_law_step) t ∧ t { nx := fun _ H' => Q .non H', rt := Q } (start ["_law_run_here", "_law_frame", "_law_instruction_here", "_law_name", "_law_row", "_law_word"] vs) H) : Def P w K mg base CX (k + 1) "_law_step" ["_law_run_here", "_law_frame", "_law_instruction_here"] sp := by
  obtain ⟨fd, F⟩ := F_law_step T
  exact ⟨_, fd, T.g "_law_step" (by decide +kernel), F.kp, F.bindsN fun _ _ _ _ _ _ us hl => match us, hl with | [_, _, _], _ => rfl, F.ok sc_law_step len hbody⟩
theorem F_law_enter (T : Txt w K mg) : ∃ fd, FunD K "_law_enter" "_law_enter" (defArgs st_law_enter) (defBody st_law_enter) (defScope st_law_enter) [] [] (ga K "_law_enter") fd := T.c.d.def_ 55 (d := d_law_enter) rfl
theorem D_law_enter (T : Txt w K mg) {CX : CXT} {k : Nat} {sp : Sp} (len : ∀ vs H Q E, sp vs H Q E → vs.length = 3) (hbody : ∀ (cdv : Value) (A : Around) (outer : List Env) (s : Shared) (H : Hp) (vs : List V) (Q : VK) (E : XK), Room k (A.deeper (envOfC "_law_enter" (defScope st_law_enter) s.heap.objs.size (ga K "_law_enter") cdv)) → sp vs H Q E →
      ∃ t, PSs (cxOf CX P w K mg base ["_law_run_here", "_law_frame", "_law_instruction_here", "_law_unit_here", "_law_given", "_law_operand_here", "_law_callee", "_law_values", "_law_raised", "_law_row", "_law_k"] "_law_enter" (defScope st_law_enter) (ga K "_law_enter") cdv A outer s H E) (defBody st_law_enter) t ∧ t { nx := fun _ H' => Q .non H', rt := Q } (start ["_law_run_here", "_law_frame", "_law_instruction_here", "_law_unit_here", "_law_given", "_law_operand_here", "_law_callee", "_law_values", "_law_raised", "_law_row", "_law_k"] vs) H) : Def P w K mg base CX (k + 1) "_law_enter" ["_law_run_here", "_law_frame", "_law_instruction_here"] sp := by
  obtain ⟨fd, F⟩ := F_law_enter T
  exact ⟨_, fd, T.g "_law_enter" (by decide +kernel), F.kp, F.bindsN fun _ _ _ _ _ _ us hl => match us, hl with | [_, _, _], _ => rfl, F.ok sc_law_enter len hbody⟩
theorem F_law_region (T : Txt w K mg) : ∃ fd, FunD K "_law_region" "_law_region" (defArgs st_law_region) (defBody st_law_region) (defScope st_law_region) [] [] (ga K "_law_region") fd := T.c.d.def_ 56 (d := d_law_region) rfl
theorem D_law_region (T : Txt w K mg) {CX : CXT} {k : Nat} {sp : Sp} (len : ∀ vs H Q E, sp vs H Q E → vs.length = 2) (hbody : ∀ (cdv : Value) (A : Around) (outer : List Env) (s : Shared) (H : Hp) (vs : List V) (Q : VK) (E : XK), Room k (A.deeper (envOfC "_law_region" (defScope st_law_region) s.heap.objs.size (ga K "_law_region") cdv)) → sp vs H Q E →
      ∃ t, PSs (cxOf CX P w K mg base ["_law_unit_here", "_law_index", "_law_region_here"] "_law_region" (defScope st_law_region) (ga K "_law_region") cdv A outer s H E) (defBody st_law_region) t ∧ t { nx := fun _ H' => Q .non H', rt := Q } (start ["_law_unit_here", "_law_index", "_law_region_here"] vs) H) : Def P w K mg base CX (k + 1) "_law_region" ["_law_unit_here", "_law_index"] sp := by
  obtain ⟨fd, F⟩ := F_law_region T
  exact ⟨_, fd, T.g "_law_region" (by decide +kernel), F.kp, F.bindsN fun _ _ _ _ _ _ us hl => match us, hl with | [_, _], _ => rfl, F.ok sc_law_region len hbody⟩
theorem F_law_run (T : Txt w K mg) : ∃ fd, FunD K "_law_run" "_law_run" (defArgs st_law_run) (defBody st_law_run) (defScope st_law_run) [] [] (ga K "_law_run") fd := T.c.d.def_ 57 (d := d_law_run) rfl
theorem D_law_run (T : Txt w K mg) {CX : CXT} {k : Nat} {sp : Sp} (len : ∀ vs H Q E, sp vs H Q E → vs.length = 2) (hbody : ∀ (cdv : Value) (A : Around) (outer : List Env) (s : Shared) (H : Hp) (vs : List V) (Q : VK) (E : XK), Room k (A.deeper (envOfC "_law_run" (defScope st_law_run) s.heap.objs.size (ga K "_law_run") cdv)) → sp vs H Q E →
      ∃ t, PSs (cxOf CX P w K mg base ["_law_run_here", "_law_frame", "_law_unit_here", "_law_row", "_law_index", "_law_step_here", "_law_instruction_here", "_law_operand_here", "_law_raised", "_law_following", "_law_region_here"] "_law_run" (defScope st_law_run) (ga K "_law_run") cdv A outer s H E) (defBody st_law_run) t ∧ t { nx := fun _ H' => Q .non H', rt := Q } (start ["_law_run_here", "_law_frame", "_law_unit_here", "_law_row", "_law_index", "_law_step_here", "_law_instruction_here", "_law_operand_here", "_law_raised", "_law_following", "_law_region_here"] vs) H) : Def P w K mg base CX (k + 1) "_law_run" ["_law_run_here", "_law_frame"] sp := by
  obtain ⟨fd, F⟩ := F_law_run T
  exact ⟨_, fd, T.g "_law_run" (by decide +kernel), F.kp, F.bindsN fun _ _ _ _ _ _ us hl => match us, hl with | [_, _], _ => rfl, F.ok sc_law_run len hbody⟩
theorem F_law_begin (T : Txt w K mg) : ∃ fd, FunD K "_law_begin" "_law_begin" (defArgs st_law_begin) (defBody st_law_begin) (defScope st_law_begin) [] [] (ga K "_law_begin") fd := T.c.d.def_ 58 (d := d_law_begin) rfl
theorem D_law_begin (T : Txt w K mg) {CX : CXT} {k : Nat} {sp : Sp} (len : ∀ vs H Q E, sp vs H Q E → vs.length = 4) (hbody : ∀ (cdv : Value) (A : Around) (outer : List Env) (s : Shared) (H : Hp) (vs : List V) (Q : VK) (E : XK), Room k (A.deeper (envOfC "_law_begin" (defScope st_law_begin) s.heap.objs.size (ga K "_law_begin") cdv)) → sp vs H Q E →
      ∃ t, PSs (cxOf CX P w K mg base ["_law_module_here", "_law_inputs", "_law_units", "_law_limit", "_law_run_here", "_law_unit_here", "_law_place_here"] "_law_begin" (defScope st_law_begin) (ga K "_law_begin") cdv A outer s H E) (defBody st_law_begin) t ∧ t { nx := fun _ H' => Q .non H', rt := Q } (start ["_law_module_here", "_law_inputs", "_law_units", "_law_limit", "_law_run_here", "_law_unit_here", "_law_place_here"] vs) H) : Def P w K mg base CX (k + 1) "_law_begin" ["_law_module_here", "_law_inputs", "_law_units", "_law_limit"] sp := by
  obtain ⟨fd, F⟩ := F_law_begin T
  exact ⟨_, fd, T.g "_law_begin" (by decide +kernel), F.kp, F.bindsN fun _ _ _ _ _ _ us hl => match us, hl with | [_, _, _, _], _ => rfl, F.ok sc_law_begin len hbody⟩
theorem F_law_alike (T : Txt w K mg) : ∃ fd, FunD K "_law_alike" "_law_alike" (defArgs st_law_alike) (defBody st_law_alike) (defScope st_law_alike) [] [] (ga K "_law_alike") fd := T.c.d.def_ 59 (d := d_law_alike) rfl
theorem D_law_alike (T : Txt w K mg) {CX : CXT} {k : Nat} {sp : Sp} (len : ∀ vs H Q E, sp vs H Q E → vs.length = 2) (hbody : ∀ (cdv : Value) (A : Around) (outer : List Env) (s : Shared) (H : Hp) (vs : List V) (Q : VK) (E : XK), Room k (A.deeper (envOfC "_law_alike" (defScope st_law_alike) s.heap.objs.size (ga K "_law_alike") cdv)) → sp vs H Q E →
      ∃ t, PSs (cxOf CX P w K mg base ["_law_answer", "_law_due", "_law_k"] "_law_alike" (defScope st_law_alike) (ga K "_law_alike") cdv A outer s H E) (defBody st_law_alike) t ∧ t { nx := fun _ H' => Q .non H', rt := Q } (start ["_law_answer", "_law_due", "_law_k"] vs) H) : Def P w K mg base CX (k + 1) "_law_alike" ["_law_answer", "_law_due"] sp := by
  obtain ⟨fd, F⟩ := F_law_alike T
  exact ⟨_, fd, T.g "_law_alike" (by decide +kernel), F.kp, F.bindsN fun _ _ _ _ _ _ us hl => match us, hl with | [_, _], _ => rfl, F.ok sc_law_alike len hbody⟩
theorem F_law (T : Txt w K mg) : ∃ fd, FunD K "law" "law" (defArgs st_law) (defBody st_law) (defScope st_law) [] [] (ga K "law") fd := T.c.d.def_ 60 (d := d_law) rfl
theorem D_law (T : Txt w K mg) {CX : CXT} {k : Nat} {sp : Sp} (len : ∀ vs H Q E, sp vs H Q E → vs.length = 1) (hbody : ∀ (cdv : Value) (A : Around) (outer : List Env) (s : Shared) (H : Hp) (vs : List V) (Q : VK) (E : XK), Room k (A.deeper (envOfC "law" (defScope st_law) s.heap.objs.size (ga K "law") cdv)) → sp vs H Q E →
      ∃ t, PSs (cxOf CX P w K mg base ["_law_script", "_law_state", "_law_module_here", "_law_inputs", "_law_k", "_law_units", "_law_limit", "_law_run_here", "_law_due", "_law_passed", "_law_noted"] "law" (defScope st_law) (ga K "law") cdv A outer s H E) (defBody st_law) t ∧ t { nx := fun _ H' => Q .non H', rt := Q } (start ["_law_script", "_law_state", "_law_module_here", "_law_inputs", "_law_k", "_law_units", "_law_limit", "_law_run_here", "_law_due", "_law_passed", "_law_noted"] vs) H) : Def P w K mg base CX (k + 1) "law" ["_law_script"] sp := by
  obtain ⟨fd, F⟩ := F_law T
  exact ⟨_, fd, T.g "law" (by decide +kernel), F.kp, F.bindsN fun _ _ _ _ _ _ us hl => match us, hl with | [_], _ => rfl, F.ok sc_law len hbody⟩
end
end WX
/-! ## WBase2 -/
set_option Elab.async false
set_option linter.all false
set_option maxRecDepth 100000
set_option maxHeartbeats 2000000
/-! The facts by name. -/
namespace WX
open PySem PySem.Spec PyProof.Rows L2 He
section
variable {P : Program} {w : World} {K : PySem.W.Frag} {mg : Str → Option Value} {base : Heap}
theorem gi_CONSTRAINT (T : Txt w K mg) : ∃ t, mg "CONSTRAINT" = some (.int (0) t) := T.i _ _ (T.f 77 (f := .int "CONSTRAINT" (0)) rfl)
theorem gi_STORAGE (T : Txt w K mg) : ∃ t, mg "STORAGE" = some (.int (2) t) := T.i _ _ (T.f 78 (f := .int "STORAGE" (2)) rfl)
theorem gi_END (T : Txt w K mg) : ∃ t, mg "END" = some (.int (3) t) := T.i _ _ (T.f 79 (f := .int "END" (3)) rfl)
theorem gi_DEPTH_LIMIT (T : Txt w K mg) : ∃ t, mg "DEPTH_LIMIT" = some (.int (10) t) := T.i _ _ (T.f 80 (f := .int "DEPTH_LIMIT" (10)) rfl)
theorem gi_MIN (T : Txt w K mg) : ∃ t, mg "MIN" = some (.int (-2147483648) t) := T.i _ _ (T.f 81 (f := .int "MIN" (-2147483648)) rfl)
theorem gi_MAX (T : Txt w K mg) : ∃ t, mg "MAX" = some (.int (2147483647) t) := T.i _ _ (T.f 82 (f := .int "MAX" (2147483647)) rfl)
theorem cl_Unit (T : Txt w K mg) : Cls K (ga K "Unit") := cls_ok (T.f 83 (f := .cls "Unit") rfl)
theorem cl_Module (T : Txt w K mg) : Cls K (ga K "Module") := cls_ok (T.f 84 (f := .cls "Module") rfl)
theorem cl_Events (T : Txt w K mg) : Cls K (ga K "Events") := cls_ok (T.f 85 (f := .cls "Events") rfl)
theorem cl_Fuel (T : Txt w K mg) : Cls K (ga K "Fuel") := cls_ok (T.f 86 (f := .cls "Fuel") rfl)
theorem cl_Frame (T : Txt w K mg) : Cls K (ga K "Frame") := cls_ok (T.f 87 (f := .cls "Frame") rfl)
theorem cl_CodeRun (T : Txt w K mg) : Cls K (ga K "CodeRun") := cls_ok (T.f 88 (f := .cls "CodeRun") rfl)
theorem mk_Unit (T : Txt w K mg) : Mk K (ga K "Unit") (ma K (ga K "Unit") "__init__") := mkr_ok (T.f 89 (f := .mkr "Unit") rfl)
theorem mk_Module (T : Txt w K mg) : Mk K (ga K "Module") (ma K (ga K "Module") "__init__") := mkr_ok (T.f 90 (f := .mkr "Module") rfl)
theorem mk_Events (T : Txt w K mg) : Mk K (ga K "Events") (ma K (ga K "Events") "__init__") := mkr_ok (T.f 91 (f := .mkr "Events") rfl)
theorem mk_Fuel (T : Txt w K mg) : Mk K (ga K "Fuel") (ma K (ga K "Fuel") "__init__") := mkr_ok (T.f 92 (f := .mkr "Fuel") rfl)
theorem mk_Frame (T : Txt w K mg) : Mk K (ga K "Frame") (ma K (ga K "Frame") "__init__") := mkr_ok (T.f 93 (f := .mkr "Frame") rfl)
theorem mk_CodeRun (T : Txt w K mg) : Mk K (ga K "CodeRun") (ma K (ga K "CodeRun") "__init__") := mkr_ok (T.f 94 (f := .mkr "CodeRun") rfl)
theorem me_Events_put (T : Txt w K mg) : Meth K (ga K "Events") "put" (ma K (ga K "Events") "put") := meth_ok (T.f 95 (f := .meth "Events" "put") rfl)
theorem me_Events_get (T : Txt w K mg) : Meth K (ga K "Events") "get" (ma K (ga K "Events") "get") := meth_ok (T.f 96 (f := .meth "Events" "get") rfl)
theorem me_Fuel_tick (T : Txt w K mg) : Meth K (ga K "Fuel") "tick" (ma K (ga K "Fuel") "tick") := meth_ok (T.f 97 (f := .meth "Fuel" "tick") rfl)
theorem me_Frame_value (T : Txt w K mg) : Meth K (ga K "Frame") "value" (ma K (ga K "Frame") "value") := meth_ok (T.f 98 (f := .meth "Frame" "value") rfl)
theorem me_Frame_outer (T : Txt w K mg) : Meth K (ga K "Frame") "outer" (ma K (ga K "Frame") "outer") := meth_ok (T.f 99 (f := .meth "Frame" "outer") rfl)
theorem me_CodeRun_note (T : Txt w K mg) : Meth K (ga K "CodeRun") "note" (ma K (ga K "CodeRun") "note") := meth_ok (T.f 100 (f := .meth "CodeRun" "note") rfl)
theorem ex_NoInput (T : Txt w K mg) : PySem.W.excIn K (ga K "NoInput") veBase "ValueError.__new__" = true ∧ PySem.W.keepIn K (.ref (ga K "NoInput")) = true ∧ PySem.W.subIn K (.ref (ga K "NoInput")) (.type "BaseException") = some true ∧ PySem.W.typeIn K (.ref (ga K "NoInput")) = some (.type "type") := exc_ok (T.f 101 (f := .exc "NoInput") rfl)
theorem ex_OutOfFuel (T : Txt w K mg) : PySem.W.excIn K (ga K "OutOfFuel") veBase "ValueError.__new__" = true ∧ PySem.W.keepIn K (.ref (ga K "OutOfFuel")) = true ∧ PySem.W.subIn K (.ref (ga K "OutOfFuel")) (.type "BaseException") = some true ∧ PySem.W.typeIn K (.ref (ga K "OutOfFuel")) = some (.type "type") := exc_ok (T.f 102 (f := .exc "OutOfFuel") rfl)
theorem ex_CodeFault (T : Txt w K mg) : PySem.W.excIn K (ga K "CodeFault") veBase "ValueError.__new__" = true ∧ PySem.W.keepIn K (.ref (ga K "CodeFault")) = true ∧ PySem.W.subIn K (.ref (ga K "CodeFault")) (.type "BaseException") = some true ∧ PySem.W.typeIn K (.ref (ga K "CodeFault")) = some (.type "type") := exc_ok (T.f 103 (f := .exc "CodeFault") rfl)
theorem ex_Overflow (T : Txt w K mg) : PySem.W.excIn K (ga K "Overflow") veBase "ValueError.__new__" = true ∧ PySem.W.keepIn K (.ref (ga K "Overflow")) = true ∧ PySem.W.subIn K (.ref (ga K "Overflow")) (.type "BaseException") = some true ∧ PySem.W.typeIn K (.ref (ga K "Overflow")) = some (.type "type") := exc_ok (T.f 104 (f := .exc "Overflow") rfl)
theorem ex_DivisionByZero (T : Txt w K mg) : PySem.W.excIn K (ga K "DivisionByZero") veBase "ValueError.__new__" = true ∧ PySem.W.keepIn K (.ref (ga K "DivisionByZero")) = true ∧ PySem.W.subIn K (.ref (ga K "DivisionByZero")) (.type "BaseException") = some true ∧ PySem.W.typeIn K (.ref (ga K "DivisionByZero")) = some (.type "type") := exc_ok (T.f 105 (f := .exc "DivisionByZero") rfl)
theorem na_Unit_parent (T : Txt w K mg) : NoAttr K (ga K "Unit") "parent" := noat_ok (T.f 106 (f := .noat "Unit" "parent") rfl)
theorem na_Unit_arguments (T : Txt w K mg) : NoAttr K (ga K "Unit") "arguments" := noat_ok (T.f 107 (f := .noat "Unit" "arguments") rfl)
theorem na_Unit_results (T : Txt w K mg) : NoAttr K (ga K "Unit") "results" := noat_ok (T.f 108 (f := .noat "Unit" "results") rfl)
theorem na_Unit_registers (T : Txt w K mg) : NoAttr K (ga K "Unit") "registers" := noat_ok (T.f 109 (f := .noat "Unit" "registers") rfl)
theorem na_Unit_cells (T : Txt w K mg) : NoAttr K (ga K "Unit") "cells" := noat_ok (T.f 110 (f := .noat "Unit" "cells") rfl)
theorem na_Unit_code (T : Txt w K mg) : NoAttr K (ga K "Unit") "code" := noat_ok (T.f 111 (f := .noat "Unit" "code") rfl)
theorem na_Unit_regions (T : Txt w K mg) : NoAttr K (ga K "Unit") "regions" := noat_ok (T.f 112 (f := .noat "Unit" "regions") rfl)
theorem na_Module_units (T : Txt w K mg) : NoAttr K (ga K "Module") "units" := noat_ok (T.f 113 (f := .noat "Module" "units") rfl)
theorem na_Module_names (T : Txt w K mg) : NoAttr K (ga K "Module") "names" := noat_ok (T.f 114 (f := .noat "Module" "names") rfl)
theorem na_Module_places (T : Txt w K mg) : NoAttr K (ga K "Module") "places" := noat_ok (T.f 115 (f := .noat "Module" "places") rfl)
theorem na_Events_inputs (T : Txt w K mg) : NoAttr K (ga K "Events") "inputs" := noat_ok (T.f 116 (f := .noat "Events" "inputs") rfl)
theorem na_Events_taken (T : Txt w K mg) : NoAttr K (ga K "Events") "taken" := noat_ok (T.f 117 (f := .noat "Events" "taken") rfl)
theorem na_Events_made (T : Txt w K mg) : NoAttr K (ga K "Events") "made" := noat_ok (T.f 118 (f := .noat "Events" "made") rfl)
theorem na_Fuel_units (T : Txt w K mg) : NoAttr K (ga K "Fuel") "units" := noat_ok (T.f 119 (f := .noat "Fuel" "units") rfl)
theorem na_Frame_number (T : Txt w K mg) : NoAttr K (ga K "Frame") "number" := noat_ok (T.f 120 (f := .noat "Frame" "number") rfl)
theorem na_Frame_unit (T : Txt w K mg) : NoAttr K (ga K "Frame") "unit" := noat_ok (T.f 121 (f := .noat "Frame" "unit") rfl)
theorem na_Frame_parent (T : Txt w K mg) : NoAttr K (ga K "Frame") "parent" := noat_ok (T.f 122 (f := .noat "Frame" "parent") rfl)
theorem na_Frame_depth (T : Txt w K mg) : NoAttr K (ga K "Frame") "depth" := noat_ok (T.f 123 (f := .noat "Frame" "depth") rfl)
theorem na_Frame_registers (T : Txt w K mg) : NoAttr K (ga K "Frame") "registers" := noat_ok (T.f 124 (f := .noat "Frame" "registers") rfl)
theorem na_Frame_cells (T : Txt w K mg) : NoAttr K (ga K "Frame") "cells" := noat_ok (T.f 125 (f := .noat "Frame" "cells") rfl)
theorem na_CodeRun_module (T : Txt w K mg) : NoAttr K (ga K "CodeRun") "module" := noat_ok (T.f 126 (f := .noat "CodeRun" "module") rfl)
theorem na_CodeRun_events (T : Txt w K mg) : NoAttr K (ga K "CodeRun") "events" := noat_ok (T.f 127 (f := .noat "CodeRun" "events") rfl)
theorem na_CodeRun_fuel (T : Txt w K mg) : NoAttr K (ga K "CodeRun") "fuel" := noat_ok (T.f 128 (f := .noat "CodeRun" "fuel") rfl)
theorem na_CodeRun_limit (T : Txt w K mg) : NoAttr K (ga K "CodeRun") "limit" := noat_ok (T.f 129 (f := .noat "CodeRun" "limit") rfl)
theorem na_CodeRun_seen (T : Txt w K mg) : NoAttr K (ga K "CodeRun") "seen" := noat_ok (T.f 130 (f := .noat "CodeRun" "seen") rfl)
theorem g_Unit (T : Txt w K mg) : mg "Unit" = some (.ref (ga K "Unit")) := T.g "Unit" (by decide +kernel)
theorem g_Module (T : Txt w K mg) : mg "Module" = some (.ref (ga K "Module")) := T.g "Module" (by decide +kernel)
theorem g_AdaError (T : Txt w K mg) : mg "AdaError" = some (.ref (ga K "AdaError")) := T.g "AdaError" (by decide +kernel)
theorem g_NORMAL (T : Txt w K mg) : mg "NORMAL" = some (.ref (ga K "NORMAL")) := T.g "NORMAL" (by decide +kernel)
theorem g_EXHAUSTED (T : Txt w K mg) : mg "EXHAUSTED" = some (.ref (ga K "EXHAUSTED")) := T.g "EXHAUSTED" (by decide +kernel)
theorem g_FAULT (T : Txt w K mg) : mg "FAULT" = some (.ref (ga K "FAULT")) := T.g "FAULT" (by decide +kernel)
theorem g_NoInput (T : Txt w K mg) : mg "NoInput" = some (.ref (ga K "NoInput")) := T.g "NoInput" (by decide +kernel)
theorem g_OutOfFuel (T : Txt w K mg) : mg "OutOfFuel" = some (.ref (ga K "OutOfFuel")) := T.g "OutOfFuel" (by decide +kernel)
theorem g_Events (T : Txt w K mg) : mg "Events" = some (.ref (ga K "Events")) := T.g "Events" (by decide +kernel)
theorem g_Fuel (T : Txt w K mg) : mg "Fuel" = some (.ref (ga K "Fuel")) := T.g "Fuel" (by decide +kernel)
theorem g_Overflow (T : Txt w K mg) : mg "Overflow" = some (.ref (ga K "Overflow")) := T.g "Overflow" (by decide +kernel)
theorem g_DivisionByZero (T : Txt w K mg) : mg "DivisionByZero" = some (.ref (ga K "DivisionByZero")) := T.g "DivisionByZero" (by decide +kernel)
theorem g_CodeRaised (T : Txt w K mg) : mg "CodeRaised" = some (.ref (ga K "CodeRaised")) := T.g "CodeRaised" (by decide +kernel)
theorem g_CodeFault (T : Txt w K mg) : mg "CodeFault" = some (.ref (ga K "CodeFault")) := T.g "CodeFault" (by decide +kernel)
theorem g_Frame (T : Txt w K mg) : mg "Frame" = some (.ref (ga K "Frame")) := T.g "Frame" (by decide +kernel)
theorem g_CodeRun (T : Txt w K mg) : mg "CodeRun" = some (.ref (ga K "CodeRun")) := T.g "CodeRun" (by decide +kernel)
theorem g_ARITHMETIC (T : Txt w K mg) : mg "ARITHMETIC" = some (.ref (ga K "ARITHMETIC")) := T.g "ARITHMETIC" (by decide +kernel)
theorem g_ACTIONS (T : Txt w K mg) : mg "ACTIONS" = some (.ref (ga K "ACTIONS")) := T.g "ACTIONS" (by decide +kernel)
theorem g_region_of (T : Txt w K mg) : mg "region_of" = some (.ref (ga K "region_of")) := T.g "region_of" (by decide +kernel)
theorem g_raised (T : Txt w K mg) : mg "raised" = some (.ref (ga K "raised")) := T.g "raised" (by decide +kernel)
theorem g_fits (T : Txt w K mg) : mg "fits" = some (.ref (ga K "fits")) := T.g "fits" (by decide +kernel)
theorem g_checked (T : Txt w K mg) : mg "checked" = some (.ref (ga K "checked")) := T.g "checked" (by decide +kernel)
theorem g_quotient (T : Txt w K mg) : mg "quotient" = some (.ref (ga K "quotient")) := T.g "quotient" (by decide +kernel)
theorem g_divide (T : Txt w K mg) : mg "divide" = some (.ref (ga K "divide")) := T.g "divide" (by decide +kernel)
theorem g_arithmetic (T : Txt w K mg) : mg "arithmetic" = some (.ref (ga K "arithmetic")) := T.g "arithmetic" (by decide +kernel)
theorem g_negate (T : Txt w K mg) : mg "negate" = some (.ref (ga K "negate")) := T.g "negate" (by decide +kernel)
theorem g_absolute (T : Txt w K mg) : mg "absolute" = some (.ref (ga K "absolute")) := T.g "absolute" (by decide +kernel)
theorem g_compute (T : Txt w K mg) : mg "compute" = some (.ref (ga K "compute")) := T.g "compute" (by decide +kernel)
theorem g_element_index (T : Txt w K mg) : mg "element_index" = some (.ref (ga K "element_index")) := T.g "element_index" (by decide +kernel)
theorem g_run_load (T : Txt w K mg) : mg "run_load" = some (.ref (ga K "run_load")) := T.g "run_load" (by decide +kernel)
theorem g_run_store (T : Txt w K mg) : mg "run_store" = some (.ref (ga K "run_store")) := T.g "run_store" (by decide +kernel)
theorem g_run_check (T : Txt w K mg) : mg "run_check" = some (.ref (ga K "run_check")) := T.g "run_check" (by decide +kernel)
theorem g_run_again (T : Txt w K mg) : mg "run_again" = some (.ref (ga K "run_again")) := T.g "run_again" (by decide +kernel)
theorem g_run_get (T : Txt w K mg) : mg "run_get" = some (.ref (ga K "run_get")) := T.g "run_get" (by decide +kernel)
theorem g_run_call (T : Txt w K mg) : mg "run_call" = some (.ref (ga K "run_call")) := T.g "run_call" (by decide +kernel)
theorem g_step (T : Txt w K mg) : mg "step" = some (.ref (ga K "step")) := T.g "step" (by decide +kernel)
theorem g_run_frame (T : Txt w K mg) : mg "run_frame" = some (.ref (ga K "run_frame")) := T.g "run_frame" (by decide +kernel)
theorem g_run_noting (T : Txt w K mg) : mg "run_noting" = some (.ref (ga K "run_noting")) := T.g "run_noting" (by decide +kernel)
theorem g_run_module (T : Txt w K mg) : mg "run_module" = some (.ref (ga K "run_module")) := T.g "run_module" (by decide +kernel)
theorem g_trace_module (T : Txt w K mg) : mg "trace_module" = some (.ref (ga K "trace_module")) := T.g "trace_module" (by decide +kernel)
theorem g_law_start (T : Txt w K mg) : mg "_law_start" = some (.ref (ga K "_law_start")) := T.g "_law_start" (by decide +kernel)
theorem g_law_take (T : Txt w K mg) : mg "_law_take" = some (.ref (ga K "_law_take")) := T.g "_law_take" (by decide +kernel)
theorem g_law_place (T : Txt w K mg) : mg "_law_place" = some (.ref (ga K "_law_place")) := T.g "_law_place" (by decide +kernel)
theorem g_law_operand (T : Txt w K mg) : mg "_law_operand" = some (.ref (ga K "_law_operand")) := T.g "_law_operand" (by decide +kernel)
theorem g_law_target (T : Txt w K mg) : mg "_law_target" = some (.ref (ga K "_law_target")) := T.g "_law_target" (by decide +kernel)
theorem g_law_around (T : Txt w K mg) : mg "_law_around" = some (.ref (ga K "_law_around")) := T.g "_law_around" (by decide +kernel)
theorem g_law_memory (T : Txt w K mg) : mg "_law_memory" = some (.ref (ga K "_law_memory")) := T.g "_law_memory" (by decide +kernel)
theorem g_law_call (T : Txt w K mg) : mg "_law_call" = some (.ref (ga K "_law_call")) := T.g "_law_call" (by decide +kernel)
theorem g_law_instruction (T : Txt w K mg) : mg "_law_instruction" = some (.ref (ga K "_law_instruction")) := T.g "_law_instruction" (by decide +kernel)
theorem g_law_regions (T : Txt w K mg) : mg "_law_regions" = some (.ref (ga K "_law_regions")) := T.g "_law_regions" (by decide +kernel)
theorem g_law_unit (T : Txt w K mg) : mg "_law_unit" = some (.ref (ga K "_law_unit")) := T.g "_law_unit" (by decide +kernel)
theorem g_law_shapes (T : Txt w K mg) : mg "_law_shapes" = some (.ref (ga K "_law_shapes")) := T.g "_law_shapes" (by decide +kernel)
theorem g_law_module (T : Txt w K mg) : mg "_law_module" = some (.ref (ga K "_law_module")) := T.g "_law_module" (by decide +kernel)
theorem g_law_exact (T : Txt w K mg) : mg "_law_exact" = some (.ref (ga K "_law_exact")) := T.g "_law_exact" (by decide +kernel)
theorem g_law_value (T : Txt w K mg) : mg "_law_value" = some (.ref (ga K "_law_value")) := T.g "_law_value" (by decide +kernel)
theorem g_law_outer (T : Txt w K mg) : mg "_law_outer" = some (.ref (ga K "_law_outer")) := T.g "_law_outer" (by decide +kernel)
theorem g_law_compute (T : Txt w K mg) : mg "_law_compute" = some (.ref (ga K "_law_compute")) := T.g "_law_compute" (by decide +kernel)
theorem g_law_cells (T : Txt w K mg) : mg "_law_cells" = some (.ref (ga K "_law_cells")) := T.g "_law_cells" (by decide +kernel)
theorem g_law_again (T : Txt w K mg) : mg "_law_again" = some (.ref (ga K "_law_again")) := T.g "_law_again" (by decide +kernel)
theorem g_law_step (T : Txt w K mg) : mg "_law_step" = some (.ref (ga K "_law_step")) := T.g "_law_step" (by decide +kernel)
theorem g_law_enter (T : Txt w K mg) : mg "_law_enter" = some (.ref (ga K "_law_enter")) := T.g "_law_enter" (by decide +kernel)
theorem g_law_region (T : Txt w K mg) : mg "_law_region" = some (.ref (ga K "_law_region")) := T.g "_law_region" (by decide +kernel)
theorem g_law_run (T : Txt w K mg) : mg "_law_run" = some (.ref (ga K "_law_run")) := T.g "_law_run" (by decide +kernel)
theorem g_law_begin (T : Txt w K mg) : mg "_law_begin" = some (.ref (ga K "_law_begin")) := T.g "_law_begin" (by decide +kernel)
theorem g_law_alike (T : Txt w K mg) : mg "_law_alike" = some (.ref (ga K "_law_alike")) := T.g "_law_alike" (by decide +kernel)
theorem g_law (T : Txt w K mg) : mg "law" = some (.ref (ga K "law")) := T.g "law" (by decide +kernel)
theorem b_len (T : Txt w K mg) : mg "len" = none := T.fr "len" (by decide +kernel)
theorem b_abs (T : Txt w K mg) : mg "abs" = none := T.fr "abs" (by decide +kernel)
theorem b_int (T : Txt w K mg) : mg "int" = none := T.fr "int" (by decide +kernel)
theorem b_list (T : Txt w K mg) : mg "list" = none := T.fr "list" (by decide +kernel)
theorem b_tuple (T : Txt w K mg) : mg "tuple" = none := T.fr "tuple" (by decide +kernel)
theorem b_range (T : Txt w K mg) : mg "range" = none := T.fr "range" (by decide +kernel)
theorem b_zip (T : Txt w K mg) : mg "zip" = none := T.fr "zip" (by decide +kernel)
theorem b_enumerate (T : Txt w K mg) : mg "enumerate" = none := T.fr "enumerate" (by decide +kernel)
theorem b_isinstance (T : Txt w K mg) : mg "isinstance" = none := T.fr "isinstance" (by decide +kernel)
theorem b_str (T : Txt w K mg) : mg "str" = none := T.fr "str" (by decide +kernel)
theorem b_bool (T : Txt w K mg) : mg "bool" = none := T.fr "bool" (by decide +kernel)
end
end WX
/-! ## WHook -/
set_option Elab.async false
set_option linter.all false
set_option maxRecDepth 100000
set_option maxHeartbeats 2000000
/-! The head's hook: all that the defs lean on, read off the top's heap. -/
namespace WX
open PySem PySem.Spec PyProof.Rows L2 He
/-- an exception class of the program's own, with an __init__ -/
def exnB (K : PySem.W.Frag) (C : Addr) : Bool := (match K.lookup C with
    | some ⟨.type ty, _, .cls z, sl⟩ => (match z.mro, sl.toList with
      | .ref D :: up, [_, _, _, _, some (.builtin mk), _] => decide (ty = "type") && (decide (D = C) && (decide (mk = "ValueError.__new__") && (z.hasDict && (!z.hasDel && PySem.HandSPX.refsVE up))))
      | _, _ => false)
    | _ => false) &&
  (eqO (PySem.W.findIn K (.ref C) "__setattr__") (some (some (.builtin "object.__setattr__"))) && (decide (PySem.W.subIn K (.ref C) (.type "BaseException") = some true) && (decide (PySem.W.typeIn K (.ref C) = some (.type "type")) && PySem.W.keepIn K (.ref C))))
theorem exnB_ok {K : PySem.W.Frag} {C : Addr} (h : exnB K C = true) : OexC K C := by
  obtain ⟨h0, h⟩ := ba h
  obtain ⟨h1, h⟩ := ba h
  obtain ⟨h2, h⟩ := ba h
  obtain ⟨h3, h4⟩ := ba h
  refine ⟨?_, eqO_ok h1, of_decide_eq_true h2, of_decide_eq_true h3, h4⟩
  cases e : K.lookup C with
  | none => rw [e] at h0; cases h0
  | some o =>
    rw [e] at h0
    obtain ⟨oc, od, dt, sl⟩ := o
    cases oc <;> try (cases h0)
    rename_i ty
    cases dt <;> try (cases h0)
    rename_i z
    obtain ⟨nm, bs, mro, ns, qn, hd, sn, sub, ab, col, del⟩ := z
    obtain ⟨l⟩ := sl
    dsimp only at h0
    split at h0
    · rename_i x1 x2 D up k0 k1 k2 k3 mk k5
      obtain ⟨a1, h0⟩ := ba h0
      obtain ⟨a2, h0⟩ := ba h0
      obtain ⟨a3, h0⟩ := ba h0
      obtain ⟨a4, h0⟩ := ba h0
      obtain ⟨a5, a6⟩ := ba h0
      have b1 := of_decide_eq_true a1
      have b2 := of_decide_eq_true a2
      have b3 := of_decide_eq_true a3
      subst b1 b2 b3
      cases hd with
      | false => cases a4
      | true =>
        cases del with
        | true => cases a5
        | false => exact ⟨nm, qn, ns, bs, up, sn, sub, ab, col, od, k0, k1, k2, k3, k5, rfl, a6⟩
    · cases h0
/-- the property's getter -/
def gfA (K : PySem.W.Frag) : Addr := match PySem.W.recIn K (ma K (ga K "Events") "rows") "property" with
  | some (.ref g :: _) => g
  | _ => 0
def recB (K : PySem.W.Frag) : Bool := match PySem.W.recIn K (ma K (ga K "Events") "rows") "property" with
  | some (.ref g :: _) => true
  | _ => false
def codeB (K : PySem.W.Frag) : Bool := match K.lookup (gfA K) with
  | some ⟨_, _, .func fd, _⟩ => PySem.W.codeIn K fd.code "Events.rows" && dflB K fd.defaults []
  | _ => false
def prB (K : PySem.W.Frag) : Bool := eqO (PySem.W.findIn K (.ref (ga K "Events")) "rows") (some (some (.ref (ma K (ga K "Events") "rows")))) &&
  (eqO (PySem.W.specialIn K (.ref (ma K (ga K "Events") "rows")) "__get__") (some (some (.builtin "property.__get__"))) && (decide (PySem.W.takesIn K (.ref (ma K (ga K "Events") "rows")) = some true) && (recB K && (PySem.W.keepIn K (.ref (gfA K)) && codeB K))))
/-- what the function object at a says -/
def fnA (K : PySem.W.Frag) (a : Addr) : FnW := match K.lookup a with
  | some ⟨_, _, .func z, _⟩ => some (z.name, z.qualname, z.params, z.body, z.scope, z.globals, z.closure, z.builtins)
  | _ => none
def d_rows : DefD := ⟨("rows", none), "rows", "Events.rows", defArgs st_Events_rows, defBody st_Events_rows, defScope st_Events_rows, [], []⟩
theorem prB_ok {K : PySem.W.Frag} (h : prB K = true) (e : fnA K (gfA K) = d_rows.val) : ∃ p gf fd, PropOf K (ga K "Events") "rows" p gf ∧ FunD K "rows" "Events.rows" (defArgs st_Events_rows) (defBody st_Events_rows) (defScope st_Events_rows) [] [] gf fd := by
  obtain ⟨h1, h⟩ := ba h
  obtain ⟨h2, h⟩ := ba h
  obtain ⟨h3, h⟩ := ba h
  obtain ⟨h4, h⟩ := ba h
  obtain ⟨h5, h6⟩ := ba h
  have hf : ∃ fd, FunD K "rows" "Events.rows" (defArgs st_Events_rows) (defBody st_Events_rows) (defScope st_Events_rows) [] [] (gfA K) fd := by
    unfold codeB at h6
    unfold fnA at e
    cases q : K.lookup (gfA K) with
    | none => rw [q] at h6; cases h6
    | some o =>
      obtain ⟨oc, od, dt, osl⟩ := o
      rw [q] at h6 e
      cases dt <;> try (cases h6)
      rename_i z
      obtain ⟨k1, k2⟩ := ba h6
      obtain ⟨n1, n2, n3, n4, n5, n6, n7, n8, n9, n10, n11, n12, n13, n14, n15⟩ := z
      have e2 : (some (n1, n2, n3, n4, n5, n6, n7, n15) : FnW) = some (d_rows.name, d_rows.qual, d_rows.params, .stmts d_rows.body, d_rows.scope, mainGlobals, [], builtinsNs) := e
      simp only [Option.some.injEq, Prod.mk.injEq] at e2
      obtain ⟨g1, g2, g3, g4, g5, g6, g7, g8⟩ := e2
      subst g1 g2 g3 g4 g5 g6 g7 g8
      exact ⟨_, ⟨oc, od, n8, n9, n10, n11, n12, n13, n14, osl, rfl, q, k1, dflB_ok k2, kwdB_ok (kws := []) rfl⟩, h5⟩
  obtain ⟨fd, hf⟩ := hf
  refine ⟨_, _, fd, ⟨eqO_ok h1, eqO_ok h2, of_decide_eq_true h3, ?_⟩, hf⟩
  unfold recB at h4
  unfold gfA
  split at h4
  · rename_i g rest er
    rw [er]
    exact ⟨rest, rfl⟩
  · cases h4
def vnL : List Str := ["move", "neg", "abs", "less", "equal", "add", "sub", "mul", "div", "mod", "rem"]
def emL : List (Str × Str × Bool) := [("CodeRaised", "CodeRaised", true), ("OutOfFuel", "CodeRaised", false), ("CodeFault", "CodeRaised", false), ("OutOfFuel", "OutOfFuel", true), ("CodeFault", "OutOfFuel", false), ("CodeRaised", "OutOfFuel", false), ("CodeFault", "CodeFault", true), ("CodeRaised", "CodeFault", false), ("NoInput", "NoInput", true)]
def exA (K : PySem.W.Frag) : Bool := tupB K "NORMAL" [.str "normal"] && (tupB K "EXHAUSTED" [.str "exhausted"] && (tupB K "FAULT" [.str "fault"] && (valsB K (ga K "ARITHMETIC") valsA && (valsB K (ga K "ACTIONS") valsC && (vnL.all fun z => eqO (PySem.W.nsIn K (ga K "ACTIONS") z) (some none))))))
def exC (K : PySem.W.Frag) : Bool := exnB K (ga K "CodeRaised") && (eqO (PySem.W.findIn K (.ref (ga K "CodeRaised")) "__init__") (some (some (.ref (ma K (ga K "CodeRaised") "__init__")))) && (decide (PySem.W.typeIn K (.ref (ma K (ga K "CodeRaised") "__init__")) = some (.type "function")) &&
  (eqO (PySem.W.findIn K (.ref (ga K "CodeRaised")) "number") (some none) && (eqO (PySem.W.findIn K (.ref (ga K "CodeRaised")) "place") (some none) && xfB K (ga K "CodeRaised")))))
def exD (K : PySem.W.Frag) : Bool := (emL.all fun q => decide (PySem.W.exmOne K (.ref (ga K q.1)) (.ref (ga K q.2.1)) = some q.2.2)) && ((["Overflow", "DivisionByZero"] : List Str).all fun x => decide (PySem.W.exmAny K (.ref (ga K x)) [.ref (ga K "Overflow"), .ref (ga K "DivisionByZero")] = some true))
def exB (K : PySem.W.Frag) : Bool := exA K && (exC K && (exD K && prB K))
theorem txt_of {w : World} {K : PySem.W.Frag} {mg : Str → Option Value} {h : Heap} (X : K.In h) (G : h.Ns mainGlobals mg) (c : SaysT fa fn ts w K) (e : exB K = true) (r : fnA K (gfA K) = d_rows.val) : Txt w K mg := by
  obtain ⟨eA, e⟩ := ba e
  obtain ⟨eC, e⟩ := ba e
  obtain ⟨eD, eP⟩ := ba e
  obtain ⟨a1, eA⟩ := ba eA
  obtain ⟨a2, eA⟩ := ba eA
  obtain ⟨a3, eA⟩ := ba eA
  obtain ⟨a4, eA⟩ := ba eA
  obtain ⟨a5, a6⟩ := ba eA
  obtain ⟨c1, eC⟩ := ba eC
  obtain ⟨c2, eC⟩ := ba eC
  obtain ⟨c3, eC⟩ := ba eC
  obtain ⟨c4, eC⟩ := ba eC
  obtain ⟨c5, c6⟩ := ba eC
  obtain ⟨d1, d2⟩ := ba eD
  have all : ∀ f ∈ fa, f.ok K = true := fun f hf => by
    obtain ⟨i, hi⟩ := List.getElem?_of_mem hf
    exact c.d.fact i hi
  exact { c := c
          g := fun x hx => glo_ok X G (all (.glo x) (List.mem_append_left _ (List.mem_map_of_mem hx)))
          fr := fun x hx => free_ok X G (all (.free x) (List.mem_append_right _ (List.mem_append_left _ (List.mem_map_of_mem hx))))
          i := fun x j q => int_ok X G q
          tn := a1
          te := a2
          tf := a3
          va := a4
          vb := a5
          vn := fun z hz => eqO_ok (List.all_eq_true.mp a6 z hz)
          ox := exnB_ok c1
          oi := eqO_ok c2
          ot := of_decide_eq_true c3
          on := ⟨eqO_ok c4, eqO_ok c5⟩
          xf := xfB_ok c6
          em := fun x y b hm => of_decide_eq_true (List.all_eq_true.mp d1 (x, y, b) hm)
          ea := fun x hx => of_decide_eq_true (List.all_eq_true.mp d2 x hx)
          pr := prB_ok eP r }
/-! ### the hook -/
abbrev AlW : Type := AlT × (Bool × FnW)
def lookW (K : PySem.W.Frag) : AlW := (obsT fa fn ts K, exB K, fnA K (gfA K))
/-- what an object leads to: a dict's values, a class's names, a function's code, a property's getter -/
def kidsW (o : Obj) : List Addr := match o.data with
  | .func z => refV z.code
  | .cls z => [z.ns]
  | .dict es _ => es.toList.flatMap fun e => refV e.val
  | .fields vs => (match Nat.ble vs.size 8 with
    | true => vs.toList.flatMap refV
    | false => [])
  | _ => []
def growW (g : Addr → Option Obj) : Nat → List Addr → List Addr
  | 0, l => l
  | n + 1, l => l ++ growW g n (l.flatMap fun a => match g a with
    | some o => kidsW o
    | none => [])
def obsW (g : Addr → Option Obj) : AlW := lookW (frG g (growW g 5 [mainGlobals]))
def valW (w : World) : AlW := (valT fn ts w, true, d_rows.val)
def hookW : PySem.W.Hook where
  α := AlW
  obs := fun s => obsW s.heap.get?
  val := fun w => valW w
  says := fun w h => ∃ K : PySem.W.Frag, K.In h ∧ lookW K = valW w
  of := fun _ _ e => ⟨_, frG_in, e⟩
  keeps := fun _ _ _ ⟨K, hK, c⟩ k => ⟨K, PySem.W.Frag.In.keeps hK k, c⟩
theorem obsW_eq {g : Addr → Option Obj} {s : Shared} (h : ∀ a, g a = s.heap.get? a) : obsW g = hookW.obs s := by
  have e : g = s.heap.get? := funext h
  rw [e] <;> rfl
end WX
/-! ## WHead -/
set_option Elab.async false
set_option linter.all false
set_option maxRecDepth 100000
set_option maxHeartbeats 0
/-! The head: the top's run, at both answers of the one row that it asks. -/
namespace WX
open PySem PySem.W PySem.Calls PyProof.Rows
abbrev RR : OpenRow := OpenLaw.row PySem.Challenge.rw_windowada_k33_whole_run_and_trace
def names0 : List PySem.Str := ["_wall", "ARITHMETIC", "Unit", "Module", "region_of", "AdaError", "NORMAL", "EXHAUSTED", "FAULT", "CONSTRAINT", "STORAGE", "END", "DEPTH_LIMIT", "NoInput", "OutOfFuel", "Events", "Fuel", "raised", "MIN", "MAX", "Overflow", "DivisionByZero", "fits", "checked", "quotient", "divide", "arithmetic", "negate", "absolute", "CodeRaised"]
def names1 : List PySem.Str := ["CodeFault", "Frame", "CodeRun", "compute", "element_index", "run_load", "run_store", "run_check", "run_again", "run_get", "run_call", "step", "run_frame", "run_noting", "run_module", "ACTIONS", "trace_module", "_law_start", "_law_take", "_law_place", "_law_operand", "_law_target", "_law_around", "_law_memory", "_law_call", "_law_instruction", "_law_regions", "_law_unit", "_law_shapes", "_law_module"]
def names2 : List PySem.Str := ["_law_exact", "_law_value", "_law_outer", "_law_compute", "_law_cells", "_law_again", "_law_step", "_law_enter", "_law_region", "_law_run", "_law_begin", "_law_alike"]
def names : List PySem.Str := names0 ++ names1 ++ names2
abbrev qv : Program := view RR.prog [79]
def ob (s : SharedT) : AlW := obsW (HandSHeadRun.getT s)
theorem ob_eq (s : SharedT) : ob s = hookW.obs s.abs := obsW_eq (HandSHeadRun.getT_eq s)
theorem runF (w : World) : HandSHeadRun.RunEq RR qv hookW ob 6000 names (w.withFollow "special-get-raises" false) := by
  intro os
  kernel_rfl
theorem runT (w : World) : HandSHeadRun.RunEq RR qv hookW ob 6000 names (w.withFollow "special-get-raises" true) := by
  intro os
  kernel_rfl
theorem run (w : World) : HandSHeadRun.RunEq RR qv hookW ob 6000 names w := byRow2 (P := fun w => HandSHeadRun.RunEq RR qv hookW ob 6000 names w) "special-get-raises" runF runT w
end WX
/-! ## WRep -/
set_option Elab.async false
set_option linter.all false
set_option maxRecDepth 100000
set_option maxHeartbeats 2000000
/-! How the module, the run and its frames lie in the heap; what a step leaves alone. -/
namespace WX
open PySem PySem.Spec PyProof.Rows L2 He
open Wn (Op Ar Ins Rg Un Mod G Out Nx)
/-! ### two lists side by side -/
def All2 {α β : Type} (R : α → β → Prop) (l : List α) (m : List β) : Prop := l.length = m.length ∧ ∀ (i : Nat) (a : α) (b : β), l[i]? = some a → m[i]? = some b → R a b
section
variable {α β : Type} {R R' : α → β → Prop} {l : List α} {m : List β}
theorem All2.nil : All2 R [] [] := ⟨rfl, fun i a b h => by simp at h⟩
theorem All2.get (h : All2 R l m) {i : Nat} {b : β} (e : m[i]? = some b) : ∃ a, l[i]? = some a ∧ R a b := by
  have hi : i < l.length := by rw [h.1]; exact (List.getElem?_eq_some_iff.mp e).1
  exact ⟨l[i], List.getElem?_eq_getElem hi, h.2 i _ b (List.getElem?_eq_getElem hi) e⟩
theorem All2.get' (h : All2 R l m) {i : Nat} {a : α} (e : l[i]? = some a) : ∃ b, m[i]? = some b ∧ R a b := by
  have hi : i < m.length := by rw [← h.1]; exact (List.getElem?_eq_some_iff.mp e).1
  exact ⟨m[i], List.getElem?_eq_getElem hi, h.2 i a _ e (List.getElem?_eq_getElem hi)⟩
theorem All2.mono (h : All2 R l m) (f : ∀ a b, R a b → R' a b) : All2 R' l m := ⟨h.1, fun i a b e1 e2 => f a b (h.2 i a b e1 e2)⟩
theorem All2.cons {a : α} {b : β} (h1 : R a b) (h : All2 R l m) : All2 R (a :: l) (b :: m) := by
  refine ⟨congrArg Nat.succ h.1, fun i x y e1 e2 => ?_⟩
  cases i with
  | zero =>
    cases e1
    cases e2
    exact h1
  | succ i => exact h.2 i x y e1 e2
theorem All2.snoc {a : α} {b : β} (h : All2 R l m) (h1 : R a b) : All2 R (l ++ [a]) (m ++ [b]) := by
  refine ⟨by simp [h.1], fun i x y e1 e2 => ?_⟩
  by_cases hi : i < l.length
  · rw [List.getElem?_append_left hi] at e1
    rw [List.getElem?_append_left (by rw [← h.1]; exact hi)] at e2
    exact h.2 i x y e1 e2
  · rw [List.getElem?_append_right (by omega)] at e1
    rw [List.getElem?_append_right (by rw [← h.1]; omega), ← h.1] at e2
    have z : i - l.length = 0 := by
      have q := (List.getElem?_eq_some_iff.mp e1).1
      simp only [List.length_singleton] at q
      omega
    rw [z] at e1 e2
    cases e1
    cases e2
    exact h1
theorem All2.app {l' : List α} {m' : List β} (h : All2 R l m) (h' : All2 R l' m') : All2 R (l ++ l') (m ++ m') := by
  refine ⟨by simp [h.1, h'.1], fun i x y e1 e2 => ?_⟩
  by_cases hi : i < l.length
  · rw [List.getElem?_append_left hi] at e1
    rw [List.getElem?_append_left (by rw [← h.1]; exact hi)] at e2
    exact h.2 i x y e1 e2
  · rw [List.getElem?_append_right (by omega)] at e1
    rw [List.getElem?_append_right (by rw [← h.1]; omega), ← h.1] at e2
    exact h'.2 _ x y e1 e2
theorem All2.dropLast (h : All2 R l m) : All2 R l.dropLast m.dropLast := by
  refine ⟨by simp [h.1], fun i x y e1 e2 => ?_⟩
  have f : ∀ {γ : Type} {k : List γ} {z : γ}, k.dropLast[i]? = some z → k[i]? = some z := by
    intro γ k z e
    rw [List.getElem?_dropLast] at e
    split at e
    · exact e
    · cases e
  exact h.2 i x y (f e1) (f e2)
end
/-! ### what stands still -/
def frz : HO → Prop
  | .tup _ => True
  | .ins _ _ fs => (fs.lookup ("cells" : Str)).isSome = true ∨ (fs.lookup ("places" : Str)).isSome = true ∨ (fs.lookup ("seen" : Str)).isSome = true
  | .dK kvs => kvs.length = 4
  | _ => False
/-- all stays but what lies in S and isn't frozen -/
def ours : HO → Prop
  | .ext _ => False
  | _ => True
structure Stp (S : Addr → Prop) (H H' : Hp) : Prop where
  to : ∀ (a : Addr) (o : HO), H a = some o → (S a → frz o) → ours o → H' a = some o
theorem Stp.at {S : Addr → Prop} {H H' : Hp} {a : Addr} {o : HO} (h : Stp S H H') (e : H a = some o) (q : S a → frz o) (w : ours o := by exact True.intro) : H' a = some o := h.to a o e q w
/-- nothing of ours lies there -/
def New (H : Hp) (p : Addr) : Prop := ∀ o, ours o → H p ≠ some o
def S0 : Addr → Prop := fun _ => False
section
variable {S S' : Addr → Prop} {H H' H'' : Hp} {a : Addr} {o o' : HO}
theorem Stp.refl : Stp S H H := ⟨fun _ _ e _ _ => e⟩
theorem Stp.trans (h : Stp S H H') (h' : Stp S H' H'') : Stp S H H'' := ⟨fun a o e q w => h'.to a o (h.to a o e q w) q w⟩
theorem Stp.new (n : H a = none) : Stp S H (upd H a o) := ⟨fun b o' e _ _ => by rw [upd_ne (ne_of_none e n)]; exact e⟩
theorem Stp.put (e : H a = some o) (s : S a) (f : ¬ frz o) : Stp S H (upd H a o') := ⟨fun b u eb q _ => by
  by_cases z : b = a
  · rw [z, e] at eb
    cases eb
    exact absurd (q (by rw [z]; exact s)) f
  · rw [upd_ne z]; exact eb⟩
theorem Stp.mono (h : Stp S H H') (m : ∀ a, S a → S' a) : Stp S' H H' := ⟨fun a o e q w => h.to a o e (fun s => q (m a s)) w⟩
theorem Stp.less (h : Stp S H H') (m : ∀ a o, ours o → S a → H a = some o → S' a) : Stp S' H H' := ⟨fun a o e q w => h.to a o e (fun s => q (m a o w s e)) w⟩
theorem Stp.z (h : Stp S0 H H') : Stp S H H' := h.mono fun _ z => z.elim
theorem Stp.tup (h : Stp S H H') {xs : List V} (e : H a = some (.tup xs)) : H' a = some (.tup xs) := h.to a _ e (fun _ => trivial) trivial
theorem Stp.ne (h : Stp S H H') (e : H' a = none) (s : ¬ S a) : New H a := fun o w q => by
  have := h.to a o q (fun z => absurd z s) w
  rw [e] at this
  cases this
theorem New.of (n : H a = none) : New H a := fun o _ q => by rw [n] at q; cases q
theorem New.ne {b : Addr} (n : New H a) (e : H b = some o) (w : ours o := by exact True.intro) : b ≠ a := fun z => n o w (z ▸ e)
end
/-! ### the module -/
def opN : Op → Str
  | .reg _ => "reg"
  | .int _ => "int"
def opI : Op → Int
  | .reg i => i
  | .int w => w
def opV (H : Hp) (v : V) (x : Op) : Prop := ∃ a, v = .ref a ∧ H a = some (.tup [.str (opN x), .int (opI x)])
def opsV (H : Hp) (o : Addr) (xs : List Op) : Prop := ∃ vs, H o = some (.tup vs) ∧ All2 (opV H) vs xs
def arN : Ar → Str
  | .add => "add" | .sub => "sub" | .mul => "mul" | .div => "div" | .mod => "mod" | .rem => "rem"
def insN : Ins → Str
  | .tick => "tick" | .put _ => "put" | .jump _ => "jump" | .branch _ _ => "branch" | .raise _ _ => "raise" | .again _ _ => "again" | .get _ _ => "get"
  | .check _ _ _ _ => "check" | .load _ _ _ _ _ => "load" | .store _ _ _ _ _ => "store" | .call _ _ _ _ _ => "call" | .ret _ => "return"
  | .move _ _ => "move" | .neg _ _ _ => "neg" | .abs _ _ _ => "abs" | .less _ _ _ => "less" | .equal _ _ _ => "equal" | .ar a _ _ _ _ => arN a
def ns (l : List Nat) : List V := l.map fun d : Nat => V.int ((d : Nat) : Int)
def insF (H : Hp) (vs : List V) : Ins → Prop
  | .tick => vs = []
  | .put x => ∃ o, vs = [o] ∧ opV H o x
  | .jump t => vs = [.int t]
  | .branch x t => ∃ o, vs = [o, .int t] ∧ opV H o x
  | .raise n p => vs = [.int n, .int p]
  | .again x y => ∃ o q, vs = [o, q] ∧ opV H o x ∧ opV H q y
  | .get d p => vs = [.int d, .int p]
  | .check x lo hi p => ∃ o, vs = [o, .int lo, .int hi, .int p] ∧ opV H o x
  | .load d h c n x => ∃ o, vs = [.int d, .int h, .int c, .int n, o] ∧ opV H o x
  | .store h c n x y => ∃ o q, vs = [.int h, .int c, .int n, o, q] ∧ opV H o x ∧ opV H q y
  | .call u h as ds p => ∃ o q, vs = [.int u, .int h, .ref o, .ref q, .int p] ∧ opsV H o as ∧ H q = some (.tup (ns ds))
  | .ret xs => ∃ o, vs = [.ref o] ∧ opsV H o xs
  | .move d x => ∃ o, vs = [.int d, o] ∧ opV H o x
  | .neg d x p => ∃ o, vs = [.int d, o, .int p] ∧ opV H o x
  | .abs d x p => ∃ o, vs = [.int d, o, .int p] ∧ opV H o x
  | .less d x y => ∃ o q, vs = [.int d, o, q] ∧ opV H o x ∧ opV H q y
  | .equal d x y => ∃ o q, vs = [.int d, o, q] ∧ opV H o x ∧ opV H q y
  | .ar _ d x y p => ∃ o q, vs = [.int d, o, q, .int p] ∧ opV H o x ∧ opV H q y
def insV (H : Hp) (v : V) (x : Ins) : Prop := ∃ a vs, v = .ref a ∧ H a = some (.tup (.str (insN x) :: vs)) ∧ insF H vs x
def rgV (H : Hp) (v : V) (r : Rg) : Prop := ∃ a, v = .ref a ∧ H a = some (.tup [.int r.start, .int r.stop, .int r.entry, .int r.r1, .int r.r2])
structure UnAt (K : PySem.W.Frag) (H : Hp) (a : Addr) (U : Un) (dx : Addr) (fs : List (Str × V)) (c r : Addr) (cs rs : List V) : Prop where
  at_ : H a = some (.ins (ga K "Unit") dx fs)
  regs : fs.lookup ("registers" : Str) = some (.int U.regs)
  cells : fs.lookup ("cells" : Str) = some (.int U.cells)
  code : fs.lookup ("code" : Str) = some (.ref c)
  regions : fs.lookup ("regions" : Str) = some (.ref r)
  codeA : H c = some (.tup cs)
  rgA : H r = some (.tup rs)
  ins : All2 (insV H) cs U.code
  rgs : All2 (rgV H) rs U.rgs
def unV (K : PySem.W.Frag) (H : Hp) (v : V) (U : Un) : Prop := ∃ a dx fs c r cs rs, v = .ref a ∧ UnAt K H a U dx fs c r cs rs
def plV (H : Hp) (v : V) (p : Int × Int) : Prop := ∃ a, v = .ref a ∧ H a = some (.tup [.int p.1, .int p.2])
structure MoAt (K : PySem.W.Frag) (H : Hp) (mo : Addr) (m : Mod) (nms : List Str) (pls : List (Int × Int)) (dx : Addr) (fs : List (Str × V)) (t n p : Addr) (us ps : List V) : Prop where
  at_ : H mo = some (.ins (ga K "Module") dx fs)
  units : fs.lookup ("units" : Str) = some (.ref t)
  names : fs.lookup ("names" : Str) = some (.ref n)
  places : fs.lookup ("places" : Str) = some (.ref p)
  unA : H t = some (.tup us)
  naA : H n = some (.tup (nms.map V.str))
  plA : H p = some (.tup ps)
  un : All2 (unV K H) us m
  pl : All2 (plV H) ps pls
  n5 : nms.length = 5
  p5 : pls.length = 5
def moV (K : PySem.W.Frag) (H : Hp) (mo : Addr) (m : Mod) (nms : List Str) (pls : List (Int × Int)) : Prop := ∃ dx fs t n p us ps, MoAt K H mo m nms pls dx fs t n p us ps
section
variable {K : PySem.W.Frag} {S : Addr → Prop} {H H' : Hp}
theorem opV.st (h : Stp S H H') {v : V} {x : Op} (e : opV H v x) : opV H' v x := by
  obtain ⟨a, rfl, e⟩ := e
  exact ⟨a, rfl, h.tup e⟩
theorem opsV.st (h : Stp S H H') {o : Addr} {xs : List Op} (e : opsV H o xs) : opsV H' o xs := by
  obtain ⟨vs, e1, e2⟩ := e
  exact ⟨vs, h.tup e1, e2.mono fun _ _ z => z.st h⟩
theorem insF.st (h : Stp S H H') {vs : List V} {x : Ins} (e : insF H vs x) : insF H' vs x := by
  cases x <;> simp only [insF] at e ⊢
  all_goals first
    | exact e
    | (obtain ⟨o, e1, e2⟩ := e; exact ⟨o, e1, e2.st h⟩)
    | (obtain ⟨o, q, e1, e2, e3⟩ := e; exact ⟨o, q, e1, opV.st h e2, opV.st h e3⟩)
    | (obtain ⟨o, q, e1, e2, e3⟩ := e; exact ⟨o, q, e1, opsV.st h e2, h.tup e3⟩)
theorem insV.st (h : Stp S H H') {v : V} {x : Ins} (e : insV H v x) : insV H' v x := by
  obtain ⟨a, vs, rfl, e1, e2⟩ := e
  exact ⟨a, vs, rfl, h.tup e1, e2.st h⟩
theorem rgV.st (h : Stp S H H') {v : V} {x : Rg} (e : rgV H v x) : rgV H' v x := by
  obtain ⟨a, rfl, e⟩ := e
  exact ⟨a, rfl, h.tup e⟩
theorem frz_cells {C dx : Addr} {fs : List (Str × V)} {v : V} (h : fs.lookup ("cells" : Str) = some v) : frz (.ins C dx fs) := .inl (by rw [h]; rfl)
theorem frz_places {C dx : Addr} {fs : List (Str × V)} {v : V} (h : fs.lookup ("places" : Str) = some v) : frz (.ins C dx fs) := .inr (.inl (by rw [h]; rfl))
theorem UnAt.st (h : Stp S H H') {a dx c r : Addr} {U : Un} {fs : List (Str × V)} {cs rs : List V} (e : UnAt K H a U dx fs c r cs rs) : UnAt K H' a U dx fs c r cs rs :=
  { e with at_ := h.at e.at_ fun _ => frz_cells e.cells, codeA := h.tup e.codeA, rgA := h.tup e.rgA, ins := e.ins.mono fun _ _ z => z.st h, rgs := e.rgs.mono fun _ _ z => z.st h }
theorem unV.st (h : Stp S H H') {v : V} {U : Un} (e : unV K H v U) : unV K H' v U := by
  obtain ⟨a, dx, fs, c, r, cs, rs, rfl, e⟩ := e
  exact ⟨a, dx, fs, c, r, cs, rs, rfl, e.st h⟩
theorem MoAt.st (h : Stp S H H') {mo dx t n p : Addr} {m : Mod} {nms : List Str} {pls : List (Int × Int)} {fs : List (Str × V)} {us ps : List V} (e : MoAt K H mo m nms pls dx fs t n p us ps) : MoAt K H' mo m nms pls dx fs t n p us ps :=
  { e with at_ := h.at e.at_ fun _ => frz_places e.places, unA := h.tup e.unA, naA := h.tup e.naA, plA := h.tup e.plA, un := e.un.mono fun _ _ z => z.st h, pl := e.pl.mono fun _ _ ⟨a, q1, q2⟩ => ⟨a, q1, h.tup q2⟩ }
theorem moV.st (h : Stp S H H') {mo : Addr} {m : Mod} {nms : List Str} {pls : List (Int × Int)} (e : moV K H mo m nms pls) : moV K H' mo m nms pls := by
  obtain ⟨dx, fs, t, n, p, us, ps, e⟩ := e
  exact ⟨dx, fs, t, n, p, us, ps, e.st h⟩
end
/-! ### the program's run -/
structure RD where
  run : Addr
  rdx : Addr
  mo : Addr
  ev : Addr
  evx : Addr
  fu : Addr
  fux : Addr
  inp : Addr
  md : Addr
  sn : Addr
  lim : Nat
def evV (H : Hp) (v : V) (x : Bool × Int) : Prop := ∃ a, v = .ref a ∧ H a = some (.tup [.str (if x.1 = true then "put" else "get"), .int x.2])
def snV (H : Hp) (v : V) (x : Nat × Nat × List Int) : Prop := ∃ a b, v = .ref a ∧ H a = some (.tup [.int x.1, .int x.2.1, .ref b]) ∧ H b = some (.tup (x.2.2.map V.int))
def runO (K : PySem.W.Frag) (D : RD) : HO := .ins (ga K "CodeRun") D.rdx [("module", .ref D.mo), ("events", .ref D.ev), ("fuel", .ref D.fu), ("limit", .int D.lim), ("seen", .ref D.sn)]
def evO (K : PySem.W.Frag) (D : RD) (n : Nat) : HO := .ins (ga K "Events") D.evx [("inputs", .ref D.inp), ("taken", .int n), ("made", .ref D.md)]
def fuO (K : PySem.W.Frag) (D : RD) (n : Nat) : HO := .ins (ga K "Fuel") D.fux [("units", .int n)]
structure Lite (K : PySem.W.Frag) (H : Hp) (D : RD) (ins : List Int) (g : G) : Prop where
  run : H D.run = some (runO K D)
  ev : H D.ev = some (evO K D g.taken)
  fu : H D.fu = some (fuO K D g.fuel)
  inp : H D.inp = some (.lst (ins.map V.int))
  md : ∃ l, H D.md = some (.lst l) ∧ All2 (evV H) l g.evs
  sn : ∃ l, H D.sn = some (.lst l) ∧ All2 (snV H) l (g.seen.take D.lim)
  tk : g.taken ≤ ins.length
def cellV (H : Hp) (a : Addr) (c : List Int) : Prop := H a = some (.lst (c.map V.int))
structure StA (K : PySem.W.Frag) (H : Hp) (D : RD) (ins : List Int) (g : G) (cas : List Addr) (ra : Addr) (rs : List Int) : Prop where
  l : Lite K H D ins g
  c : All2 (cellV H) cas g.cs
  r : H ra = some (.lst (rs.map V.int))
  nd : (D.md :: D.sn :: D.inp :: ra :: cas).Nodup
/-- what a run may change -/
def Chg (D : RD) (cas : List Addr) (ra : Addr) : Addr → Prop := fun a => a = D.ev ∨ a = D.fu ∨ a = D.md ∨ a = D.sn ∨ a = ra ∨ a ∈ cas
/-- a frame -/
def frO (K : PySem.W.Frag) (fx : Addr) (u ua par : V) (i : Nat) (ra ca : V) : HO := .ins (ga K "Frame") fx [("number", u), ("unit", ua), ("parent", par), ("depth", .int ((i : Int) + 1)), ("registers", ra), ("cells", ca)]
def chV (K : PySem.W.Frag) (H : Hp) (cas : List Addr) : V → List Nat → Prop
  | _, [] => True
  | v, i :: r => ∃ fa fx u ua ra ca par, v = .ref fa ∧ H fa = some (frO K fx u ua par i ra (.ref ca)) ∧ cas[i]? = some ca ∧ chV K H cas par r
/-- what follows an instruction -/
def Post (K : PySem.W.Frag) (D : RD) (ins : List Int) (cas : List Addr) (ra : Addr) (H : Hp) (Qg : Nat → Hp → Prop) (E : XK) : Nx → Prop
  | .go i g rs => ∀ H', Stp (Chg D cas ra) H H' → StA K H' D ins g cas ra rs → Qg i H'
  | .exc k p g rs => ∀ H' dd, Stp (Chg D cas ra) H H' → StA K H' D ins g cas ra rs → H' dd = some (.xd [("place", .int p), ("number", .int k)]) → E (.ref (ga K "CodeRaised")) (some dd) H'
  | .exh g _ => ∀ H', Stp (Chg D cas ra) H H' → Lite K H' D ins g → E (.ref (ga K "OutOfFuel")) none H'
  | .fault g _ => ∀ H', Stp (Chg D cas ra) H H' → Lite K H' D ins g → E (.ref (ga K "CodeFault")) none H'
section
variable {K : PySem.W.Frag} {S : Addr → Prop} {H H' : Hp} {D : RD} {ins : List Int} {g : G} {cas : List Addr} {ra : Addr} {rs : List Int}
theorem frz_run : frz (runO K D) := .inr (.inr rfl)
theorem frz_fr {fx : Addr} {u ua par ra ca : V} {i : Nat} : frz (frO K fx u ua par i ra ca) := .inl rfl
theorem evV.st (h : Stp S H H') {v : V} {x : Bool × Int} (e : evV H v x) : evV H' v x := by
  obtain ⟨a, rfl, e⟩ := e
  exact ⟨a, rfl, h.tup e⟩
theorem snV.st (h : Stp S H H') {v : V} {x : Nat × Nat × List Int} (e : snV H v x) : snV H' v x := by
  obtain ⟨a, b, rfl, e1, e2⟩ := e
  exact ⟨a, b, rfl, h.tup e1, h.tup e2⟩
theorem chV.st (h : Stp S H H') : ∀ {ch : List Nat} {v : V}, chV K H cas v ch → chV K H' cas v ch
  | [], _, _ => trivial
  | i :: r, _, e => by
    obtain ⟨fa, fx, u, ua, ra, ca, par, rfl, e1, e2, e3⟩ := e
    exact ⟨fa, fx, u, ua, ra, ca, par, rfl, h.at e1 fun _ => frz_fr, e2, e3.st h⟩
theorem chV.more (t : List Addr) : ∀ {ch : List Nat} {v : V}, chV K H cas v ch → chV K H (cas ++ t) v ch
  | [], _, _ => trivial
  | i :: r, _, e => by
    obtain ⟨fa, fx, u, ua, ra, ca, par, rfl, e1, e2, e3⟩ := e
    exact ⟨fa, fx, u, ua, ra, ca, par, rfl, e1, by rw [List.getElem?_append_left (List.getElem?_eq_some_iff.mp e2).1]; exact e2, e3.more t⟩
theorem Lite.st (h : Stp S0 H H') (l : Lite K H D ins g) : Lite K H' D ins g := by
  have f : ∀ {a : Addr} {o : HO} (e : H a = some o) (w : ours o := by exact True.intro), H' a = some o := fun e w => h.at e (fun z => z.elim) w
  obtain ⟨l1, m1, m2⟩ := l.md
  obtain ⟨l2, s1, s2⟩ := l.sn
  exact ⟨f l.run, f l.ev, f l.fu, f l.inp, ⟨l1, f m1, m2.mono fun _ _ z => z.st h⟩, ⟨l2, f s1, s2.mono fun _ _ z => z.st h⟩, l.tk⟩
theorem StA.st (h : Stp S0 H H') (l : StA K H D ins g cas ra rs) : StA K H' D ins g cas ra rs := by
  have f : ∀ {a : Addr} {o : HO} (e : H a = some o) (w : ours o := by exact True.intro), H' a = some o := fun e w => h.at e (fun z => z.elim) w
  exact ⟨l.l.st h, l.c.mono fun _ _ z => f z, f l.r, l.nd⟩
/-- the registers change -/
theorem StA.setR (l : StA K H D ins g cas ra rs) (rs' : List Int) : StA K (upd H ra (.lst (rs'.map V.int))) D ins g cas ra rs' := by
  have nd := l.nd
  simp only [List.nodup_cons, List.mem_cons, not_or] at nd
  obtain ⟨⟨n1, n2, n3, n4⟩, ⟨n5, n6, n7⟩, ⟨n8, n9⟩, n10, n11⟩ := nd
  obtain ⟨l1, m1, m2⟩ := l.l.md
  obtain ⟨l2, s1, s2⟩ := l.l.sn
  have h : Stp (fun a => a = ra) H (upd H ra (.lst (rs'.map V.int))) := Stp.put l.r rfl (fun z => z)
  have f : ∀ {a : Addr} {o : HO}, H a = some o → a ≠ ra → upd H ra (.lst (rs'.map V.int)) a = some o := fun e n => by rw [upd_ne n]; exact e
  refine ⟨⟨f l.l.run (ne_of l.l.run l.r (by intro z; cases z)), f l.l.ev (ne_of l.l.ev l.r (by intro z; cases z)), f l.l.fu (ne_of l.l.fu l.r (by intro z; cases z)), f l.l.inp n8, ⟨l1, f m1 n3, m2.mono fun _ _ z => z.st h⟩, ⟨l2, f s1 n6, s2.mono fun _ _ z => z.st h⟩, l.l.tk⟩, ⟨l.c.1, fun i a b e1 e2 => f (l.c.2 i a b e1 e2) ?_⟩, upd_same, l.nd⟩
  exact fun z => n10 (z ▸ List.mem_of_getElem? e1)
theorem Stp.setR (l : StA K H D ins g cas ra rs) {o : HO} : Stp (Chg D cas ra) H (upd H ra o) := Stp.put l.r (.inr (.inr (.inr (.inr (.inl rfl))))) (fun z => z)
end
end WX
/-! ## WP1 -/
set_option Elab.async false
set_option linter.all false
set_option maxRecDepth 100000
set_option maxHeartbeats 2000000
/-! Words: the arithmetic of the program. -/
namespace WX
open PySem PySem.Spec PyProof.Rows L2 He
open Wn (Op Ar Ins Rg Un Mod G Out Nx Word wordB exact)
theorem if_true_of {c : Bool} {A B : Prop} (hc : c = true) (h : A) : if c = true then A else B := by
  rw [if_pos hc]
  exact h
theorem if_false_of {c : Bool} {A B : Prop} (hc : c = false) (h : B) : if c = true then A else B := by
  rw [hc, if_neg Bool.false_ne_true]
  exact h
theorem tdiv_sign (a b : Int) : a.tdiv b = if decide (a < 0) = decide (b < 0) then (if a < 0 then -a else a) / (if b < 0 then -b else b) else -((if a < 0 then -a else a) / (if b < 0 then -b else b)) := by
  by_cases h1 : a < 0 <;> by_cases h2 : b < 0
  · simp only [h1, h2, if_true]
    have e := Int.tdiv_eq_ediv_of_nonneg (a := -a) (b := -b) (by omega)
    rw [← e, Int.neg_tdiv, Int.tdiv_neg, Int.neg_neg]
  · simp only [h1, h2, if_true, if_false, decide_true, decide_false, Bool.true_eq_false]
    have e := Int.tdiv_eq_ediv_of_nonneg (a := -a) (b := b) (by omega)
    rw [← e, Int.neg_tdiv, Int.neg_neg]
  · simp only [h1, h2, if_true, if_false, decide_true, decide_false, Bool.false_eq_true]
    have e := Int.tdiv_eq_ediv_of_nonneg (a := a) (b := -b) (by omega)
    rw [← e, Int.tdiv_neg, Int.neg_neg]
  · simp only [h1, h2, if_false]
    exact Int.tdiv_eq_ediv_of_nonneg (by omega)
theorem fits_log {b : Int} (h : Word b) : b.natAbs.log2 < 9000 := by
  have q : b.natAbs < 2 ^ 40 := by
    obtain ⟨h1, h2⟩ := h
    have : (2 : Nat) ^ 40 = 1099511627776 := by decide
    omega
  exact Nat.lt_trans (PySem.Flt.log2_lt_of (by decide) q) (by decide)
theorem word_abs {a : Int} (h : Word a) : Word a → -(2 ^ 64) < (if a < 0 then -a else a) ∧ (if a < 0 then -a else a) < 2 ^ 64 := fun _ => by
  obtain ⟨h1, h2⟩ := h
  split <;> omega
def arS : Ar → Str
  | .add => "+" | .sub => "-" | .mul => "*" | .div => "/" | .mod => "mod" | .rem => "rem"
def spFits : Sp := fun vs H Q _ => ∃ n : Int, vs = [.int n] ∧ Q (.bl (wordB n)) H
def spChecked (K : PySem.W.Frag) : Sp := fun vs H Q E => ∃ n : Int, vs = [.int n] ∧ (wordB n = true → Q (.int n) H) ∧ (wordB n = false → E (.ref (ga K "Overflow")) none H)
def spQuot : Sp := fun vs H Q _ => ∃ a b : Int, vs = [.int a, .int b] ∧ Word a ∧ Word b ∧ b ≠ 0 ∧ Q (.int (a.tdiv b)) H
def spAr (K : PySem.W.Frag) (p : Ar → Prop) : Sp := fun vs H Q E => ∃ (r : Ar) (a b : Int), vs = [.str (arS r), .int a, .int b] ∧ p r ∧ Word a ∧ Word b ∧ (∀ w, exact r a b = some w → wordB w = true → Q (.int w) H) ∧
  ((∀ w, exact r a b = some w → wordB w = false) → E (.ref (ga K "Overflow")) none H ∧ E (.ref (ga K "DivisionByZero")) none H)
def spNeg (K : PySem.W.Frag) : Sp := fun vs H Q E => ∃ a : Int, vs = [.int a] ∧ (wordB (-a) = true → Q (.int (-a)) H) ∧ (wordB (-a) = false → E (.ref (ga K "Overflow")) none H)
def spAbs (K : PySem.W.Frag) : Sp := fun vs H Q E => ∃ a : Int, vs = [.int a] ∧ (wordB (a.natAbs : Int) = true → Q (.int (a.natAbs : Int)) H) ∧ (wordB (a.natAbs : Int) = false → E (.ref (ga K "Overflow")) none H)
theorem fmod_word {a b : Int} (hb : Word b) (h0 : b ≠ 0) : wordB (a.fmod b) = true := by
  rw [Wn.wordB_iff]
  obtain ⟨h1, h2⟩ := hb
  rcases Int.lt_or_gt_of_ne h0 with z | z
  · have e2 := Int.fmod_nonneg_of_pos (-a) (b := -b) (by omega)
    have e3 := Int.fmod_lt_of_pos (-a) (b := -b) (by omega)
    rw [Int.neg_fmod_neg] at e2 e3
    exact ⟨by omega, by omega⟩
  · have e1 := Int.fmod_nonneg_of_pos a z
    have e2 := Int.fmod_lt_of_pos a z
    exact ⟨by omega, by omega⟩
theorem tmod_word {a b : Int} (ha : Word a) : wordB (a.tmod b) = true := by
  rw [Wn.wordB_iff]
  obtain ⟨h1, h2⟩ := ha
  have e := Int.natAbs_tmod a b
  have e2 : (a.tmod b).natAbs ≤ a.natAbs := by
    rw [e]
    exact Nat.mod_le _ _
  rcases Int.lt_or_le a 0 with z | z
  · have e3 : a.tmod b ≤ 0 := by
      have q := Int.tmod_nonneg (a := -a) b (by omega)
      rw [Int.neg_tmod] at q
      omega
    exact ⟨by omega, by omega⟩
  · have e3 := Int.tmod_nonneg (a := a) b z
    exact ⟨by omega, by omega⟩
section
variable {P : Program} {w : World} {K : PySem.W.Frag} {mg : Str → Option Value} {base : Heap}
theorem ok_fits (T : Txt w K mg) : Def P w K mg base CX0 1 "fits" ["number"] spFits := by
  refine D_fits T (fun vs H Q E h => ?_) (fun cdv A outer s H vs Q E hr h => ?_)
  · obtain ⟨n, rfl, _⟩ := h
    rfl
  obtain ⟨n, rfl, q⟩ := h
  refine ⟨_, (pss_one (ps_ret (pe_chain op_le op_le (pe_gi (gi_MIN T) rfl) (pv 0) (pe_gi (gi_MAX T) rfl)))), ?_⟩
  refine ⟨_, rfl, _, _, rfl, rfl, _, rfl, ?_⟩
  by_cases c : (-2147483648 : Int) ≤ n
  · refine if_true_of (decide_eq_true c) ⟨_, _, rfl, rfl, ?_⟩
    have e : decide (n ≤ 2147483647) = wordB n := by simp [wordB, c]
    show Q (.bl (decide (n ≤ 2147483647))) H
    rw [e]
    exact q
  · refine if_false_of (decide_eq_false c) ?_
    have e : false = wordB n := by simp [wordB, c]
    show Q (.bl false) H
    rw [e]
    exact q
theorem ok_checked (T : Txt w K mg) : Def P w K mg base (L2N.CX P w) 2 "checked" ["number"] (spChecked K) := by
  have G_fits := ok_fits (P := P) (base := base) T
  refine D_checked T (fun vs H Q E h => ?_) (fun cdv A outer s H vs Q E hr h => ?_)
  · obtain ⟨n, rfl, _⟩ := h
    rfl
  obtain ⟨n, rfl, q1, q2⟩ := h
  refine ⟨_, (pss_cons (ps_if (pt_not (pt_val (pe_callD G_fits hr (by omega) rfl pass0 (pa_cons (pv 0) pa_nil)))) (pss_one (L2N.ps_raise rfl (L2N.takes_of rfl rfl rfl rfl) (L2N.pmk_own PySem.F.excBase_ValueError (ex_Overflow T).1 (g_Overflow T) (ex_Overflow T).2.1 (raises_own (ex_Overflow T).2.2.1 (ex_Overflow T).2.2.2) rfl))) pss_nil) (pss_one (ps_ret (pv 0)))), ?_⟩
  refine ⟨_, rfl, n, rfl, _, rfl, ?_⟩
  cases c : wordB n with
  | true => exact ⟨_, rfl, q1 c⟩
  | false => exact q2 c
theorem ok_quotient (T : Txt w K mg) : Def P w K mg base CX0 1 "quotient" ["left", "right"] spQuot := by
  refine D_quotient T (fun vs H Q E h => ?_) (fun cdv A outer s H vs Q E hr h => ?_)
  · obtain ⟨a, b, rfl, _⟩ := h
    rfl
  obtain ⟨a, b, rfl, ha, hb, h0, q⟩ := h
  refine ⟨_, (pss_cons (ps_set (i := 2) sc_quotient.nd rfl (Or.inl rfl) (pe_op op_fdivL (pe_callB call_abs (by rfl) (b_abs T) (by decide +kernel) (pa_cons (pv 0) pa_nil)) (pe_callB call_abs (by rfl) (b_abs T) (by decide +kernel) (pa_cons (pv 1) pa_nil)))) (pss_cons (ps_if (pt_cmpR op_eq (pe_cmpR op_lt (pv 0) pe_int (nomark _)) (pe_cmpR op_lt (pv 1) pe_int (nomark _)) (nomark _)) (pss_one (ps_ret (pv 2))) pss_nil) (pss_one (ps_ret (pe_un un_neg (pv 2)))))), ?_⟩
  refine ⟨_, rfl, _, rfl, _, rfl, _, rfl, _, _, rfl, rfl, ⟨?_, ?_⟩, ?_⟩
  · split <;> omega
  · have e : (if b < 0 then -b else b).natAbs = b.natAbs := by split <;> omega
    rw [e]
    exact fits_log hb
  have e0 : ((if a < 0 then -a else a)).fdiv (if b < 0 then -b else b) = (if a < 0 then -a else a) / (if b < 0 then -b else b) := Int.fdiv_eq_ediv_of_nonneg _ (by split <;> omega)
  refine ⟨_, rfl, _, _, rfl, rfl, _, rfl, _, _, rfl, rfl, rfl, _, rfl, ?_⟩
  have e := tdiv_sign a b
  have ee : decide (V.bl (decide (a < 0)) = V.bl (decide (b < 0))) = decide (decide (a < 0) = decide (b < 0)) := by simp
  by_cases c : decide (a < 0) = decide (b < 0)
  · rw [if_pos c] at e
    refine if_true_of (by rw [ee]; exact decide_eq_true c) ⟨_, rfl, ?_⟩
    show Q (.int (((if a < 0 then -a else a)).fdiv (if b < 0 then -b else b))) H
    rw [e0, ← e]
    exact q
  · rw [if_neg c] at e
    refine if_false_of (by rw [ee]; exact decide_eq_false c) ⟨_, rfl, _, rfl, ?_⟩
    show Q (.int (-(((if a < 0 then -a else a)).fdiv (if b < 0 then -b else b)))) H
    rw [e0, ← e]
    exact q
theorem mul_in {i j : Int} (h : Word i) : CMul i j := .inl ⟨by have := h.1; omega, by have := h.2; omega⟩
theorem ok_divide (T : Txt w K mg) : Def P w K mg base (L2N.CX P w) 3 "divide" ["op", "left", "right"] (spAr K fun r => r = .div ∨ r = .mod ∨ r = .rem) := by
  have G_checked := ok_checked (P := P) (base := base) T
  have G_quotient := ok_quotient (P := P) (base := base) T
  refine D_divide T (fun vs H Q E h => ?_) (fun cdv A outer s H vs Q E hr h => ?_)
  · obtain ⟨r, a, b, rfl, _⟩ := h
    rfl
  obtain ⟨r, a, b, rfl, hp, ha, hb, q1, q2⟩ := h
  refine ⟨_, (pss_cons (ps_if (pt_cmpR op_eq (pv 2) pe_int (nomark _)) (pss_one (L2N.ps_raise rfl (L2N.takes_of rfl rfl rfl rfl) (L2N.pmk_own PySem.F.excBase_ValueError (ex_DivisionByZero T).1 (g_DivisionByZero T) (ex_DivisionByZero T).2.1 (raises_own (ex_DivisionByZero T).2.2.1 (ex_DivisionByZero T).2.2.2) rfl))) pss_nil) (pss_cons (ps_if (pt_cmpR op_eq (pv 0) pe_str (nomark _)) (pss_one (ps_ret (pe_callD G_checked hr (by omega) rfl (L2N.passes_call (L2N.takes_of rfl rfl rfl rfl) fun _ _ _ _ h => h) (pa_cons (pe_callD G_quotient hr (by omega) rfl pass0 (pa_cons (pv 1) (pa_cons (pv 2) pa_nil))) pa_nil)))) pss_nil) (pss_cons (ps_if (pt_cmpR op_eq (pv 0) pe_str (nomark _)) (pss_one (ps_ret (pe_op op_sub (pv 1) (pe_op op_mul (pv 2) (pe_op op_fdivL (pv 1) (pv 2)))))) pss_nil) (pss_one (ps_ret (pe_op op_sub (pv 1) (pe_op op_mul (pv 2) (pe_callD G_quotient hr (by omega) rfl pass0 (pa_cons (pv 1) (pa_cons (pv 2) pa_nil)))))))))), ?_⟩
  refine ⟨_, rfl, rfl, _, rfl, ite2 (fun c => ?_) (fun c => ?_)⟩
  · have z : b = 0 := by simpa using c
    exact (q2 (by rcases hp with rfl | rfl | rfl <;> simp [exact, z])).2
  have z : b ≠ 0 := by simpa using c
  refine ⟨_, rfl, rfl, _, rfl, ?_⟩
  rcases hp with rfl | rfl | rfl
  · refine if_true_of (by decide) ?_
    refine ⟨_, rfl, _, rfl, a, b, rfl, ha, hb, z, _, rfl, fun hw => ?_, fun hw => ?_⟩
    · exact q1 _ (by simp [exact, z]) hw
    · exact (q2 fun w e => by simp [exact, z] at e; rw [← e]; exact hw).1
  · refine if_false_of (by decide) ⟨_, rfl, rfl, _, rfl, if_true_of (by decide) ?_⟩
    refine ⟨_, rfl, _, rfl, _, rfl, _, rfl, _, _, rfl, rfl, ⟨z, fits_log hb⟩, _, _, rfl, rfl, mul_in hb, _, _, rfl, rfl, ?_⟩
    have e : a - b * a.fdiv b = a.fmod b := by rw [Int.fmod_def]
    show Q (.int (a - b * a.fdiv b)) H
    rw [e]
    exact q1 _ (by simp [exact, z]) (fmod_word hb z)
  · refine if_false_of (by decide) ⟨_, rfl, rfl, _, rfl, if_false_of (by decide) ?_⟩
    refine ⟨_, rfl, _, rfl, _, rfl, _, rfl, a, b, rfl, ha, hb, z, _, _, rfl, rfl, mul_in hb, _, _, rfl, rfl, ?_⟩
    have e : a - b * a.tdiv b = a.tmod b := by rw [Int.tmod_def]
    show Q (.int (a - b * a.tdiv b)) H
    rw [e]
    exact q1 _ (by simp [exact, z]) (tmod_word ha)
theorem ok_arithmetic (T : Txt w K mg) : Def P w K mg base (L2N.CX P w) 4 "arithmetic" ["op", "left", "right"] (spAr K fun _ => True) := by
  have G_checked := ok_checked (P := P) (base := base) T
  have G_divide := ok_divide (P := P) (base := base) T
  refine D_arithmetic T (fun vs H Q E h => ?_) (fun cdv A outer s H vs Q E hr h => ?_)
  · obtain ⟨r, a, b, rfl, _⟩ := h
    rfl
  obtain ⟨r, a, b, rfl, hp, ha, hb, q1, q2⟩ := h
  refine ⟨_, (pss_cons (ps_if (pt_cmpR op_eq (pv 0) pe_str (nomark _)) (pss_one (ps_ret (pe_callD G_checked hr (by omega) rfl (L2N.passes_call (L2N.takes_of rfl rfl rfl rfl) fun _ _ _ _ h => h) (pa_cons (pe_op op_add (pv 1) (pv 2)) pa_nil)))) pss_nil) (pss_cons (ps_if (pt_cmpR op_eq (pv 0) pe_str (nomark _)) (pss_one (ps_ret (pe_callD G_checked hr (by omega) rfl (L2N.passes_call (L2N.takes_of rfl rfl rfl rfl) fun _ _ _ _ h => h) (pa_cons (pe_op op_sub (pv 1) (pv 2)) pa_nil)))) pss_nil) (pss_cons (ps_if (pt_cmpR op_eq (pv 0) pe_str (nomark _)) (pss_one (ps_ret (pe_callD G_checked hr (by omega) rfl (L2N.passes_call (L2N.takes_of rfl rfl rfl rfl) fun _ _ _ _ h => h) (pa_cons (pe_op op_mul (pv 1) (pv 2)) pa_nil)))) pss_nil) (pss_one (ps_ret (pe_callD G_divide hr (by omega) rfl (L2N.passes_call (L2N.takes_of rfl rfl rfl rfl) fun _ _ _ _ h => h) (pa_cons (pv 0) (pa_cons (pv 1) (pa_cons (pv 2) pa_nil))))))))), ?_⟩
  have fin : ∀ {x : Int}, exact r a b = some x → (wordB x = true → Q (.int x) H) ∧ (wordB x = false → E (.ref (ga K "Overflow")) none H) := fun {x} e =>
    ⟨fun hw => q1 _ e hw, fun hw => (q2 fun w e' => by rw [e] at e'; cases e'; exact hw).1⟩
  refine ⟨_, rfl, rfl, _, rfl, ?_⟩
  cases r with
  | add => exact if_true_of (by decide) ⟨_, rfl, _, rfl, _, _, rfl, rfl, _, rfl, fin rfl⟩
  | sub => exact if_false_of (by decide) ⟨_, rfl, rfl, _, rfl, if_true_of (by decide) ⟨_, rfl, _, rfl, _, _, rfl, rfl, _, rfl, fin rfl⟩⟩
  | mul => exact if_false_of (by decide) ⟨_, rfl, rfl, _, rfl, if_false_of (by decide) ⟨_, rfl, rfl, _, rfl, if_true_of (by decide) ⟨_, rfl, _, rfl, _, _, rfl, rfl, mul_in ha, _, rfl, fin rfl⟩⟩⟩
  | div => exact if_false_of (by decide) ⟨_, rfl, rfl, _, rfl, if_false_of (by decide) ⟨_, rfl, rfl, _, rfl, if_false_of (by decide) ⟨_, rfl, _, rfl, _, rfl, .div, a, b, rfl, .inl rfl, ha, hb, q1, q2⟩⟩⟩
  | mod => exact if_false_of (by decide) ⟨_, rfl, rfl, _, rfl, if_false_of (by decide) ⟨_, rfl, rfl, _, rfl, if_false_of (by decide) ⟨_, rfl, _, rfl, _, rfl, .mod, a, b, rfl, .inr (.inl rfl), ha, hb, q1, q2⟩⟩⟩
  | rem => exact if_false_of (by decide) ⟨_, rfl, rfl, _, rfl, if_false_of (by decide) ⟨_, rfl, rfl, _, rfl, if_false_of (by decide) ⟨_, rfl, _, rfl, _, rfl, .rem, a, b, rfl, .inr (.inr rfl), ha, hb, q1, q2⟩⟩⟩
theorem ok_negate (T : Txt w K mg) : Def P w K mg base (L2N.CX P w) 3 "negate" ["word"] (spNeg K) := by
  have G_checked := ok_checked (P := P) (base := base) T
  refine D_negate T (fun vs H Q E h => ?_) (fun cdv A outer s H vs Q E hr h => ?_)
  · obtain ⟨a, rfl, _⟩ := h
    rfl
  obtain ⟨a, rfl, q⟩ := h
  refine ⟨_, (pss_one (ps_ret (pe_callD G_checked hr (by omega) rfl (L2N.passes_call (L2N.takes_of rfl rfl rfl rfl) fun _ _ _ _ h => h) (pa_cons (pe_un un_neg (pv 0)) pa_nil)))), ?_⟩
  exact ⟨_, rfl, _, rfl, _, rfl, q⟩
theorem ok_absolute (T : Txt w K mg) : Def P w K mg base (L2N.CX P w) 3 "absolute" ["word"] (spAbs K) := by
  have G_checked := ok_checked (P := P) (base := base) T
  refine D_absolute T (fun vs H Q E h => ?_) (fun cdv A outer s H vs Q E hr h => ?_)
  · obtain ⟨a, rfl, _⟩ := h
    rfl
  obtain ⟨a, rfl, q⟩ := h
  refine ⟨_, (pss_one (ps_ret (pe_callD G_checked hr (by omega) rfl (L2N.passes_call (L2N.takes_of rfl rfl rfl rfl) fun _ _ _ _ h => h) (pa_cons (pe_callB call_abs (by rfl) (b_abs T) (by decide +kernel) (pa_cons (pv 0) pa_nil)) pa_nil)))), ?_⟩
  have e : (a.natAbs : Int) = if a < 0 then -a else a := by split <;> omega
  rw [e] at q
  exact ⟨_, rfl, _, rfl, _, rfl, q⟩
end
end WX
/-! ## WP2 -/
set_option Elab.async false
set_option linter.all false
set_option maxRecDepth 100000
set_option maxHeartbeats 2000000
/-! The classes of the program. -/
namespace WX
open PySem PySem.Spec PyProof.Rows L2 He
open Wn (Op Ar Ins Rg Un Mod G Out Nx Word wordB exact val)
/-! ### the exception CodeRaised -/
def spIniCR (K : PySem.W.Frag) : Sp := fun vs H Q _ => ∃ (a : Addr) (n p : V), vs = [.ref a, n, p] ∧ H a = some (exo a (ga K "CodeRaised") none) ∧ ∀ dx, H dx = none → dx ≠ a →
  Q .non (upd (upd (upd H dx (exd dx [("number", n)])) a (exo a (ga K "CodeRaised") (some dx))) dx (exd dx [("place", p), ("number", n)]))
theorem raised_at {K : PySem.W.Frag} {H1 : Hp} {Q : XK} {k p : V} (h : ∀ dd, H1 dd = none → Q (.ref (ga K "CodeRaised")) (some dd) (upd H1 dd (.xd [("place", p), ("number", k)]))) :
    [k, p].length ≤ 1000 ∧ ∀ a, H1 a = none → spIniCR K (.ref a :: ([k, p] ++ [])) (upd H1 a (exo a (ga K "CodeRaised") none))
      (fun v H2 => v = .non ∧ ∃ (d : Addr) (fs : List (Str × V)), H2 a = some (exo a (ga K "CodeRaised") (some d)) ∧ H2 d = some (exd d fs) ∧ H1 d = none ∧ Q (.ref (ga K "CodeRaised")) (some d) (upd (L2.del H2 a) d (.xd fs))) (fun _ _ _ => False) := by
  refine ⟨by show 2 ≤ 1000; decide, fun a ha => ⟨a, k, p, rfl, upd_same, fun dx hd hne => ⟨rfl, dx, _, ?_, upd_same, ?_, ?_⟩⟩⟩
  · rw [upd_ne (Ne.symm hne)]
    exact upd_same
  · rw [upd_ne hne] at hd
    exact hd
  · have hd1 : H1 dx = none := by
      rw [upd_ne hne] at hd
      exact hd
    have e : upd (L2.del (upd (upd (upd (upd H1 a (exo a (ga K "CodeRaised") none)) dx (exd dx [("number", k)])) a (exo a (ga K "CodeRaised") (some dx))) dx (exd dx [("place", p), ("number", k)])) a) dx (.xd [("place", p), ("number", k)]) = upd H1 dx (.xd [("place", p), ("number", k)]) := by
      funext b
      by_cases z : b = dx
      · rw [z, upd_same, upd_same]
      · rw [upd_ne z, upd_ne z]
        by_cases y : b = a
        · rw [y, del_same, ha]
        · rw [del_ne y, upd_ne z, upd_ne y, upd_ne z, upd_ne y]
    rw [e]
    exact h dx hd1
section
variable {P : Program} {w : World} {K : PySem.W.Frag} {mg : Str → Option Value} {base : Heap}
theorem pure_iniCR (T : Txt w K mg) {a : Addr} {n p : V} {H : Hp} {Q : VK} (ha : H a = some (exo a (ga K "CodeRaised") none)) (q : ∀ dx, H dx = none → dx ≠ a →
  Q .non (upd (upd (upd H dx (exd dx [("number", n)])) a (exo a (ga K "CodeRaised") (some dx))) dx (exd dx [("place", p), ("number", n)]))) :
    tSeq (tOst K "number" (tVar 0) (tVar 1)) (tOst K "place" (tVar 0) (tVar 2)) { nx := fun _ H' => Q .non H', rt := Q } (start ["self", "number", "place"] [.ref a, n, p]) H := by
  refine ⟨_, rfl, _, rfl, a, _, rfl, T.ox, T.on.1, .inl ⟨ha, fun dx hd hne => ?_⟩⟩
  refine ⟨_, rfl, _, rfl, a, _, rfl, T.ox, T.on.2, .inr ⟨dx, _, upd_same, ?_, by show 1 ≤ 900; decide, q dx hd hne⟩⟩
  rw [upd_ne hne]
  exact upd_same
theorem ok_iniCR (T : Txt w K mg) : MDef P w K mg base CX0 1 "CodeRaised" "__init__" ["self", "number", "place"] (spIniCR K) := by
  refine D_CodeRaised_init T (fun vs H Q E h => ?_) (fun cdv A outer s H vs Q E hr h => ?_)
  · obtain ⟨a, n, p, rfl, _⟩ := h
    rfl
  obtain ⟨a, n, p, rfl, ha, q⟩ := h
  exact ⟨_, pss_cons (ps_ost (pv 0) (pv 1)) (pss_one (ps_ost (pv 0) (pv 2))), pure_iniCR T ha q⟩
/-- .. while an exception is handled -/
theorem ok_iniCRH (T : Txt w K mg) : ∃ fd, Binds K fd ["self", "number", "place"] [] ∧ L2H.FnH P w K mg base CX0 1 (ma K (ga K "CodeRaised") "__init__") fd ["self", "number", "place"] (spIniCR K) := by
  obtain ⟨fd, F⟩ := F_CodeRaised_init T
  have b : Binds K fd ["self", "number", "place"] [] := F.bindsN fun _ _ _ _ _ _ us hl => match us, hl with | [_, _, _], _ => rfl
  obtain ⟨oc, od, dV, kV, doc, pm, an, cdv, ct, osl, rfl, lk, hcd, _, _⟩ := F.ex
  refine ⟨_, b, L2H.fn_ofH lk hcd sc_CodeRaised_init (fun vs H Q E h => ?_) (fun A outer s H vs Q E p hot hr h => ?_)⟩
  · obtain ⟨a, n, p, rfl, _⟩ := h
    rfl
  obtain ⟨a, n, p, rfl, ha, q⟩ := h
  exact ⟨_, pss_cons (ps_ost (pv 0) (pv 1)) (pss_one (ps_ost (pv 0) (pv 2))), pure_iniCR T ha q⟩
theorem pmk_raised {X : Cx} (T : Txt X.w X.K X.mg) {e : Expr} {es : List Expr} {ta : TA} {p pos : Pos} {k : Nat} (D : MDef X.prog X.w X.K X.mg X.base CX0 1 "CodeRaised" "__init__" ["self", "number", "place"] (spIniCR X.K)) (hr : Room k X.A) (hk : 2 ≤ k) (hg : Gl X "CodeRaised") (ha : PA X (e :: es) ta)
    (he : starEach (e :: es) X.env = (false, eval e X.env) :: starEach es X.env := by rfl) (hpl : (backTo pos (starEach es X.env)).any (·.1) = false := by rfl) : L2N.PMk X (.Call (.Name "CodeRaised" p) (e :: es) [] pos) (tMkO (ga X.K "CodeRaised") (spIniCR X.K) [] ta) := by
  obtain ⟨fd, _, h3, F⟩ := D.ex
  exact pmk_oexN T.ox T.oi T.ot F (hr.mono hk) h3 pass0 hg (g_CodeRaised T) ha (by decide) he hpl
theorem pmk_raisedH {X : Cx} (T : Txt X.w X.K X.mg) {e : Expr} {es : List Expr} {ta : TA} {p pos : Pos} {k : Nat} (hr : L2H.RoomH k X.A) (hk : 2 ≤ k) (hc : L2H.HotC X) (hg : Gl X "CodeRaised") (ha : PA X (e :: es) ta)
    (he : starEach (e :: es) X.env = (false, eval e X.env) :: starEach es X.env := by rfl) (hpl : (backTo pos (starEach es X.env)).any (·.1) = false := by rfl) : L2H.PMk5 X (.Call (.Name "CodeRaised" p) (e :: es) [] pos) (tMkO (ga X.K "CodeRaised") (spIniCR X.K) [] ta) := by
  obtain ⟨fd, h3, F⟩ := ok_iniCRH (P := X.prog) (base := X.base) T
  exact L2H.pmk5_oexH T.ox T.oi T.ot F (hr.mono hk) hc h3 pass0 hg (g_CodeRaised T) ha (by decide) he hpl
/-! ### Events, Fuel -/
def spIniEv (K : PySem.W.Frag) : Sp := fun vs H Q _ => ∃ (a dx i : Addr) (xs : List V), vs = [.ref a, .ref i] ∧ H a = some (.ins (ga K "Events") dx []) ∧ H i = some (.lst xs) ∧
  ∀ c m H', H c = none → H m = none → c ≠ m → Stp (fun b => b = a) H H' → H' a = some (.ins (ga K "Events") dx [("inputs", .ref c), ("taken", .int 0), ("made", .ref m)]) → H' c = some (.lst xs) → H' m = some (.lst []) → Q .non H'
def spIniFu (K : PySem.W.Frag) : Sp := fun vs H Q _ => ∃ (a dx : Addr) (n : V), vs = [.ref a, n] ∧ H a = some (.ins (ga K "Fuel") dx []) ∧ ∀ H', Stp (fun b => b = a) H H' → H' a = some (.ins (ga K "Fuel") dx [("units", n)]) → Q .non H'
theorem nfrz_nil {C dx : Addr} : ¬ frz (.ins C dx []) := by
  rintro (h | h | h) <;> exact Bool.noConfusion (show false = true from h)
theorem ok_iniEv (T : Txt w K mg) : MDef P w K mg base CX0 1 "Events" "__init__" ["self", "inputs"] (spIniEv K) := by
  refine D_Events_init T (fun vs H Q E h => ?_) (fun cdv A outer s H vs Q E hr h => ?_)
  · obtain ⟨a, dx, i, xs, rfl, _⟩ := h
    rfl
  obtain ⟨a, dx, i, xs, rfl, ha, hi, q⟩ := h
  refine ⟨_, (pss_cons (ps_fld (pv 0) (pe_callTy call_list_of (by rfl) (b_list T) (by decide +kernel) (pa_cons (pv 1) pa_nil)) rfl) (pss_cons (ps_fld (pv 0) pe_int rfl) (pss_one (ps_fld (pv 0) (pe_lst pa_nil) rfl)))), ?_⟩
  refine ⟨_, rfl, i, xs, rfl, .inl (SqL.of hi), fun c hc => ?_⟩
  have nca : a ≠ c := ne_of_none ha hc
  have e1 : upd H c (.lst xs) a = some (.ins (ga K "Events") dx []) := by rw [upd_ne nca]; exact ha
  refine ⟨_, rfl, a, _, dx, _, rfl, e1, cl_Events T, na_Events_inputs T, by show 0 < 1000; decide, ?_⟩
  refine ⟨_, rfl, a, _, dx, _, rfl, upd_same, cl_Events T, na_Events_taken T, by show 1 < 1000; decide, ?_⟩
  refine ⟨by show 0 ≤ sizeLine; decide, fun m hm => ?_⟩
  have nma : a ≠ m := ne_of_none upd_same hm
  refine ⟨_, rfl, a, _, dx, _, rfl, by rw [upd_ne nma]; exact upd_same, cl_Events T, na_Events_made T, by show 2 < 1000; decide, ?_⟩
  have hm0 : H m = none := by
    rw [upd_ne (Ne.symm nma), upd_ne (Ne.symm nma)] at hm
    by_cases z : m = c
    · rw [z, upd_same] at hm
      cases hm
    · rw [upd_ne z] at hm
      exact hm
  have ncm : c ≠ m := by
    intro z
    rw [upd_ne (Ne.symm nma), upd_ne (Ne.symm nma), ← z, upd_same] at hm
    cases hm
  refine q c m _ hc hm0 ncm ?_ upd_same ?_ ?_
  · exact (Stp.new hc).trans ((Stp.put (S := fun b => b = a) e1 rfl nfrz_nil).trans ((Stp.put (S := fun b => b = a) upd_same rfl (by rintro (h | h | h) <;> exact Bool.noConfusion (show false = true from h))).trans ((Stp.new hm).trans (Stp.put (S := fun b => b = a) (by rw [upd_ne nma]; exact upd_same) rfl (by rintro (h | h | h) <;> exact Bool.noConfusion (show false = true from h))))))
  · rw [upd_ne (Ne.symm nca), upd_ne ncm, upd_ne (Ne.symm nca), upd_ne (Ne.symm nca)]
    exact upd_same
  · rw [upd_ne (Ne.symm nma)]
    exact upd_same
theorem ok_iniFu (T : Txt w K mg) : MDef P w K mg base CX0 1 "Fuel" "__init__" ["self", "units"] (spIniFu K) := by
  refine D_Fuel_init T (fun vs H Q E h => ?_) (fun cdv A outer s H vs Q E hr h => ?_)
  · obtain ⟨a, dx, n, rfl, _⟩ := h
    rfl
  obtain ⟨a, dx, n, rfl, ha, q⟩ := h
  refine ⟨_, (pss_one (ps_fld (pv 0) (pv 1) rfl)), ?_⟩
  exact ⟨_, rfl, _, rfl, a, _, dx, _, rfl, ha, cl_Fuel T, na_Fuel_units T, by show 0 < 1000; decide, q _ (Stp.put ha rfl nfrz_nil) upd_same⟩
end
end WX
/-! ## WP3 -/
set_option Elab.async false
set_option linter.all false
set_option maxRecDepth 100000
set_option maxHeartbeats 2000000
/-! What the run's own methods do. -/
namespace WX
open PySem PySem.Spec PyProof.Rows L2 He
open Wn (Op Ar Ins Rg Un Mod G Out Nx Word wordB exact val)
section
variable {K : PySem.W.Frag} {S : Addr → Prop} {H H' : Hp} {D : RD} {ins : List Int} {g : G} {cas : List Addr} {ra : Addr} {rs : List Int}
def insLen : HO → Nat
  | .ins _ _ fs => fs.length + 1
  | _ => 0
theorem ne_len {a b : Addr} {o u : HO} (h1 : H a = some o) (h2 : H b = some u) (d : insLen o ≠ insLen u) : a ≠ b := ne_of h1 h2 fun z => d (by rw [z])
theorem Lite.runEv (l : Lite K H D ins g) : D.run ≠ D.ev := ne_len l.run l.ev (by show (6 : Nat) ≠ 4; decide)
theorem Lite.runFu (l : Lite K H D ins g) : D.run ≠ D.fu := ne_len l.run l.fu (by show (6 : Nat) ≠ 2; decide)
theorem Lite.evFu (l : Lite K H D ins g) : D.ev ≠ D.fu := ne_len l.ev l.fu (by show (4 : Nat) ≠ 2; decide)
theorem Lite.insNe (l : Lite K H D ins g) {b : Addr} {xs : List V} (h : H b = some (.lst xs)) : D.run ≠ b ∧ D.ev ≠ b ∧ D.fu ≠ b := ⟨ne_len l.run h (by show (6 : Nat) ≠ 0; decide), ne_len l.ev h (by show (4 : Nat) ≠ 0; decide), ne_len l.fu h (by show (2 : Nat) ≠ 0; decide)⟩
theorem nfrz_ev {n : Nat} : ¬ frz (evO K D n) := by
  rintro (h | h | h) <;> exact Bool.noConfusion (show false = true from h)
theorem nfrz_fu {n : Nat} : ¬ frz (fuO K D n) := by
  rintro (h | h | h) <;> exact Bool.noConfusion (show false = true from h)
theorem nfrz_lst {xs : List V} : ¬ frz (.lst xs) := fun h => h
/-- the other lists -/
structure Nds (D : RD) (cas : List Addr) (ra : Addr) : Prop where
  ms : D.md ≠ D.sn
  mi : D.md ≠ D.inp
  mr : D.md ≠ ra
  mc : ∀ c ∈ cas, D.md ≠ c
  si : D.sn ≠ D.inp
  sr : D.sn ≠ ra
  sc : ∀ c ∈ cas, D.sn ≠ c
  ir : D.inp ≠ ra
  ic : ∀ c ∈ cas, D.inp ≠ c
  rc : ∀ c ∈ cas, ra ≠ c
theorem StA.nds (s : StA K H D ins g cas ra rs) : Nds D cas ra := by
  have nd := s.nd
  simp only [List.nodup_cons, List.mem_cons, not_or] at nd
  obtain ⟨⟨n1, n2, n3, n4⟩, ⟨n5, n6, n7⟩, ⟨n8, n9⟩, n10, n11⟩ := nd
  exact ⟨n1, n2, n3, fun c h z => n4 (z ▸ h), n5, n6, fun c h z => n7 (z ▸ h), n8, fun c h z => n9 (z ▸ h), fun c h z => n10 (z ▸ h)⟩
/-- an event more -/
theorem StA.ev (s : StA K H D ins g cas ra rs) {l : List V} (hl : H D.md = some (.lst l)) {t : Addr} (b : Bool) (x : Int) (ht : H t = none) :
    StA K (upd (upd H t (.tup [.str (if b = true then "put" else "get"), .int x])) D.md (.lst (l ++ [.ref t]))) D ins { g with evs := g.evs ++ [(b, x)] } cas ra rs ∧
      Stp (Chg D cas ra) H (upd (upd H t (.tup [.str (if b = true then "put" else "get"), .int x])) D.md (.lst (l ++ [.ref t]))) := by
  have N := s.nds
  obtain ⟨l', m1, m2⟩ := s.l.md
  rw [hl] at m1
  cases m1
  obtain ⟨l2, s1, s2⟩ := s.l.sn
  have st1 : Stp S0 H (upd H t (.tup [.str (if b = true then "put" else "get"), .int x])) := Stp.new ht
  have tm : D.md ≠ t := ne_of_none hl ht
  have hl' : upd H t (.tup [.str (if b = true then "put" else "get"), .int x]) D.md = some (.lst l) := by rw [upd_ne tm]; exact hl
  have st2 : Stp (fun a => a = D.md) (upd H t (.tup [.str (if b = true then "put" else "get"), .int x])) (upd (upd H t (.tup [.str (if b = true then "put" else "get"), .int x])) D.md (.lst (l ++ [.ref t]))) := Stp.put hl' rfl nfrz_lst
  have st : Stp (fun a => a = D.md) H (upd (upd H t (.tup [.str (if b = true then "put" else "get"), .int x])) D.md (.lst (l ++ [.ref t]))) := st1.z.trans st2
  have f : ∀ {a : Addr} {o : HO}, (e : H a = some o) → (n : a ≠ D.md) → (w : ours o := by exact True.intro) → upd (upd H t (.tup [.str (if b = true then "put" else "get"), .int x])) D.md (.lst (l ++ [.ref t])) a = some o := fun {a o} e n w => st.at e (fun z => absurd z n) w
  obtain ⟨k1, k2, k3⟩ := s.l.insNe hl
  refine ⟨⟨⟨f s.l.run k1, f s.l.ev k2, f s.l.fu k3, f s.l.inp (Ne.symm N.mi), ⟨_, upd_same, (m2.mono fun _ _ z => z.st st).snoc ⟨t, rfl, ?_⟩⟩, ⟨l2, f s1 (Ne.symm N.ms), s2.mono fun _ _ z => z.st st⟩, s.l.tk⟩, ⟨s.c.1, fun i a c e1 e2 => f (s.c.2 i a c e1 e2) ?_⟩, f s.r (Ne.symm N.mr), s.nd⟩, ?_⟩
  · rw [upd_ne (Ne.symm tm)]
    exact upd_same
  · exact fun z => N.mc a (List.mem_of_getElem? e1) z.symm
  · exact st.mono fun a z => .inr (.inr (.inl z))
/-- one is taken -/
theorem StA.take (s : StA K H D ins g cas ra rs) (h : g.taken + 1 ≤ ins.length) : StA K (upd H D.ev (evO K D (g.taken + 1))) D ins { g with taken := g.taken + 1 } cas ra rs ∧ Stp (Chg D cas ra) H (upd H D.ev (evO K D (g.taken + 1))) := by
  obtain ⟨l1, m1, m2⟩ := s.l.md
  obtain ⟨l2, s1, s2⟩ := s.l.sn
  have st : Stp (fun a => a = D.ev) H (upd H D.ev (evO K D (g.taken + 1))) := Stp.put s.l.ev rfl nfrz_ev
  have f : ∀ {a : Addr} {o : HO}, (e : H a = some o) → (n : a ≠ D.ev) → (w : ours o := by exact True.intro) → upd H D.ev (evO K D (g.taken + 1)) a = some o := fun {a o} e n w => st.at e (fun z => absurd z n) w
  have q : ∀ {b : Addr} {xs : List V}, H b = some (.lst xs) → b ≠ D.ev := fun e => Ne.symm (s.l.insNe e).2.1
  exact ⟨⟨⟨f s.l.run s.l.runEv, upd_same, f s.l.fu (Ne.symm s.l.evFu), f s.l.inp (q s.l.inp), ⟨l1, f m1 (q m1), m2.mono fun _ _ z => z.st st⟩, ⟨l2, f s1 (q s1), s2.mono fun _ _ z => z.st st⟩, h⟩, ⟨s.c.1, fun i a c e1 e2 => f (s.c.2 i a c e1 e2) (q (s.c.2 i a c e1 e2))⟩, f s.r (q s.r), s.nd⟩, st.mono fun a z => .inl z⟩
/-- a tick -/
theorem StA.tick (s : StA K H D ins g cas ra rs) (n : Nat) : StA K (upd H D.fu (fuO K D n)) D ins { g with fuel := n } cas ra rs ∧ Stp (Chg D cas ra) H (upd H D.fu (fuO K D n)) := by
  obtain ⟨l1, m1, m2⟩ := s.l.md
  obtain ⟨l2, s1, s2⟩ := s.l.sn
  have st : Stp (fun a => a = D.fu) H (upd H D.fu (fuO K D n)) := Stp.put s.l.fu rfl nfrz_fu
  have f : ∀ {a : Addr} {o : HO}, (e : H a = some o) → (nn : a ≠ D.fu) → (w : ours o := by exact True.intro) → upd H D.fu (fuO K D n) a = some o := fun {a o} e n w => st.at e (fun z => absurd z n) w
  have q : ∀ {b : Addr} {xs : List V}, H b = some (.lst xs) → b ≠ D.fu := fun e => Ne.symm (s.l.insNe e).2.2
  exact ⟨⟨⟨f s.l.run s.l.runFu, f s.l.ev s.l.evFu, upd_same, f s.l.inp (q s.l.inp), ⟨l1, f m1 (q m1), m2.mono fun _ _ z => z.st st⟩, ⟨l2, f s1 (q s1), s2.mono fun _ _ z => z.st st⟩, s.l.tk⟩, ⟨s.c.1, fun i a c e1 e2 => f (s.c.2 i a c e1 e2) (q (s.c.2 i a c e1 e2))⟩, f s.r (q s.r), s.nd⟩, st.mono fun a z => .inr (.inl z)⟩
/-- a row is noted -/
theorem StA.see (s : StA K H D ins g cas ra rs) {l : List V} (hl : H D.sn = some (.lst l)) {t b : Addr} (u i : Nat) (hb : H b = none) (ht : upd H b (.tup (rs.map V.int)) t = none) (hlim : l.length < D.lim) :
    StA K (upd (upd (upd H b (.tup (rs.map V.int))) t (.tup [.int u, .int i, .ref b])) D.sn (.lst (l ++ [.ref t]))) D ins (Wn.note g u i rs) cas ra rs ∧
      Stp (Chg D cas ra) H (upd (upd (upd H b (.tup (rs.map V.int))) t (.tup [.int u, .int i, .ref b])) D.sn (.lst (l ++ [.ref t]))) := by
  have N := s.nds
  obtain ⟨l', m1, m2⟩ := s.l.sn
  rw [hl] at m1
  cases m1
  obtain ⟨l2, s1, s2⟩ := s.l.md
  have nbs : D.sn ≠ b := ne_of_none hl hb
  have hl1 : upd H b (.tup (rs.map V.int)) D.sn = some (.lst l) := by rw [upd_ne nbs]; exact hl
  have nts : D.sn ≠ t := ne_of_none hl1 ht
  have hl2 : upd (upd H b (.tup (rs.map V.int))) t (.tup [.int u, .int i, .ref b]) D.sn = some (.lst l) := by rw [upd_ne nts]; exact hl1
  have nbt : b ≠ t := ne_of_none upd_same ht
  have st : Stp (fun a => a = D.sn) H (upd (upd (upd H b (.tup (rs.map V.int))) t (.tup [.int u, .int i, .ref b])) D.sn (.lst (l ++ [.ref t]))) := (Stp.new hb).trans ((Stp.new ht).trans (Stp.put hl2 rfl nfrz_lst))
  have f : ∀ {a : Addr} {o : HO}, (e : H a = some o) → (n : a ≠ D.sn) → (w : ours o := by exact True.intro) → upd (upd (upd H b (.tup (rs.map V.int))) t (.tup [.int u, .int i, .ref b])) D.sn (.lst (l ++ [.ref t])) a = some o := fun {a o} e n w => st.at e (fun z => absurd z n) w
  obtain ⟨k1, k2, k3⟩ := s.l.insNe hl
  have hlen : (g.seen.take D.lim).length < D.lim := by rw [← m2.1]; exact hlim
  have e1 : g.seen.take D.lim = g.seen := by
    rw [List.length_take] at hlen
    exact List.take_of_length_le (by omega)
  have e2 : (Wn.note g u i rs).seen.take D.lim = g.seen.take D.lim ++ [(u, i, rs)] := by
    show (g.seen ++ [(u, i, rs)]).take D.lim = _
    rw [e1, List.take_of_length_le]
    rw [e1] at hlen
    simp only [List.length_append, List.length_singleton]
    omega
  refine ⟨⟨⟨f s.l.run k1, f s.l.ev k2, f s.l.fu k3, f s.l.inp (Ne.symm N.si), ⟨l2, f s1 N.ms, s2.mono fun _ _ z => z.st st⟩, ⟨_, upd_same, ?_⟩, s.l.tk⟩, ⟨s.c.1, fun j a c e1 e2 => f (s.c.2 j a c e1 e2) ?_⟩, f s.r (Ne.symm N.sr), s.nd⟩, st.mono fun a z => .inr (.inr (.inr (.inl z)))⟩
  · rw [e2]
    refine (m2.mono fun _ _ z => z.st st).snoc ⟨t, b, rfl, ?_, ?_⟩
    · rw [upd_ne (Ne.symm nts)]
      exact upd_same
    · rw [upd_ne (Ne.symm nbs), upd_ne nbt]
      exact upd_same
  · exact fun z => N.sc a (List.mem_of_getElem? e1) z.symm
/-- the list is full -/
theorem StA.see0 (s : StA K H D ins g cas ra rs) {l : List V} (hl : H D.sn = some (.lst l)) (u i : Nat) (hlim : ¬ l.length < D.lim) : StA K H D ins (Wn.note g u i rs) cas ra rs := by
  obtain ⟨l', m1, m2⟩ := s.l.sn
  rw [hl] at m1
  cases m1
  have h1 : D.lim ≤ (g.seen.take D.lim).length := by rw [← m2.1]; omega
  rw [List.length_take] at h1
  refine ⟨⟨s.l.run, s.l.ev, s.l.fu, s.l.inp, s.l.md, ⟨l, hl, ?_⟩, s.l.tk⟩, s.c, s.r, s.nd⟩
  have e2 : (Wn.note g u i rs).seen.take D.lim = g.seen.take D.lim := by
    show (g.seen ++ [(u, i, rs)]).take D.lim = _
    rw [List.take_append_of_le_length (by omega)]
  rw [e2]
  exact m2
theorem nodup_inj {α : Type} {l : List α} (nd : l.Nodup) {i j : Nat} {a : α} (h1 : l[i]? = some a) (h2 : l[j]? = some a) : i = j := by
  obtain ⟨i1, e1⟩ := List.getElem?_eq_some_iff.mp h1
  obtain ⟨i2, e2⟩ := List.getElem?_eq_some_iff.mp h2
  have q := List.pairwise_iff_getElem.mp nd
  rcases Nat.lt_trichotomy i j with z | z | z
  · exact absurd (e1.trans e2.symm) (q i j i1 i2 z)
  · exact z
  · exact absurd (e2.trans e1.symm) (q j i i2 i1 z)
/-- a cell is stored -/
theorem StA.cell (s : StA K H D ins g cas ra rs) {j : Nat} {ca : Addr} {c : List Int} (hj : cas[j]? = some ca) (hc : g.cs[j]? = some c) (c' : List Int) :
    StA K (upd H ca (.lst (c'.map V.int))) D ins { g with cs := g.cs.set j c' } cas ra rs ∧ Stp (Chg D cas ra) H (upd H ca (.lst (c'.map V.int))) := by
  have N := s.nds
  have hm := List.mem_of_getElem? hj
  have hca : H ca = some (.lst (c.map V.int)) := s.c.2 j ca c hj hc
  obtain ⟨l1, m1, m2⟩ := s.l.md
  obtain ⟨l2, s1, s2⟩ := s.l.sn
  have st : Stp (fun a => a = ca) H (upd H ca (.lst (c'.map V.int))) := Stp.put hca rfl nfrz_lst
  have f : ∀ {a : Addr} {o : HO}, (e : H a = some o) → (n : a ≠ ca) → (w : ours o := by exact True.intro) → upd H ca (.lst (c'.map V.int)) a = some o := fun {a o} e n w => st.at e (fun z => absurd z n) w
  obtain ⟨k1, k2, k3⟩ := s.l.insNe hca
  refine ⟨⟨⟨f s.l.run k1, f s.l.ev k2, f s.l.fu k3, f s.l.inp (N.ic ca hm), ⟨l1, f m1 (N.mc ca hm), m2.mono fun _ _ z => z.st st⟩, ⟨l2, f s1 (N.sc ca hm), s2.mono fun _ _ z => z.st st⟩, s.l.tk⟩, ⟨by rw [List.length_set]; exact s.c.1, fun i a d e1 e2 => ?_⟩, f s.r (N.rc ca hm), s.nd⟩, st.mono fun a z => .inr (.inr (.inr (.inr (.inr (z ▸ hm)))))⟩
  by_cases z : i = j
  · subst z
    rw [hj] at e1
    cases e1
    have q : (g.cs.set i c')[i]? = some c' := by
      rw [List.getElem?_set]
      rw [if_pos rfl, if_pos (List.getElem?_eq_some_iff.mp hc).1]
    have e2' : (g.cs.set i c')[i]? = some d := e2
    rw [q] at e2'
    cases e2'
    exact upd_same
  · have q : (g.cs.set j c')[i]? = g.cs[i]? := by rw [List.getElem?_set, if_neg (Ne.symm z)]
    have e2' : (g.cs.set j c')[i]? = some d := e2
    rw [q] at e2'
    refine f (s.c.2 i a d e1 e2') fun y => z ?_
    have nd : cas.Nodup := by
      have nd := s.nd
      simp only [List.nodup_cons] at nd
      exact nd.2.2.2.2
    subst y
    exact nodup_inj nd e1 hj
end
/-! ### the methods' promises -/
def bigE (g : G) : Prop := g.evs.length < sizeLine
def spPut (K : PySem.W.Frag) : Sp := fun vs H Q _ => ∃ (D : RD) (ins : List Int) (g : G) (cas : List Addr) (ra : Addr) (rs : List Int) (x : Int), vs = [.ref D.ev, .int x] ∧ StA K H D ins g cas ra rs ∧ bigE g ∧
  ∀ H', Stp (Chg D cas ra) H H' → StA K H' D ins { g with evs := g.evs ++ [(true, x)] } cas ra rs → Q .non H'
def spGet (K : PySem.W.Frag) : Sp := fun vs H Q E => ∃ (D : RD) (ins : List Int) (g : G) (cas : List Addr) (ra : Addr) (rs : List Int), vs = [.ref D.ev] ∧ StA K H D ins g cas ra rs ∧ bigE g ∧
  (ins[g.taken]? = none → E (.ref (ga K "NoInput")) none H) ∧
  (∀ x, ins[g.taken]? = some x → ∀ H', Stp (Chg D cas ra) H H' → StA K H' D ins { g with taken := g.taken + 1, evs := g.evs ++ [(false, x)] } cas ra rs → Q (.int x) H')
def spRows (K : PySem.W.Frag) : Sp := fun vs H Q _ => ∃ (a dx m : Addr) (fs : List (Str × V)) (l : List V), vs = [.ref a] ∧ H a = some (.ins (ga K "Events") dx fs) ∧ fs.lookup ("made" : Str) = some (.ref m) ∧ H m = some (.lst l) ∧ ∀ t, H t = none → Q (.ref t) (upd H t (.tup l))
def spTick (K : PySem.W.Frag) : Sp := fun vs H Q E => ∃ (D : RD) (ins : List Int) (g : G) (cas : List Addr) (ra : Addr) (rs : List Int), vs = [.ref D.fu] ∧ StA K H D ins g cas ra rs ∧
  (g.fuel = 0 → E (.ref (ga K "OutOfFuel")) none H) ∧ (g.fuel ≠ 0 → ∀ H', Stp (Chg D cas ra) H H' → StA K H' D ins { g with fuel := g.fuel - 1 } cas ra rs → Q .non H')
def spNote (K : PySem.W.Frag) : Sp := fun vs H Q _ => ∃ (D : RD) (ins : List Int) (g : G) (cas : List Addr) (ra : Addr) (rs : List Int) (fa fx : Addr) (u i j : Nat) (ua par ca : V), vs = [.ref D.run, .ref fa, .int i] ∧ StA K H D ins g cas ra rs ∧ D.lim ≤ 1000 ∧ rs.length ≤ 1000 ∧
  H fa = some (frO K fx (.int u) ua par j (.ref ra) ca) ∧ ∀ H', Stp (Chg D cas ra) H H' → StA K H' D ins (Wn.note g u i rs) cas ra rs → Q .non H'
section
variable {P : Program} {w : World} {K : PySem.W.Frag} {mg : Str → Option Value} {base : Heap}
theorem ok_put (T : Txt w K mg) : MDef P w K mg base CX0 1 "Events" "put" ["self", "word"] (spPut K) := by
  refine D_Events_put T (fun vs H Q E h => ?_) (fun cdv A outer s H vs Q E hr h => ?_)
  · obtain ⟨D, ins, g, cas, ra, rs, x, rfl, _⟩ := h
    rfl
  obtain ⟨D, ins, g, cas, ra, rs, x, rfl, S, hb, q⟩ := h
  refine ⟨_, (pss_one (ps_expr (pe_bm PySem.F.plainAttrs_list PySem.F.slot_list_append PySem.F.type_list_append mt_append (pe_fld (pv 0) rfl) (pa_cons (pe_tup (pa_cons pe_str (pa_cons (pv 1) pa_nil))) pa_nil)))), ?_⟩
  obtain ⟨l, m1, m2⟩ := S.l.md
  refine ⟨_, rfl, D.ev, _, _, _, _, rfl, S.l.ev, cl_Events T, na_Events_made T, rfl, .inl ⟨rfl, _, SqL.of m1⟩, _, rfl, (by show 2 ≤ sizeLine; decide), fun t ht => ?_⟩
  have tm : D.md ≠ t := ne_of_none m1 ht
  refine ⟨D.md, l, _, rfl, rfl, by rw [upd_ne tm]; exact m1, by rw [m2.1]; exact hb, ?_⟩
  obtain ⟨s1, s2⟩ := S.ev m1 true x ht
  exact q _ s2 s1
theorem ok_get (T : Txt w K mg) : MDef P w K mg base (L2N.CX P w) 1 "Events" "get" ["self"] (spGet K) := by
  refine D_Events_get T (fun vs H Q E h => ?_) (fun cdv A outer s H vs Q E hr h => ?_)
  · obtain ⟨D, ins, g, cas, ra, rs, rfl, _⟩ := h
    rfl
  obtain ⟨D, ins, g, cas, ra, rs, rfl, S, hb, q1, q2⟩ := h
  refine ⟨_, (pss_cons (ps_if (pt_cmpR op_eq (pe_fld (pv 0) rfl) (pe_callB call_len_seq (by rfl) (b_len T) PySem.boot_len (pa_cons (pe_fld (pv 0) rfl) pa_nil)) (nomark _)) (pss_one (L2N.ps_raise rfl (L2N.takes_of rfl rfl rfl rfl) (L2N.pmk_own PySem.F.excBase_ValueError (ex_NoInput T).1 (g_NoInput T) (ex_NoInput T).2.1 (raises_own (ex_NoInput T).2.2.1 (ex_NoInput T).2.2.2) rfl))) pss_nil) (pss_cons (ps_set (i := 1) sc_Events_get.nd rfl (Or.inl rfl) (pe_ix ix_list (pe_fld (pv 0) rfl) (pe_fld (pv 0) rfl) (fun _ _ => rfl))) (pss_cons (ps_fld (pv 0) (pe_op op_add (pe_fld (pv 0) rfl) pe_int) rfl) (pss_cons (ps_expr (pe_bm PySem.F.plainAttrs_list PySem.F.slot_list_append PySem.F.type_list_append mt_append (pe_fld (pv 0) rfl) (pa_cons (pe_tup (pa_cons pe_str (pa_cons (pv 1) pa_nil))) pa_nil))) (pss_one (ps_ret (pv 1))))))), ?_⟩
  obtain ⟨l, m1, m2⟩ := S.l.md
  have hl : (ins.map V.int).length = ins.length := List.length_map _
  refine ⟨_, rfl, D.ev, _, _, _, _, rfl, S.l.ev, cl_Events T, na_Events_taken T, rfl, _, rfl, D.ev, _, _, _, _, rfl, S.l.ev, cl_Events T, na_Events_inputs T, rfl, D.inp, _, rfl, .inl (SqL.of S.l.inp), rfl, _, rfl, ite2 (fun c => ?_) (fun c => ?_)⟩
  · refine q1 (List.getElem?_eq_none_iff.mpr ?_)
    have c' := of_decide_eq_true c
    rw [hl] at c'
    have c2 := V.int.inj c'
    omega
  · have c' := of_decide_eq_false (Bool.eq_false_iff.mpr c)
    have lt : g.taken < ins.length := by
      have t := S.l.tk
      refine Nat.lt_of_le_of_ne t fun z => c' ?_
      rw [hl, z]
    have hx : ins[g.taken]? = some ins[g.taken] := List.getElem?_eq_getElem lt
    have hx2 : (ins.map V.int)[g.taken]? = some (.int ins[g.taken]) := by rw [List.getElem?_map, hx]; rfl
    refine ⟨_, rfl, D.ev, _, _, _, _, rfl, S.l.ev, cl_Events T, na_Events_inputs T, rfl, _, rfl, D.ev, _, _, _, _, rfl, S.l.ev, cl_Events T, na_Events_taken T, rfl, D.inp, _, _, _, rfl, rfl, SqL.of S.l.inp, atI_nat hx2, ?_⟩
    refine ⟨_, rfl, D.ev, _, _, _, _, rfl, S.l.ev, cl_Events T, na_Events_taken T, rfl, _, _, rfl, rfl, _, rfl, D.ev, _, _, _, rfl, S.l.ev, cl_Events T, na_Events_taken T, by show 3 < 1000; decide, ?_⟩
    obtain ⟨S2, t2⟩ := S.take (by omega)
    obtain ⟨l, m1, m2⟩ := S2.l.md
    refine ⟨_, rfl, D.ev, _, _, _, _, rfl, S2.l.ev, cl_Events T, na_Events_made T, rfl, .inl ⟨rfl, _, SqL.of m1⟩, _, rfl, (by show 2 ≤ sizeLine; decide), fun t ht => ?_⟩
    have tm : D.md ≠ t := ne_of_none m1 ht
    refine ⟨D.md, l, _, rfl, rfl, (upd_ne tm).trans m1, by rw [m2.1]; exact hb, ?_⟩
    obtain ⟨s1, s2⟩ := S2.ev m1 false ins[g.taken] ht
    exact ⟨_, rfl, q2 _ hx _ (t2.trans s2) s1⟩
theorem ok_tick (T : Txt w K mg) : MDef P w K mg base (CX P w) 1 "Fuel" "tick" ["self"] (spTick K) := by
  refine D_Fuel_tick T (fun vs H Q E h => ?_) (fun cdv A outer s H vs Q E hr h => ?_)
  · obtain ⟨D, ins, g, cas, ra, rs, rfl, _⟩ := h
    rfl
  obtain ⟨D, ins, g, cas, ra, rs, rfl, S, q1, q2⟩ := h
  refine ⟨_, (pss_cons (ps_if (pt_cmpR op_le (pe_fld (pv 0) rfl) pe_int (nomark _)) (pss_one (ps_raise rfl (takes_of rfl rfl rfl rfl) (L2N.pmk_own PySem.F.excBase_ValueError (ex_OutOfFuel T).1 (g_OutOfFuel T) (ex_OutOfFuel T).2.1 (raises_own (ex_OutOfFuel T).2.2.1 (ex_OutOfFuel T).2.2.2) rfl))) pss_nil) (pss_one (ps_fld (pv 0) (pe_op op_sub (pe_fld (pv 0) rfl) pe_int) rfl))), ?_⟩
  refine ⟨_, rfl, D.fu, _, _, _, _, rfl, S.l.fu, cl_Fuel T, na_Fuel_units T, rfl, _, _, rfl, rfl, _, rfl, ite2 (fun c => ?_) (fun c => ?_)⟩
  · have c' := of_decide_eq_true c
    exact q1 (by omega)
  · have c' := of_decide_eq_false (Bool.eq_false_iff.mpr c)
    refine ⟨_, rfl, D.fu, _, _, _, _, rfl, S.l.fu, cl_Fuel T, na_Fuel_units T, rfl, _, _, rfl, rfl, _, rfl, D.fu, _, _, _, rfl, S.l.fu, cl_Fuel T, na_Fuel_units T, by show 1 < 1000; decide, ?_⟩
    obtain ⟨S2, t2⟩ := S.tick (g.fuel - 1)
    have e : ((g.fuel - 1 : Nat) : Int) = (g.fuel : Int) - 1 := by omega
    unfold fuO at S2 t2
    rw [e] at S2 t2
    exact q2 (by omega) _ t2 S2
theorem ok_note (T : Txt w K mg) : MDef P w K mg base CX0 1 "CodeRun" "note" ["self", "frame", "index"] (spNote K) := by
  refine D_CodeRun_note T (fun vs H Q E h => ?_) (fun cdv A outer s H vs Q E hr h => ?_)
  · obtain ⟨D, ins, g, cas, ra, rs, fa, fx, u, i, j, ua, par, ca, rfl, _⟩ := h
    rfl
  obtain ⟨D, ins, g, cas, ra, rs, fa, fx, u, i, j, ua, par, ca, rfl, S, hlim, hlen, hf, q⟩ := h
  refine ⟨_, (pss_one (ps_if (pt_cmpR op_lt (pe_callB call_len_seq (by rfl) (b_len T) PySem.boot_len (pa_cons (pe_fld (pv 0) rfl) pa_nil)) (pe_fld (pv 0) rfl) (nomark _)) (pss_one (ps_expr (pe_bm PySem.F.plainAttrs_list PySem.F.slot_list_append PySem.F.type_list_append mt_append (pe_fld (pv 0) rfl) (pa_cons (pe_tup (pa_cons (pe_fld (pv 1) rfl) (pa_cons (pv 2) (pa_cons (pe_callTy call_tuple_of (by rfl) (b_tuple T) (by decide +kernel) (pa_cons (pe_fld (pv 1) rfl) pa_nil)) pa_nil)))) pa_nil)))) pss_nil)), ?_⟩
  obtain ⟨l, m1, m2⟩ := S.l.sn
  refine ⟨_, rfl, D.run, _, _, _, _, rfl, S.l.run, cl_CodeRun T, na_CodeRun_seen T, rfl, D.sn, _, rfl, .inl (SqL.of m1), _, rfl, D.run, _, _, _, _, rfl, S.l.run, cl_CodeRun T, na_CodeRun_limit T, rfl, _, _, rfl, rfl, _, rfl, ite2 (fun c => ?_) (fun c => ?_)⟩
  · have c' := of_decide_eq_true c
    have c2 : l.length < D.lim := by omega
    refine ⟨_, rfl, D.run, _, _, _, _, rfl, S.l.run, cl_CodeRun T, na_CodeRun_seen T, rfl, .inl ⟨rfl, _, SqL.of m1⟩, ?_⟩
    refine ⟨_, rfl, fa, _, _, _, _, rfl, hf, cl_Frame T, na_Frame_number T, rfl, _, rfl, _, rfl, fa, _, _, _, _, rfl, hf, cl_Frame T, na_Frame_registers T, rfl, ra, _, rfl, .inl ⟨SqL.of S.r, fun b hb => ?_⟩⟩
    refine ⟨by show 3 ≤ sizeLine; decide, fun t ht => ?_⟩
    obtain ⟨s1, s2⟩ := S.see m1 u i hb ht c2
    have nb : D.sn ≠ b := ne_of_none m1 hb
    have h1 : upd H b (.tup (rs.map V.int)) D.sn = some (.lst l) := by rw [upd_ne nb]; exact m1
    refine ⟨D.sn, l, _, rfl, rfl, by rw [upd_ne (ne_of_none h1 ht)]; exact h1, Nat.lt_of_lt_of_le c2 (Nat.le_trans hlim (Nat.le_of_lt (small1000 (Nat.le_refl _)))), ?_⟩
    exact q _ s2 s1
  · have c' := of_decide_eq_false (Bool.eq_false_iff.mpr c)
    exact q _ Stp.refl (S.see0 m1 u i (by omega))
end
end WX
/-! ## WP4 -/
set_option Elab.async false
set_option linter.all false
set_option maxRecDepth 100000
set_option maxHeartbeats 2000000
/-! Frames; what an instruction finds. -/
namespace WX
open PySem PySem.Spec PyProof.Rows L2 He
open Wn (Op Ar Ins Rg Un Mod G Out Nx Word wordB exact val StOk EnvOk InsOk OpOk)
theorem rep_flat (n : Nat) : ((List.replicate ((n : Int)).toNat [V.int 0]).flatten) = (List.replicate n (0 : Int)).map V.int := by
  rw [Int.toNat_natCast]
  induction n with
  | zero => rfl
  | succ n ih => rw [List.replicate_succ, List.replicate_succ, List.flatten_cons, ih]; rfl
theorem fld_k {K : PySem.W.Frag} {H : Hp} {a C dx : Addr} {fs : List (Str × V)} {f : Str} {y : V} {R : Hp → Prop} (ha : H a = some (.ins C dx fs)) (c : Cls K C) (n : NoAttr K C f) (l : fs.length < 1000) (nf : ¬ frz (.ins C dx fs))
    (k : ∀ H', Stp (fun b => b = a) H H' → H' a = some (.ins C dx (putF f y fs)) → R H') : ∃ a' C' dx' fs', V.ref a = .ref a' ∧ H a' = some (.ins C' dx' fs') ∧ Cls K C' ∧ NoAttr K C' f ∧ fs'.length < 1000 ∧ R (upd H a' (.ins C' dx' (putF f y fs'))) :=
  ⟨a, C, dx, fs, rfl, ha, c, n, l, k _ (Stp.put ha rfl nf) upd_same⟩
theorem new_k {H : Hp} {o : HO} {Q : VK} (k : ∀ p H', H p = none → Stp S0 H H' → H' p = some o → Q (.ref p) H') : ∀ p, H p = none → Q (.ref p) (upd H p o) := fun p hp => k p _ hp (Stp.new hp) upd_same
theorem gnew {H H' : Hp} {p : Addr} {o : HO} (e : upd H p o = H') (n : H p = none) : Stp S0 H H' ∧ H' p = some o := by
  subst e
  exact ⟨Stp.new n, upd_same⟩
local macro_rules | `(tactic| walk_at "new") => `(tactic| (intro p hp; generalize hG : upd _ p _ = H5; obtain ⟨s5, h5⟩ := gnew hG hp; clear hG))
theorem nf3 {C dx : Addr} {fs : List (Str × V)} (h1 : (fs.lookup ("cells" : Str)).isSome = false) (h2 : (fs.lookup ("places" : Str)).isSome = false) (h3 : (fs.lookup ("seen" : Str)).isSome = false) : ¬ frz (.ins C dx fs) := by
  rintro (h | h | h)
  · rw [h1] at h; cases h
  · rw [h2] at h; cases h
  · rw [h3] at h; cases h
def spIniFr (K : PySem.W.Frag) : Sp := fun vs H Q _ => ∃ (a dx ua ux : Addr) (u : V) (par : V) (i m n : Nat) (fs : List (Str × V)), vs = [.ref a, u, .ref ua, par, .int ((i : Int) + 1)] ∧ H a = some (.ins (ga K "Frame") dx []) ∧ H ua = some (.ins (ga K "Unit") ux fs) ∧ fs.lookup ("registers" : Str) = some (.int m) ∧ fs.lookup ("cells" : Str) = some (.int n) ∧ m ≤ 1000 ∧ n ≤ 1000 ∧
  ∀ ra ca H', New H ra → New H ca → ra ≠ ca → Stp (fun b => b = a) H H' → H' a = some (frO K dx u (.ref ua) par i (.ref ra) (.ref ca)) → H' ra = some (.lst ((List.replicate m (0 : Int)).map V.int)) → H' ca = some (.lst ((List.replicate n (0 : Int)).map V.int)) → Q .non H'
def spVal (K : PySem.W.Frag) : Sp := fun vs H Q _ => ∃ (fa fx ra : Addr) (fs : List (Str × V)) (v : V) (x : Op) (rs : List Int), vs = [.ref fa, v] ∧ H fa = some (.ins (ga K "Frame") fx fs) ∧ fs.lookup ("registers" : Str) = some (.ref ra) ∧ H ra = some (.lst (rs.map V.int)) ∧ opV H v x ∧ OpOk rs.length x ∧ Q (.int (val rs x)) H
def spOut (K : PySem.W.Frag) : Sp := fun vs H Q _ => ∃ (cas : List Addr) (v : V) (h : Nat) (ch : List Nat), vs = [v, .int h] ∧ chV K H cas v ch ∧ h < ch.length ∧ h ≤ 1000 ∧ ∀ v', chV K H cas v' (ch.drop h) → Q v' H
section
variable {P : Program} {w : World} {K : PySem.W.Frag} {mg : Str → Option Value} {base : Heap}
theorem big1000 {n : Nat} (h : n ≤ 1000) : n ≤ sizeLine := Nat.le_of_lt (small1000 h)
theorem ok_iniFr (T : Txt w K mg) : MDef P w K mg base CX0 1 "Frame" "__init__" ["self", "number", "unit", "parent", "depth"] (spIniFr K) := by
  refine D_Frame_init T (fun vs H Q E h => ?_) (fun cdv A outer s H vs Q E hr h => ?_)
  · obtain ⟨a, dx, ua, ux, u, par, i, m, n, fs, rfl, _⟩ := h
    rfl
  obtain ⟨a, dx, ua, ux, u, par, i, m, n, fs, rfl, ha, hu, hm, hn, m1, n1, q⟩ := h
  refine ⟨_, (pss_cons (ps_fld (pv 0) (pv 1) rfl) (pss_cons (ps_fld (pv 0) (pv 2) rfl) (pss_cons (ps_fld (pv 0) (pv 3) rfl) (pss_cons (ps_fld (pv 0) (pv 4) rfl) (pss_cons (ps_fld (pv 0) (pe_op op_rep (pe_lst (pa_cons pe_int pa_nil)) (pe_fld (pv 2) rfl)) rfl) (pss_one (ps_fld (pv 0) (pe_op op_rep (pe_lst (pa_cons pe_int pa_nil)) (pe_fld (pv 2) rfl)) rfl))))))), ?_⟩
  have nau : ua ≠ a := ne_of hu ha fun z => by
    have z2 := congrArg (fun o : HO => match o with | .ins _ _ fs => fs | _ => []) z
    have z3 : fs = [] := z2
    rw [z3] at hm
    cases hm
  refine ⟨_, rfl, _, rfl, fld_k ha (cl_Frame T) (na_Frame_number T) (by show 0 < 1000; decide) nfrz_nil fun H1 s1 h1 => ?_⟩
  refine ⟨_, rfl, _, rfl, fld_k h1 (cl_Frame T) (na_Frame_unit T) (by show 1 < 1000; decide) (nf3 rfl rfl rfl) fun H2 s2 h2 => ?_⟩
  refine ⟨_, rfl, _, rfl, fld_k h2 (cl_Frame T) (na_Frame_parent T) (by show 2 < 1000; decide) (nf3 rfl rfl rfl) fun H3 s3 h3 => ?_⟩
  refine ⟨_, rfl, _, rfl, fld_k h3 (cl_Frame T) (na_Frame_depth T) (by show 3 < 1000; decide) (nf3 rfl rfl rfl) fun H4 s4 h4 => ?_⟩
  have t4 := s1.trans (s2.trans (s3.trans s4))
  refine ⟨by show 1 ≤ sizeLine; decide, ?_⟩
  walk_at "new"; rename_i l1 n5 H5 s5 h5
  have t5 := t4.trans s5.z
  refine ⟨_, rfl, ua, _, _, _, _, rfl, t5.at hu fun z => absurd z nau, cl_Unit T, na_Unit_registers T, hm, l1, _, _, rfl, rfl, h5, by omega, by omega, ?_, ?_⟩
  · rw [Int.toNat_natCast]
    exact big1000 (by simpa using m1)
  walk_at "new"; rename_i ra n6 H6 s6 h6
  rw [rep_flat] at h6
  have t6 := t5.trans s6.z
  have h46 := s6.at (s5.at h4 fun z => z.elim) fun z => z.elim
  refine ⟨_, rfl, fld_k h46 (cl_Frame T) (na_Frame_registers T) (by show 4 < 1000; decide) (nf3 rfl rfl rfl) fun H7 s7 h7 => ?_⟩
  have t7 := t6.trans s7
  have nra : ra ≠ a := fun z => by
    rw [z, s5.at h4 fun z => z.elim] at n6
    cases n6
  refine ⟨by show 1 ≤ sizeLine; decide, ?_⟩
  walk_at "new"; rename_i l2 n8 H8 s8 h8
  have t8 := t7.trans s8.z
  refine ⟨_, rfl, ua, _, _, _, _, rfl, t8.at hu fun z => absurd z nau, cl_Unit T, na_Unit_cells T, hn, l2, _, _, rfl, rfl, h8, by omega, by omega, ?_, ?_⟩
  · rw [Int.toNat_natCast]
    exact big1000 (by simpa using n1)
  walk_at "new"; rename_i ca n9 H9 s9 h9
  rw [rep_flat] at h9
  have h79 := s9.at (s8.at h7 fun z => z.elim) fun z => z.elim
  have nca : ca ≠ a := fun z => by
    rw [z, s8.at h7 fun z => z.elim] at n9
    cases n9
  have h68 := s8.at (s7.at h6 fun z => absurd z nra) fun z => z.elim
  have nrc : ra ≠ ca := fun z => by
    rw [← z, h68] at n9
    cases n9
  refine ⟨_, rfl, fld_k h79 (cl_Frame T) (na_Frame_cells T) (by show 5 < 1000; decide) (nf3 rfl rfl rfl) fun H10 s10 h10 => ?_⟩
  exact q ra ca H10 (t5.ne n6 nra) (t8.ne n9 nca) nrc (t8.trans (s9.z.trans s10)) h10 (s10.at (s9.at h68 fun z => z.elim) fun z => absurd z nra) (s10.at h9 fun z => absurd z nca)
theorem ok_value (T : Txt w K mg) : MDef P w K mg base CX0 1 "Frame" "value" ["self", "operand"] (spVal K) := by
  refine D_Frame_value T (fun vs H Q E h => ?_) (fun cdv A outer s H vs Q E hr h => ?_)
  · obtain ⟨fa, fx, ra, fs, v, x, rs, rfl, _⟩ := h
    rfl
  obtain ⟨fa, fx, ra, fs, v, x, rs, rfl, hf, hl, hr', ho, hx, q⟩ := h
  refine ⟨_, (pss_cons (ps_if (pt_cmpR op_eq (pe_ix ix_tup (pv 1) pe_int (fun _ _ => rfl)) pe_str (nomark _)) (pss_one (ps_ret (pe_ix ix_list (pe_fld (pv 0) rfl) (pe_ix ix_tup (pv 1) pe_int (fun _ _ => rfl)) (fun _ _ => rfl)))) pss_nil) (pss_one (ps_ret (pe_ix ix_tup (pv 1) pe_int (fun _ _ => rfl))))), ?_⟩
  obtain ⟨a, rfl, ha⟩ := ho
  refine ⟨_, rfl, _, _, _, _, rfl, rfl, SqT.of ha, rfl, rfl, _, rfl, ?_⟩
  cases x with
  | reg i =>
    have hi : (rs.map V.int)[i]? = some (.int (rs.getD i 0)) := by
      have hx' : i < rs.length := hx
      rw [List.getElem?_map, List.getD_eq_getElem?_getD, List.getElem?_eq_getElem hx']
      rfl
    refine if_true_of (by show decide (V.str ("reg" : Str) = V.str "reg") = true; decide) ⟨_, rfl, fa, _, _, _, _, rfl, hf, cl_Frame T, na_Frame_registers T, hl, _, rfl, _, _, _, _, rfl, rfl, SqT.of ha, rfl, ?_⟩
    exact ⟨ra, _, _, _, rfl, rfl, SqL.of hr', atI_nat hi, q⟩
  | int z => exact if_false_of (by show decide (V.str ("int" : Str) = V.str "reg") = false; decide) ⟨_, rfl, _, _, _, _, rfl, rfl, SqT.of ha, rfl, q⟩
theorem ok_outer (T : Txt w K mg) : MDef P w K mg base CX0 1 "Frame" "outer" ["self", "hops"] (spOut K) := by
  refine D_Frame_outer T (fun vs H Q E h => ?_) (fun cdv A outer s H vs Q E hr h => ?_)
  · obtain ⟨cas, v, h, ch, rfl, _⟩ := h
    rfl
  obtain ⟨cas, v, h, ch, rfl, hc, hlt, hb, q⟩ := h
  refine ⟨_, (pss_cons (ps_set (i := 2) sc_Frame_outer.nd rfl (Or.inl rfl) (pv 0)) (pss_cons (ps_for (L2.passes_of rfl) rfl (pi_range1 rfl (b_range T) (pa_cons (pv 1) pa_nil)) (pg_name (i := 3) sc_Frame_outer.nd rfl (Or.inl rfl)) (pss_one (ps_set (i := 2) sc_Frame_outer.nd rfl (Or.inl rfl) (pe_fld (pv 2) rfl)))) (pss_one (ps_ret (pv 2))))), ?_⟩
  refine ⟨_, rfl, _, rfl, (h : Int), rfl, by omega, by omega, for_range (lo := 0) (n := h) (fun i σ H' => ∃ v' o, σ = [some v, some (.int h), some v', o] ∧ H' = H ∧ chV K H cas v' (ch.drop i)) ⟨v, none, rfl, rfl, by simpa using hc⟩ ?_ ?_⟩
  · rintro i σ H' hi ⟨v', o, rfl, rfl, hv⟩
    have hd : ch.drop i = ch[i] :: ch.drop (i + 1) := List.drop_eq_getElem_cons (by omega)
    rw [hd] at hv
    obtain ⟨fa, fx, u, ua, ra, ca, par, rfl, e1, e2, e3⟩ := hv
    exact ⟨_, rfl, fa, _, _, _, _, rfl, e1, cl_Frame T, na_Frame_parent T, rfl, par, some (.int (0 + i)), rfl, rfl, e3⟩
  · rintro σ H' ⟨v', o, rfl, rfl, hv⟩
    exact ⟨_, rfl, q v' hv⟩
end
end WX
/-! ## WP5 -/
set_option Elab.async false
set_option linter.all false
set_option maxRecDepth 100000
set_option maxHeartbeats 2000000
/-! The instructions, one by one. -/
namespace WX
open PySem PySem.Spec PyProof.Rows L2 He
open Wn (Op Ar Ins Rg Un Mod G Out Nx Word wordB exact val StOk EnvOk InsOk OpOk step1 ModOk UnOk)
local macro_rules | `(tactic| walk_at "new") => `(tactic| (intro p hp; generalize hG : upd _ p _ = H5; obtain ⟨s5, h5⟩ := gnew hG hp; clear hG))
/-- an activation at an instruction -/
structure Dat where
  e : Wn.Env
  D : RD
  g : G
  cas : List Addr
  ra : Addr
  rs : List Int
  fa : Addr
  fx : Addr
  ua : Addr
  ca : Addr
  par : V
  u : Nat
  i0 : Nat
  r : List Nat
  U : Un
  nms : List Str
  pls : List (Int × Int)
structure Sit (K : PySem.W.Frag) (H : Hp) (d : Dat) : Prop where
  s : StA K H d.D d.e.ins d.g d.cas d.ra d.rs
  f : H d.fa = some (frO K d.fx (.int d.u) (.ref d.ua) d.par d.i0 (.ref d.ra) (.ref d.ca))
  hc : d.cas[d.i0]? = some d.ca
  ch : chV K H d.cas d.par d.r
  ok : StOk d.e d.u (d.i0 :: d.r) d.g d.rs
  hU : d.e.m[d.u]? = some d.U
  un : ∃ dx fs c rg cs rs, UnAt K H d.ua d.U dx fs c rg cs rs
  mo : moV K H d.D.mo d.e.m d.nms d.pls
  E : EnvOk d.e
  top : d.g.cs.length = d.i0 + 1
  lim : d.D.lim ≤ 1000
  chl : d.r.length ≤ d.i0
section
variable {K : PySem.W.Frag} {H H' : Hp} {d : Dat} {ins : Ins}
theorem Sit.len (s : Sit K H d) : d.rs.length = d.U.regs := by
  obtain ⟨U, h1, h2⟩ := s.ok.regs
  rw [s.hU] at h1
  cases h1
  exact h2
theorem Sit.unOk (s : Sit K H d) : UnOk d.e.m d.u d.U := s.E.m.un _ _ s.hU
theorem Sit.regs (s : Sit K H d) : d.rs.length ≤ 100 := by rw [s.len]; exact s.unOk.regs
theorem Sit.op (s : Sit K H d) {x : Op} (o : OpOk d.U.regs x) : OpOk d.rs.length x := by rw [s.len]; exact o
theorem Sit.chv (s : Sit K H d) : chV K H d.cas (.ref d.fa) (d.i0 :: d.r) := ⟨d.fa, d.fx, _, _, _, d.ca, d.par, rfl, s.f, s.hc, s.ch⟩
end
def spElem (K : PySem.W.Frag) : Sp := fun vs H Q E => ∃ (d : Dat) (v : V) (x : Op) (c n : Nat), vs = [.ref d.fa, v, .int c, .int n] ∧ Sit K H d ∧ opV H v x ∧ OpOk d.U.regs x ∧
  (0 ≤ Wn.val d.rs x ∧ Wn.val d.rs x < n → Q (.int ((c + (Wn.val d.rs x).toNat : Nat) : Int)) H) ∧ (¬(0 ≤ Wn.val d.rs x ∧ Wn.val d.rs x < n) → E (.ref (ga K "CodeFault")) none H)
def spAct (K : PySem.W.Frag) (k : Ins → Prop) : Sp := fun vs H Q E => ∃ (d : Dat) (ia : Addr) (ins : Ins) (i : Nat), vs = [.ref d.D.run, .ref d.fa, .ref ia] ∧ Sit K H d ∧ insV H (.ref ia) ins ∧ InsOk d.e.m d.u d.U i ins ∧ k ins ∧ bigE d.g ∧
  Post K d.D d.e.ins d.cas d.ra H (fun _ H' => Q .non H') E (step1 d.e (d.i0 :: d.r) i d.g d.rs ins)
def isLoad : Ins → Prop | .load .. => True | _ => False
def isStore : Ins → Prop | .store .. => True | _ => False
def isCheck : Ins → Prop | .check .. => True | _ => False
def isAgain : Ins → Prop | .again .. => True | _ => False
def isGet : Ins → Prop | .get .. => True | _ => False
theorem map_set (l : List Int) (i : Nat) (w : Int) : (l.map V.int).set i (.int w) = (l.set i w).map V.int := by rw [List.map_set]
theorem ixN_nat {n j : Nat} (hj : j < n) : ixN n (j : Int) = some j := by
  unfold ixN
  rw [if_pos (by omega), if_pos (by omega)]
  simp
section
variable {P : Program} {w : World} {K : PySem.W.Frag} {mg : Str → Option Value} {base : Heap}
theorem ok_elem (T : Txt w K mg) : Def P w K mg base (CX P w) 2 "element_index" ["frame", "operand", "cell", "count"] (spElem K) := by
  have M_Frame_value := ok_value (P := P) (base := base) T
  refine D_element_index T (fun vs H Q E h => ?_) (fun cdv A outer s H vs Q E hr h => ?_)
  · obtain ⟨d, v, x, c, n, rfl, _⟩ := h
    rfl
  obtain ⟨d, v, x, c, n, rfl, S, ho, hx, q1, q2⟩ := h
  refine ⟨_, (pss_cons (ps_set (i := 4) sc_element_index.nd rfl (Or.inl rfl) (pe_methD M_Frame_value (pv 0) (cl_Frame T) (me_Frame_value T) hr (by omega) pass0 (pa_cons (pv 1) pa_nil))) (pss_cons (ps_if (pt_not (pt_chain op_le op_lt pe_int (pv 4) (pv 3))) (pss_one (ps_raise rfl (takes_of rfl rfl rfl rfl) (L2N.pmk_own PySem.F.excBase_ValueError (ex_CodeFault T).1 (g_CodeFault T) (ex_CodeFault T).2.1 (raises_own (ex_CodeFault T).2.2.1 (ex_CodeFault T).2.2.2) rfl))) pss_nil) (pss_one (ps_ret (pe_op op_add (pv 2) (pv 4)))))), ?_⟩
  refine ⟨_, rfl, _, _, _, rfl, S.f, rfl, _, rfl, d.fa, d.fx, d.ra, _, _, _, d.rs, rfl, S.f, rfl, S.s.r, ho, S.op hx, ?_⟩
  refine ⟨_, rfl, _, _, rfl, rfl, _, rfl, ?_⟩
  by_cases c1 : (0 : Int) ≤ Wn.val d.rs x
  · refine if_true_of (decide_eq_true c1) ⟨_, rfl, _, _, rfl, rfl, _, rfl, ?_⟩
    by_cases c2 : Wn.val d.rs x < (n : Int)
    · refine if_false_of (by rw [decide_eq_true c2]; rfl) ⟨_, rfl, _, rfl, _, _, rfl, rfl, ?_⟩
      have e : (c : Int) + Wn.val d.rs x = ((c + (Wn.val d.rs x).toNat : Nat) : Int) := by omega
      show Q (.int ((c : Int) + Wn.val d.rs x)) H
      rw [e]
      exact q1 ⟨c1, c2⟩
    · exact if_true_of (by rw [decide_eq_false c2]; rfl) (q2 fun z => c2 z.2)
  · exact if_false_of (decide_eq_false c1) ⟨_, rfl, if_true_of rfl (q2 fun z => c1 z.1)⟩
theorem ok_load (T : Txt w K mg) : Def P w K mg base (CX P w) 3 "run_load" ["run", "frame", "instruction"] (spAct K isLoad) := by
  have M_Frame_outer := ok_outer (P := P) (base := base) T
  have G_element_index := ok_elem (P := P) (base := base) T
  refine D_run_load T (fun vs H Q E h => ?_) (fun cdv A outer s H vs Q E hr h => ?_)
  · obtain ⟨d, ia, ins, i, rfl, _⟩ := h
    rfl
  obtain ⟨d, ia, ins, i, rfl, S, hi, ok, hk, hb, q⟩ := h
  cases ins <;> try exact hk.elim
  rename_i dd hh c n x
  refine ⟨_, (pss_cons (ps_set (i := 3) sc_run_load.nd rfl (Or.inl rfl) (pe_callD G_element_index hr (by omega) rfl (passes_call (takes_of rfl rfl rfl rfl) fun _ _ _ _ h => h) (pa_cons (pv 1) (pa_cons (pe_ix ix_tup (pv 2) pe_int (fun _ _ => rfl)) (pa_cons (pe_ix ix_tup (pv 2) pe_int (fun _ _ => rfl)) (pa_cons (pe_ix ix_tup (pv 2) pe_int (fun _ _ => rfl)) pa_nil)))))) (pss_one (ps_asg (pe_ix ix_list (pe_fld (pe_methD M_Frame_outer (pv 1) (cl_Frame T) (me_Frame_outer T) hr (by omega) pass0 (pa_cons (pe_ix ix_tup (pv 2) pe_int (fun _ _ => rfl)) pa_nil)) rfl) (pv 3) (fun _ _ => rfl)) (pg_sub (pe_fld (pv 1) rfl) (pe_ix ix_tup (pv 2) pe_int (fun _ _ => rfl)) set_list)))), ?_⟩
  obtain ⟨a, vs, e, ha, o, rfl, ho⟩ := hi
  cases e
  obtain ⟨hd, hx, u', U', han, hU', hcn⟩ := ok
  refine ⟨_, rfl, _, rfl, ia, _, _, _, rfl, rfl, SqT.of ha, rfl, _, rfl, ia, _, _, _, rfl, rfl, SqT.of ha, rfl, _, rfl, ia, _, _, _, rfl, rfl, SqT.of ha, rfl, d, o, x, c, n, rfl, S, ho, hx, fun h => ?_, fun h => ?_⟩
  · simp only [step1, if_pos h] at q
    obtain ⟨j, Uj, hj, hj2, hUj, hsj⟩ := Wn.ch_at S.ok.ch han
    obtain ⟨cl, hcl, hll, hgd⟩ := Wn.sh_at hsj
    have hU2 := hU'.symm.trans hUj
    cases hU2
    refine ⟨_, rfl, _, _, _, rfl, S.f, rfl, _, rfl, ia, _, _, _, rfl, rfl, SqT.of ha, rfl, d.cas, _, hh, d.i0 :: d.r, rfl, S.chv, (List.getElem?_eq_some_iff.mp hj).1, ?_, fun v' hv' => ?_⟩
    · have := (List.getElem?_eq_some_iff.mp hj).1
      have h1 := S.top
      have h2 := S.ok.dp
      have h3 := S.chl
      simp only [List.length_cons] at this
      omega
    · have hdr : (d.i0 :: d.r).drop hh = j :: (d.i0 :: d.r).drop (hh + 1) := by
        obtain ⟨h1, h2⟩ := List.getElem?_eq_some_iff.mp hj
        rw [List.drop_eq_getElem_cons h1, h2]
      rw [hdr] at hv'
      obtain ⟨fa', fx', u2, ua2, ra2, ca2, par2, rfl, e1, e2, e3⟩ := hv'
      have hce := S.s.c.2 j ca2 cl e2 hcl
      have lt : c + (Wn.val d.rs x).toNat < cl.length := by omega
      have hcc : (cl.map V.int)[c + (Wn.val d.rs x).toNat]? = some (.int (cl.getD (c + (Wn.val d.rs x).toNat) 0)) := by
        rw [List.getElem?_map, List.getD_eq_getElem?_getD, List.getElem?_eq_getElem lt]
        rfl
      refine ⟨fa', _, _, _, _, rfl, e1, cl_Frame T, na_Frame_cells T, rfl, _, rfl, ca2, _, _, _, rfl, rfl, SqL.of hce, atI_nat hcc, ?_⟩
      refine ⟨_, rfl, _, _, _, _, _, rfl, S.f, cl_Frame T, na_Frame_registers T, rfl, _, rfl, ia, _, _, _, rfl, rfl, SqT.of ha, rfl, ?_⟩
      refine ⟨d.ra, _, (dd : Int), dd, rfl, rfl, S.s.r, ixN_nat (by rw [List.length_map, S.len]; exact hd), ?_⟩
      rw [map_set]
      have e5 : ((d.g.cs.getD ((d.i0 :: d.r).getD hh 0) []).getD (c + (Wn.val d.rs x).toNat) 0) = cl.getD (c + (Wn.val d.rs x).toNat) 0 := by rw [hj2, hgd]
      rw [e5] at q
      exact q _ (Stp.setR S.s) (S.s.setR _)
  · simp only [step1, if_neg h] at q
    exact q H Stp.refl S.s.l
theorem Sit.hop {H : Hp} {d : Dat} (S : Sit K H d) {hh : Nat} (h : hh < (d.i0 :: d.r).length) : hh ≤ 1000 := by
  have h1 := S.top
  have h2 := S.ok.dp
  have h3 := S.chl
  simp only [List.length_cons] at h
  omega
theorem ok_store (T : Txt w K mg) : Def P w K mg base (CX P w) 3 "run_store" ["run", "frame", "instruction"] (spAct K isStore) := by
  have M_Frame_outer := ok_outer (P := P) (base := base) T
  have M_Frame_value := ok_value (P := P) (base := base) T
  have G_element_index := ok_elem (P := P) (base := base) T
  refine D_run_store T (fun vs H Q E h => ?_) (fun cdv A outer s H vs Q E hr h => ?_)
  · obtain ⟨d, ia, ins, i, rfl, _⟩ := h
    rfl
  obtain ⟨d, ia, ins, i, rfl, S, hi, ok, hk, hb, q⟩ := h
  cases ins <;> try exact hk.elim
  rename_i hh c n x y
  refine ⟨_, (pss_cons (ps_set (i := 3) sc_run_store.nd rfl (Or.inl rfl) (pe_callD G_element_index hr (by omega) rfl (passes_call (takes_of rfl rfl rfl rfl) fun _ _ _ _ h => h) (pa_cons (pv 1) (pa_cons (pe_ix ix_tup (pv 2) pe_int (fun _ _ => rfl)) (pa_cons (pe_ix ix_tup (pv 2) pe_int (fun _ _ => rfl)) (pa_cons (pe_ix ix_tup (pv 2) pe_int (fun _ _ => rfl)) pa_nil)))))) (pss_one (ps_asg (pe_methD M_Frame_value (pv 1) (cl_Frame T) (me_Frame_value T) hr (by omega) pass0 (pa_cons (pe_ix ix_tup (pv 2) pe_int (fun _ _ => rfl)) pa_nil)) (pg_sub (pe_fld (pe_methD M_Frame_outer (pv 1) (cl_Frame T) (me_Frame_outer T) hr (by omega) pass0 (pa_cons (pe_ix ix_tup (pv 2) pe_int (fun _ _ => rfl)) pa_nil)) rfl) (pv 3) set_list)))), ?_⟩
  obtain ⟨a, vs, e, ha, o, o2, rfl, ho, ho2⟩ := hi
  cases e
  obtain ⟨hx, hy, u', U', han, hU', hcn⟩ := ok
  refine ⟨_, rfl, _, rfl, ia, _, _, _, rfl, rfl, SqT.of ha, rfl, _, rfl, ia, _, _, _, rfl, rfl, SqT.of ha, rfl, _, rfl, ia, _, _, _, rfl, rfl, SqT.of ha, rfl, d, o, x, c, n, rfl, S, ho, hx, fun h => ?_, fun h => ?_⟩
  · simp only [step1, if_pos h] at q
    obtain ⟨j, Uj, hj, hj2, hUj, hsj⟩ := Wn.ch_at S.ok.ch han
    obtain ⟨cl, hcl, hll, hgd⟩ := Wn.sh_at hsj
    have hU2 := hU'.symm.trans hUj
    cases hU2
    have hlt := (List.getElem?_eq_some_iff.mp hj).1
    refine ⟨_, rfl, _, _, _, rfl, S.f, rfl, _, rfl, ia, _, _, _, rfl, rfl, SqT.of ha, rfl, d.fa, d.fx, d.ra, _, _, _, d.rs, rfl, S.f, rfl, S.s.r, ho2, S.op hy, ?_⟩
    refine ⟨_, rfl, _, _, _, rfl, S.f, rfl, _, rfl, ia, _, _, _, rfl, rfl, SqT.of ha, rfl, d.cas, _, hh, d.i0 :: d.r, rfl, S.chv, hlt, S.hop hlt, fun v' hv' => ?_⟩
    have hdr : (d.i0 :: d.r).drop hh = j :: (d.i0 :: d.r).drop (hh + 1) := by
      obtain ⟨h1, h2⟩ := List.getElem?_eq_some_iff.mp hj
      rw [List.drop_eq_getElem_cons h1, h2]
    rw [hdr] at hv'
    obtain ⟨fa', fx', u2, ua2, ra2, ca2, par2, rfl, e1, e2, e3⟩ := hv'
    have hce := S.s.c.2 j ca2 cl e2 hcl
    have lt : c + (Wn.val d.rs x).toNat < cl.length := by omega
    refine ⟨fa', _, _, _, _, rfl, e1, cl_Frame T, na_Frame_cells T, rfl, _, rfl, ca2, _, _, (c + (Wn.val d.rs x).toNat), rfl, rfl, hce, ixN_nat (by rw [List.length_map]; exact lt), ?_⟩
    rw [map_set]
    rw [hj2, hgd] at q
    obtain ⟨s1, s2⟩ := S.s.cell e2 hcl (cl.set (c + (Wn.val d.rs x).toNat) (Wn.val d.rs y))
    exact q _ s2 s1
  · simp only [step1, if_neg h] at q
    exact q H Stp.refl S.s.l
theorem ok_check (T : Txt w K mg) : Def P w K mg base (CX P w) 3 "run_check" ["run", "frame", "instruction"] (spAct K isCheck) := by
  have M_Frame_value := ok_value (P := P) (base := base) T
  have I_CodeRaised := ok_iniCR (P := P) (base := base) T
  refine D_run_check T (fun vs H Q E h => ?_) (fun cdv A outer s H vs Q E hr h => ?_)
  · obtain ⟨d, ia, ins, i, rfl, _⟩ := h
    rfl
  obtain ⟨d, ia, ins, i, rfl, S, hi, ok, hk, hb, q⟩ := h
  cases ins <;> try exact hk.elim
  rename_i x lo hi2 p
  refine ⟨_, (pss_one (ps_if (pt_not (pt_chain op_le op_le (pe_ix ix_tup (pv 2) pe_int (fun _ _ => rfl)) (pe_methD M_Frame_value (pv 1) (cl_Frame T) (me_Frame_value T) hr (by omega) pass0 (pa_cons (pe_ix ix_tup (pv 2) pe_int (fun _ _ => rfl)) pa_nil)) (pe_ix ix_tup (pv 2) pe_int (fun _ _ => rfl)))) (pss_one (ps_raise rfl (takes_of rfl rfl rfl rfl) (pmk_raised T I_CodeRaised hr (by omega) rfl (pa_cons (pe_gi (gi_CONSTRAINT T) rfl) (pa_cons (pe_ix ix_tup (pv 2) pe_int (fun _ _ => rfl)) pa_nil))))) pss_nil)), ?_⟩
  obtain ⟨a, vs, e, ha, o, rfl, ho⟩ := hi
  cases e
  obtain ⟨hx, hp⟩ := ok
  refine ⟨_, rfl, ia, _, _, _, rfl, rfl, SqT.of ha, rfl, _, rfl, _, _, _, rfl, S.f, rfl, _, rfl, ia, _, _, _, rfl, rfl, SqT.of ha, rfl, d.fa, d.fx, d.ra, _, _, _, d.rs, rfl, S.f, rfl, S.s.r, ho, S.op hx, ?_⟩
  refine ⟨_, _, rfl, rfl, _, rfl, ?_⟩
  simp only [step1] at q
  have no : ¬(lo ≤ Wn.val d.rs x ∧ Wn.val d.rs x ≤ hi2) → _ := fun c => by
    rw [if_neg c] at q
    exact q
  have rz : ¬(lo ≤ Wn.val d.rs x ∧ Wn.val d.rs x ≤ hi2) → ∀ dd, H dd = none → E (.ref (ga K "CodeRaised")) (some dd) (upd H dd (.xd [("place", .int p), ("number", .int 0)])) := fun c dd hd => no c _ _ (Stp.new hd) (S.s.st (Stp.new hd)) upd_same
  by_cases c1 : lo ≤ Wn.val d.rs x
  · refine if_true_of (decide_eq_true c1) ⟨_, rfl, ia, _, _, _, rfl, rfl, SqT.of ha, rfl, _, _, rfl, rfl, _, rfl, ?_⟩
    by_cases c2 : Wn.val d.rs x ≤ hi2
    · rw [if_pos ⟨c1, c2⟩] at q
      exact if_false_of (by rw [decide_eq_true c2]; rfl) (q H Stp.refl S.s)
    · exact if_true_of (by rw [decide_eq_false c2]; rfl) ⟨_, rfl, ia, _, _, _, rfl, rfl, SqT.of ha, rfl, raised_at (rz fun z => c2 z.2)⟩
  · exact if_false_of (decide_eq_false c1) ⟨_, rfl, if_true_of rfl ⟨_, rfl, ia, _, _, _, rfl, rfl, SqT.of ha, rfl, raised_at (rz fun z => c1 z.1)⟩⟩
theorem ok_again (T : Txt w K mg) : Def P w K mg base (CX P w) 3 "run_again" ["run", "frame", "instruction"] (spAct K isAgain) := by
  have M_Frame_value := ok_value (P := P) (base := base) T
  have I_CodeRaised := ok_iniCR (P := P) (base := base) T
  refine D_run_again T (fun vs H Q E h => ?_) (fun cdv A outer s H vs Q E hr h => ?_)
  · obtain ⟨d, ia, ins, i, rfl, _⟩ := h
    rfl
  obtain ⟨d, ia, ins, i, rfl, S, hi, ok, hk, hb, q⟩ := h
  cases ins <;> try exact hk.elim
  rename_i x y
  refine ⟨_, (pss_cons (ps_set (i := 3) sc_run_again.nd rfl (Or.inl rfl) (pe_methD M_Frame_value (pv 1) (cl_Frame T) (me_Frame_value T) hr (by omega) pass0 (pa_cons (pe_ix ix_tup (pv 2) pe_int (fun _ _ => rfl)) pa_nil))) (pss_cons (ps_set (i := 4) sc_run_again.nd rfl (Or.inl rfl) (pe_methD M_Frame_value (pv 1) (cl_Frame T) (me_Frame_value T) hr (by omega) pass0 (pa_cons (pe_ix ix_tup (pv 2) pe_int (fun _ _ => rfl)) pa_nil))) (pss_cons (ps_if (PW.pt (pw_or (pt_not (pt_chain op_le op_lt pe_int (pv 3) (pe_callB call_len_seq (by rfl) (b_len T) PySem.boot_len (pa_cons (pe_fld (pe_fld (pv 0) rfl) rfl) pa_nil)))) (pw_or1 (pt_not (pt_chain op_le op_lt pe_int (pv 4) (pe_callB call_len_seq (by rfl) (b_len T) PySem.boot_len (pa_cons (pe_fld (pe_fld (pv 0) rfl) rfl) pa_nil))))))) (pss_one (ps_raise rfl (takes_of rfl rfl rfl rfl) (L2N.pmk_own PySem.F.excBase_ValueError (ex_CodeFault T).1 (g_CodeFault T) (ex_CodeFault T).2.1 (raises_own (ex_CodeFault T).2.2.1 (ex_CodeFault T).2.2.2) rfl))) pss_nil) (pss_one (ps_raise rfl (takes_of rfl rfl rfl rfl) (pmk_raised T I_CodeRaised hr (by omega) rfl (pa_cons (pv 3) (pa_cons (pv 4) pa_nil)))))))), ?_⟩
  obtain ⟨a, vs, e, ha, o, o2, rfl, ho, ho2⟩ := hi
  cases e
  obtain ⟨hx, hy⟩ := ok
  obtain ⟨mx, mfs, mt, mn, mp, mus, mps, M⟩ := S.mo
  have ln : ((d.nms.map V.str).length : Int) = 5 := by rw [List.length_map, M.n5]; rfl
  have lp : (mps.length : Int) = 5 := by rw [M.pl.1, M.p5]; rfl
  refine ⟨_, rfl, _, _, _, rfl, S.f, rfl, _, rfl, ia, _, _, _, rfl, rfl, SqT.of ha, rfl, d.fa, d.fx, d.ra, _, _, _, d.rs, rfl, S.f, rfl, S.s.r, ho, S.op hx, ?_⟩
  refine ⟨_, rfl, _, _, _, rfl, S.f, rfl, _, rfl, ia, _, _, _, rfl, rfl, SqT.of ha, rfl, d.fa, d.fx, d.ra, _, _, _, d.rs, rfl, S.f, rfl, S.s.r, ho2, S.op hy, ?_⟩
  refine ⟨_, rfl, _, _, rfl, rfl, _, rfl, ?_⟩
  simp only [step1] at q
  have fl : ¬(0 ≤ Wn.val d.rs x ∧ Wn.val d.rs x < 5 ∧ 0 ≤ Wn.val d.rs y ∧ Wn.val d.rs y < 5) → E (.ref (ga K "CodeFault")) none H := fun c => by
    rw [if_neg c] at q
    exact q H Stp.refl S.s.l
  by_cases c1 : (0 : Int) ≤ Wn.val d.rs x
  · refine if_true_of (decide_eq_true c1) ⟨_, rfl, _, _, _, _, _, rfl, S.s.l.run, cl_CodeRun T, na_CodeRun_module T, rfl, _, _, _, _, _, rfl, M.at_, cl_Module T, na_Module_names T, M.names, mn, _, rfl, .inr (SqT.of M.naA), _, _, rfl, rfl, _, rfl, ?_⟩
    by_cases c2 : Wn.val d.rs x < ((d.nms.map V.str).length : Int)
    · refine if_false_of (by rw [decide_eq_true c2]; rfl) ⟨_, rfl, _, _, rfl, rfl, _, rfl, ?_⟩
      by_cases c3 : (0 : Int) ≤ Wn.val d.rs y
      · refine if_true_of (decide_eq_true c3) ⟨_, rfl, _, _, _, _, _, rfl, S.s.l.run, cl_CodeRun T, na_CodeRun_module T, rfl, _, _, _, _, _, rfl, M.at_, cl_Module T, na_Module_places T, M.places, mp, _, rfl, .inr (SqT.of M.plA), _, _, rfl, rfl, _, rfl, ?_⟩
        by_cases c4 : Wn.val d.rs y < (mps.length : Int)
        · refine if_false_of (by rw [decide_eq_true c4]; rfl) ?_
          rw [ln] at c2
          rw [lp] at c4
          rw [if_pos ⟨c1, c2, c3, c4⟩] at q
          refine ⟨_, rfl, _, rfl, raised_at fun dd hd => ?_⟩
          refine q _ dd (Stp.new hd) (S.s.st (Stp.new hd)) ?_
          rw [upd_same, Int.toNat_of_nonneg c1, Int.toNat_of_nonneg c3]
        · exact if_true_of (by rw [decide_eq_false c4]; rfl) (fl fun z => c4 (by rw [lp]; exact z.2.2.2))
      · exact if_false_of (decide_eq_false c3) ⟨_, rfl, if_true_of rfl (fl fun z => c3 z.2.2.1)⟩
    · exact if_true_of (by rw [decide_eq_false c2]; rfl) (fl fun z => c2 (by rw [ln]; exact z.2.1))
  · exact if_false_of (decide_eq_false c1) ⟨_, rfl, if_true_of rfl (fl fun z => c1 z.1)⟩
end
end WX
/-! ## WP6 -/
set_option Elab.async false
set_option linter.all false
set_option maxRecDepth 100000
set_option maxHeartbeats 2000000
/-! The two instructions with a try: get, compute. -/
namespace WX
open PySem PySem.Spec PyProof.Rows L2 He
open Wn (Op Ar Ins Rg Un Mod G Out Nx Word wordB exact val StOk EnvOk InsOk OpOk step1 ModOk UnOk comp)
local macro_rules | `(tactic| walk_at "new") => `(tactic| (intro p hp; generalize hG : upd _ p _ = H5; obtain ⟨s5, h5⟩ := gnew hG hp; clear hG))
/-- o.m(), within a try's body -/
def tMethE (C : Addr) (m : Str) (sp : Sp) (E : St → XK) (ta : TE) : TE := fun σ H Q => ta σ H fun x H1 => ∃ a dx fs, x = .ref a ∧ H1 a = some (.ins C dx fs) ∧ fs.lookup m = none ∧ sp [x] H1 Q (E σ)
theorem pe_methDS0 {X : Cx} {CX : CXT} {j k : Nat} {C m : Str} {ps : List Str} {sp : Sp} {E : St → XK} {pos apos : Pos} {o : Expr} {ta : TE} {pl : Sem Bool} (D : MDef X.prog X.w X.K X.mg X.base CX j C m ps sp) (he : PE X o ta) (c : Cls X.K (ga X.K C)) (hm : Meth X.K (ga X.K C) m (ma X.K (ga X.K C) m)) (hr : Room k X.A) (hk : j ≤ k) (hx : ∀ σ, PassesAt CX X σ (E σ))
    (ht : eval (.Call (.Attribute o m apos) [] [] pos) X.env = (do
      let ov ← eval o X.env
      standAt apos.atName
      let (f, first) ← holding [ov] (getMethod ov m pl)
      callWith pos f first (backTo pos (starEach [] X.env)) (backToKw pos (keywordEach [] X.env))) := by rfl) : PE X (.Call (.Attribute o m apos) [] [] pos) (tMethE (ga X.K C) m sp E ta) := by
  obtain ⟨fd, _, h3, F⟩ := D.ex
  refine ⟨fun pins s σ H Q I h => ?_⟩
  refine PySem.W.methodCall_KW (pl := pl) (thn (he.run pins s σ H _ I h) fun u s1 ⟨x, H1, I1, rx, a, dx, fs, ex, ea, l, q⟩ => ?_) ht
  subst ex
  obtain rfl : u = Value.ref a := rx
  refine getmeth_ok I1 ea c hm l ?_
  exact PySem.W.callWith_K0 (first := [.ref a]) I1.kIn hm.kp (run_fnSD (us := [.ref a]) (vs := [.ref a]) (dvs := []) (E := E) F (hr.mono hk) h3 .nil (hx σ) I1 (.cons rfl .nil) q)
/-- ps_tryA, where the readings may name all that the parts' contexts name -/
theorem ps_tryB {X : Cx} {body suite : List Stmt} {b₀ : Stmt} {test : Expr} {pos pos' : Pos} {Wout : WX} {tb : WX → List (Addr × Obj) → (Value → Shared → Prop) → TS} {ts : Addr → Obj → Value → Option Addr → List (Addr × Obj) → TS} {m : Value → Prop}
    (hs : X.stack = X.env :: X.outer) (hf : X.env.frame = some X.env.locals) (hex : X.ex = []) (tk : Takes X Wout) (hpa : ∀ hd : Option Value, PassesOwnAt (model X.prog X.w) (X.A.mark hd) X.A X.env X.xe) (ht : ∀ cls, m cls → TestOk X test cls true)
    (hb : ∀ (W : WX) (pn : List (Addr × Obj)) (xe : Value → Shared → Prop), L2N.Takes (X.tr pn xe) W → PSs (X.tr pn xe) body (tb W pn xe))
    (hsu : ∀ (a : Addr) (oe : Obj) (cls : Value) (d : Option Addr) (pn : List (Addr × Obj)), Zc cls d oe → (∃ vs : Array Value, oe.data = .fields vs ∧ vs[2]? = some Value.none) →
      (∀ u s', XEs (L2H.suiteX X a ((a, oe) :: pn)) a (WS a Wout) u s' → X.xe u s') → PSs (L2H.suiteX X a ((a, oe) :: pn)) (b₀ :: suite) (ts a oe cls d pn)) :
    PS X (.Try body [.ExceptHandler (some test) none (b₀ :: suite) pos'] [] [] pos) (fun D σ H => ∀ pn xe, tb (fun cls d σ' H' => m cls ∧ ∀ a, H' a = none → ∀ oe pn, ts a oe cls d pn D σ' H') pn xe D σ H) :=
  ps_tryA (tb := fun W D σ H => ∀ pn xe, tb W pn xe D σ H) (ts := fun a cls d D σ H => ∀ oe pn, ts a oe cls d pn D σ H) (m := m) hs hf hex tk hpa ht
    (fun W pn xe tk => ⟨fun pins s σ H D I h => (hb W pn xe tk).run pins s σ H D I (h pn xe)⟩) fun a oe cls d pn hz hv hx => ⟨fun pins s σ H D I h => (hsu a oe cls d pn hz hv hx).run pins s σ H D I (h oe pn)⟩
section
variable {P : Program} {w : World} {K : PySem.W.Frag} {mg : Str → Option Value} {base : Heap}
theorem ok_rget (T : Txt w K mg) : Def P w K mg base (CX P w) 3 "run_get" ["run", "frame", "instruction"] (spAct K isGet) := by
  have M_Events_get := ok_get (P := P) (base := base) T
  refine D_run_get T (fun vs H Q E h => ?_) (fun cdv A outer s H vs Q E hr h => ?_)
  · obtain ⟨d, ia, ins, i, rfl, _⟩ := h
    rfl
  obtain ⟨d, ia, ins, i, rfl, S, hi, ok, hk, hb, q⟩ := h
  cases ins <;> try exact hk.elim
  rename_i dd p
  refine ⟨_, (pss_one (ps_tryB (m := fun c => c = .ref (ga K "NoInput")) rfl rfl rfl (takes_of rfl rfl rfl rfl) (fun hd => L2H.passesAt_of rfl hd) (fun cls hc => by subst hc; exact test_name ⟨rfl, rfl, .inl (g_NoInput T)⟩ (T.em "NoInput" "NoInput" true (by decide +kernel))) (fun W pn xe tk => (pss_one (ps_asg (pe_methDS0 M_Events_get (pe_fld (pv 0) rfl) (cl_Events T) (me_Events_get T) hr (by omega) (fun σ => L2N.passAt tk σ)) (pg_sub (pe_fld (pv 1) rfl) (pe_ix ix_tup (pv 2) pe_int (fun _ _ => rfl)) set_list)))) (fun a oe cls d pn hz hv hx => (pss_one (ps_raiseFN (p := (a, oe)) rfl hv List.mem_cons_self hx (pmk_raisedH T (L2H.roomH_mark hr _) (by omega) ⟨(a, oe), ⟨rfl, hv⟩, List.mem_cons_self⟩ rfl (pa_cons (pe_gi (gi_END T) rfl) (pa_cons (pe_ix ix_tup (pv 2) pe_int (fun _ _ => rfl)) pa_nil)))))))), ?_⟩
  obtain ⟨a, vs, e, ha, rfl⟩ := hi
  cases e
  obtain ⟨hd, hp⟩ := ok
  intro pn xe
  refine ⟨_, rfl, _, _, _, _, _, rfl, S.s.l.run, cl_CodeRun T, na_CodeRun_events T, rfl, _, _, _, rfl, S.s.l.ev, rfl, d.D, d.e.ins, d.g, d.cas, d.ra, d.rs, rfl, S.s, hb, fun hn => ?_, fun x hx H' st sA => ?_⟩
  · simp only [step1, hn] at q
    refine ⟨rfl, fun a hna oe pn => ⟨_, rfl, ia, _, _, _, rfl, rfl, SqT.of ha, rfl, raised_at (K := K) (H1 := H) (k := .int 3) (p := .int p) (Q := fun cls dx H' => H' a = none → E cls dx (upd H' a (ctxO a))) fun dd hdd hna2 => ?_⟩⟩
    have nad : a ≠ dd := fun z => by
      rw [z, upd_same] at hna2
      cases hna2
    have st1 : Stp S0 H (upd (upd H dd (.xd [("place", .int p), ("number", .int 3)])) a (ctxO a)) := (Stp.new hdd).trans (Stp.new hna2)
    refine q _ dd st1.z (S.s.st st1) ?_
    rw [upd_ne (Ne.symm nad)]
    exact upd_same
  · simp only [step1, hx] at q
    have hf := st.at S.f fun _ => frz_fr
    refine ⟨_, rfl, _, _, _, _, _, rfl, hf, cl_Frame T, na_Frame_registers T, rfl, _, rfl, ia, _, _, _, rfl, rfl, SqT.of (st.tup ha), rfl, d.ra, _, (dd : Int), dd, rfl, rfl, sA.r, ixN_nat (by rw [List.length_map, S.len]; exact hd), ?_⟩
    rw [map_set]
    exact q _ (st.trans (Stp.setR sA)) (sA.setR _)
end
/-! ### compute -/
def isComp : Ins → Prop
  | .move .. => True | .neg .. => True | .abs .. => True | .less .. => True | .equal .. => True | .ar .. => True
  | _ => False
def spComp (K : PySem.W.Frag) : Sp := fun vs H Q E => ∃ (d : Dat) (ia : Addr) (ins : Ins) (i : Nat), vs = [.ref d.fa, .ref ia] ∧ Sit K H d ∧ insV H (.ref ia) ins ∧ InsOk d.e.m d.u d.U i ins ∧ isComp ins ∧
  Post K d.D d.e.ins d.cas d.ra H (fun _ H' => Q .non H') E (step1 d.e (d.i0 :: d.r) i d.g d.rs ins)
theorem kdA {w : World} {K : PySem.W.Frag} {mg : Str → Option Value} (T : Txt w K mg) (r : Ar) : KDct K w (ga K "ARITHMETIC") (arN r) (.str (arS r)) := by
  obtain ⟨es, n, D⟩ := T.c.tab 0
  obtain ⟨u, h1, h2⟩ : ∃ u, PySem.W.nsIn K (ga K "ARITHMETIC") (arN r) = some (some u) ∧ RelV (.str (arS r)) u := by
    cases r
    · exact valsB_ok T.va (q := ("add", .str "+")) (.head _)
    · exact valsB_ok T.va (q := ("sub", .str "-")) (.tail _ (.head _))
    · exact valsB_ok T.va (q := ("mul", .str "*")) (.tail _ (.tail _ (.head _)))
    · exact valsB_ok T.va (q := ("div", .str "/")) (.tail _ (.tail _ (.tail _ (.head _))))
    · exact valsB_ok T.va (q := ("mod", .str "mod")) (.tail _ (.tail _ (.tail _ (.tail _ (.head _)))))
    · exact valsB_ok T.va (q := ("rem", .str "rem")) (.tail _ (.tail _ (.tail _ (.tail _ (.tail _ (.head _))))))
  exact ⟨es, n, u, D.at_, D.lit, h1, h2⟩
section
variable {P : Program} {w : World} {K : PySem.W.Frag} {mg : Str → Option Value} {base : Heap}
theorem ok_compute (T : Txt w K mg) : Def P w K mg base (CX P w) 5 "compute" ["frame", "instruction"] (spComp K) := by
  have M_Frame_value := ok_value (P := P) (base := base) T
  have G_negate := ok_negate (P := P) (base := base) T
  have G_absolute := ok_absolute (P := P) (base := base) T
  have G_arithmetic := ok_arithmetic (P := P) (base := base) T
  refine D_compute T (fun vs H Q E h => ?_) (fun cdv A outer s H vs Q E hr h => ?_)
  · obtain ⟨d, ia, ins, i, rfl, _⟩ := h
    rfl
  obtain ⟨d, ia, ins, i, rfl, S, hi, ok, hk, q⟩ := h
  refine ⟨_, (pss_cons (ps_set (i := 2) sc_compute.nd rfl (Or.inl rfl) (pe_ix ix_tup (pv 1) pe_int (fun _ _ => rfl))) (pss_cons (ps_set (i := 3) sc_compute.nd rfl (Or.inl rfl) (pe_methD M_Frame_value (pv 0) (cl_Frame T) (me_Frame_value T) hr (by omega) pass0 (pa_cons (pe_ix ix_tup (pv 1) pe_int (fun _ _ => rfl)) pa_nil))) (pss_cons (ps_tryB (m := fun c => c = .ref (ga K "Overflow") ∨ c = .ref (ga K "DivisionByZero")) rfl rfl rfl (takes_of rfl rfl rfl rfl) (fun hd => L2H.passesAt_of rfl hd) (fun cls hc => by rcases hc with hc | hc <;> subst hc; exact test_tup rfl rfl (g_Overflow T) (g_DivisionByZero T) (T.ea "Overflow" (by decide +kernel)); exact test_tup rfl rfl (g_Overflow T) (g_DivisionByZero T) (T.ea "DivisionByZero" (by decide +kernel))) (fun W pn xe tk => (pss_one (ps_if (pt_cmpR op_eq (pv 2) pe_str (nomark _)) (pss_one (ps_set (i := 4) sc_compute.nd rfl (Or.inl rfl) (pv 3))) (pss_one (ps_if (pt_cmpR op_eq (pv 2) pe_str (nomark _)) (pss_one (ps_set (i := 4) sc_compute.nd rfl (Or.inl rfl) (pe_callDS G_negate hr (by omega) rfl (fun σ => L2N.passAt tk σ) (pa_cons (pv 3) pa_nil)))) (pss_one (ps_if (pt_cmpR op_eq (pv 2) pe_str (nomark _)) (pss_one (ps_set (i := 4) sc_compute.nd rfl (Or.inl rfl) (pe_callDS G_absolute hr (by omega) rfl (fun σ => L2N.passAt tk σ) (pa_cons (pv 3) pa_nil)))) (pss_one (ps_if (pt_cmpR op_eq (pv 2) pe_str (nomark _)) (pss_one (ps_set (i := 4) sc_compute.nd rfl (Or.inl rfl) (pe_callTy call_int1 (by rfl) (b_int T) (by decide +kernel) (pa_cons (pe_cmpR op_lt (pv 3) (pe_methD M_Frame_value (pv 0) (cl_Frame T) (me_Frame_value T) hr (by omega) pass0 (pa_cons (pe_ix ix_tup (pv 1) pe_int (fun _ _ => rfl)) pa_nil)) (nomark _)) pa_nil)))) (pss_one (ps_if (pt_cmpR op_eq (pv 2) pe_str (nomark _)) (pss_one (ps_set (i := 4) sc_compute.nd rfl (Or.inl rfl) (pe_callTy call_int1 (by rfl) (b_int T) (by decide +kernel) (pa_cons (pe_cmpR op_eq (pv 3) (pe_methD M_Frame_value (pv 0) (cl_Frame T) (me_Frame_value T) hr (by omega) pass0 (pa_cons (pe_ix ix_tup (pv 1) pe_int (fun _ _ => rfl)) pa_nil)) (nomark _)) pa_nil)))) (pss_one (ps_set (i := 4) sc_compute.nd rfl (Or.inl rfl) (pe_callDS G_arithmetic hr (by omega) rfl (fun σ => L2N.passAt tk σ) (pa_cons (pe_ix ix_kdict (pe_glob (v := .ref (ga K "ARITHMETIC")) rfl (g_ARITHMETIC T) rfl) (pv 2) (fun _ _ => rfl)) (pa_cons (pv 3) (pa_cons (pe_methD M_Frame_value (pv 0) (cl_Frame T) (me_Frame_value T) hr (by omega) pass0 (pa_cons (pe_ix ix_tup (pv 1) pe_int (fun _ _ => rfl)) pa_nil)) pa_nil))))))))))))))))) (fun a oe cls d pn hz hv hx => (pss_one (ps_raiseFN (p := (a, oe)) rfl hv List.mem_cons_self hx (pmk_raisedH T (L2H.roomH_mark hr _) (by omega) ⟨(a, oe), ⟨rfl, hv⟩, List.mem_cons_self⟩ rfl (pa_cons (pe_gi (gi_CONSTRAINT T) rfl) (pa_cons (pe_ix ix_tup (pv 1) (pe_un un_neg pe_int) (fun _ _ => rfl)) pa_nil))))))) (pss_one (ps_asg (pv 4) (pg_sub (pe_fld (pv 0) rfl) (pe_ix ix_tup (pv 1) pe_int (fun _ _ => rfl)) set_list)))))), ?_⟩
  -- the ends
  have fin : ∀ {dd : Nat} {w : Int} {g' : G}, dd < d.U.regs → step1 d.e (d.i0 :: d.r) i d.g d.rs ins = .go (i + 1) d.g (d.rs.set dd w) → Q .non (upd H d.ra (.lst ((d.rs.map V.int).set dd (.int w)))) := fun {dd w g'} hd e => by
    rw [e] at q
    rw [map_set]
    exact q _ (Stp.setR S.s) (S.s.setR _)
  have exc : ∀ {p : Nat}, step1 d.e (d.i0 :: d.r) i d.g d.rs ins = .exc 0 p d.g d.rs → ∀ a dd, H dd = none → upd H dd (.xd [("place", .int p), ("number", .int 0)]) a = none → E (.ref (ga K "CodeRaised")) (some dd) (upd (upd H dd (.xd [("place", .int p), ("number", .int 0)])) a (ctxO a)) := fun {p} e a dd hdd hna => by
    rw [e] at q
    have nad : a ≠ dd := fun z => by
      rw [z, upd_same] at hna
      cases hna
    have st1 : Stp S0 H (upd (upd H dd (.xd [("place", .int p), ("number", .int 0)])) a (ctxO a)) := (Stp.new hdd).trans (Stp.new hna)
    refine q _ dd st1.z (S.s.st st1) ?_
    rw [upd_ne (Ne.symm nad)]
    exact upd_same
  cases ins <;> try exact hk.elim
  · -- move
    rename_i dd x
    obtain ⟨a, vs, e, ha, o, rfl, ho⟩ := hi
    cases e
    obtain ⟨hd, hx⟩ := ok
    refine ⟨_, rfl, ia, _, _, _, rfl, rfl, SqT.of ha, rfl, _, rfl, _, _, _, rfl, S.f, rfl, _, rfl, ia, _, _, _, rfl, rfl, SqT.of ha, rfl, d.fa, d.fx, d.ra, _, _, _, d.rs, rfl, S.f, rfl, S.s.r, ho, S.op hx, ?_⟩
    intro pn xe
    refine ⟨_, rfl, rfl, _, rfl, if_true_of (by show decide (V.str ("move" : Str) = V.str "move") = true; decide) ⟨_, rfl, _, rfl, _, rfl, _, _, _, _, _, rfl, S.f, cl_Frame T, na_Frame_registers T, rfl, _, rfl, ia, _, _, _, rfl, rfl, SqT.of ha, rfl, d.ra, _, (dd : Int), dd, rfl, rfl, S.s.r, ixN_nat (by rw [List.length_map, S.len]; exact hd), fin (g' := d.g) hd ?_⟩⟩
    have hw : wordB (Wn.val d.rs x) = true := Wn.wordB_iff.mpr (Wn.val_word S.ok.rw hx)
    simp [step1, comp, hw]
  · -- neg
    rename_i dd x p
    obtain ⟨a, vs, e, ha, o, rfl, ho⟩ := hi
    cases e
    obtain ⟨hd, hx, hp⟩ := ok
    refine ⟨_, rfl, ia, _, _, _, rfl, rfl, SqT.of ha, rfl, _, rfl, _, _, _, rfl, S.f, rfl, _, rfl, ia, _, _, _, rfl, rfl, SqT.of ha, rfl, d.fa, d.fx, d.ra, _, _, _, d.rs, rfl, S.f, rfl, S.s.r, ho, S.op hx, ?_⟩
    intro pn xe
    exact ⟨_, rfl, rfl, _, rfl, if_false_of (by show decide (V.str ("neg" : Str) = V.str "move") = false; decide) ⟨_, rfl, rfl, _, rfl, if_true_of (by show decide (V.str ("neg" : Str) = V.str "neg") = true; decide) ⟨_, rfl, _, rfl, fun hw => ⟨_, rfl, _, rfl, _, _, _, _, _, rfl, S.f, cl_Frame T, na_Frame_registers T, rfl, _, rfl, ia, _, _, _, rfl, rfl, SqT.of ha, rfl, d.ra, _, (dd : Int), dd, rfl, rfl, S.s.r, ixN_nat (by rw [List.length_map, S.len]; exact hd),  fin (g' := d.g) hd (by simp [step1, comp, hw])⟩, fun hw => ⟨.inl rfl, fun a hna oe pn => ⟨_, rfl, _, rfl, ia, _, _, _, rfl, rfl, SqT.of ha, rfl, raised_at (K := K) (H1 := H) (k := .int 0) (p := .int p) (Q := fun cls dx H' => H' a = none → E cls dx (upd H' a (ctxO a))) fun dd hdd hna2 => exc (p := p) (by simp [step1, comp, hw]) a dd hdd hna2⟩⟩⟩⟩⟩
  · -- abs
    rename_i dd x p
    obtain ⟨a, vs, e, ha, o, rfl, ho⟩ := hi
    cases e
    obtain ⟨hd, hx, hp⟩ := ok
    refine ⟨_, rfl, ia, _, _, _, rfl, rfl, SqT.of ha, rfl, _, rfl, _, _, _, rfl, S.f, rfl, _, rfl, ia, _, _, _, rfl, rfl, SqT.of ha, rfl, d.fa, d.fx, d.ra, _, _, _, d.rs, rfl, S.f, rfl, S.s.r, ho, S.op hx, ?_⟩
    intro pn xe
    exact ⟨_, rfl, rfl, _, rfl, if_false_of (by show decide (V.str ("abs" : Str) = V.str "move") = false; decide) ⟨_, rfl, rfl, _, rfl, if_false_of (by show decide (V.str ("abs" : Str) = V.str "neg") = false; decide) ⟨_, rfl, rfl, _, rfl, if_true_of (by show decide (V.str ("abs" : Str) = V.str "abs") = true; decide) ⟨_, rfl, _, rfl, fun hw => ⟨_, rfl, _, rfl, _, _, _, _, _, rfl, S.f, cl_Frame T, na_Frame_registers T, rfl, _, rfl, ia, _, _, _, rfl, rfl, SqT.of ha, rfl, d.ra, _, (dd : Int), dd, rfl, rfl, S.s.r, ixN_nat (by rw [List.length_map, S.len]; exact hd),  fin (g' := d.g) hd (by simp [step1, comp, hw])⟩, fun hw => ⟨.inl rfl, fun a hna oe pn => ⟨_, rfl, _, rfl, ia, _, _, _, rfl, rfl, SqT.of ha, rfl, raised_at (K := K) (H1 := H) (k := .int 0) (p := .int p) (Q := fun cls dx H' => H' a = none → E cls dx (upd H' a (ctxO a))) fun dd hdd hna2 => exc (p := p) (by simp [step1, comp, hw]) a dd hdd hna2⟩⟩⟩⟩⟩⟩
  · -- less
    rename_i dd x y
    obtain ⟨a, vs, e, ha, o, o2, rfl, ho, ho2⟩ := hi
    cases e
    obtain ⟨hd, hx, hy⟩ := ok
    refine ⟨_, rfl, ia, _, _, _, rfl, rfl, SqT.of ha, rfl, _, rfl, _, _, _, rfl, S.f, rfl, _, rfl, ia, _, _, _, rfl, rfl, SqT.of ha, rfl, d.fa, d.fx, d.ra, _, _, _, d.rs, rfl, S.f, rfl, S.s.r, ho, S.op hx, ?_⟩
    intro pn xe
    refine ⟨_, rfl, rfl, _, rfl, if_false_of (by show decide (V.str ("less" : Str) = V.str "move") = false; decide) ⟨_, rfl, rfl, _, rfl, if_false_of (by show decide (V.str ("less" : Str) = V.str "neg") = false; decide) ⟨_, rfl, rfl, _, rfl, if_false_of (by show decide (V.str ("less" : Str) = V.str "abs") = false; decide) ⟨_, rfl, rfl, _, rfl, if_true_of (by show decide (V.str ("less" : Str) = V.str "less") = true; decide) ⟨_, rfl, _, rfl, _, _, _, rfl, S.f, rfl, _, rfl, ia, _, _, _, rfl, rfl, SqT.of ha, rfl, d.fa, d.fx, d.ra, _, _, _, d.rs, rfl, S.f, rfl, S.s.r, ho2, S.op hy, _, _, rfl, rfl, .inr ⟨_, rfl, _, rfl, _, rfl, _, _, _, _, _, rfl, S.f, cl_Frame T, na_Frame_registers T, rfl, _, rfl, ia, _, _, _, rfl, rfl, SqT.of ha, rfl, d.ra, _, (dd : Int), dd, rfl, rfl, S.s.r, ixN_nat (by rw [List.length_map, S.len]; exact hd),  fin (g' := d.g) hd ?_⟩⟩⟩⟩⟩⟩
    by_cases c : Wn.val d.rs x < Wn.val d.rs y
    · simp [step1, comp, c, wordB]
    · simp [step1, comp, c, wordB]
  · -- equal
    rename_i dd x y
    obtain ⟨a, vs, e, ha, o, o2, rfl, ho, ho2⟩ := hi
    cases e
    obtain ⟨hd, hx, hy⟩ := ok
    refine ⟨_, rfl, ia, _, _, _, rfl, rfl, SqT.of ha, rfl, _, rfl, _, _, _, rfl, S.f, rfl, _, rfl, ia, _, _, _, rfl, rfl, SqT.of ha, rfl, d.fa, d.fx, d.ra, _, _, _, d.rs, rfl, S.f, rfl, S.s.r, ho, S.op hx, ?_⟩
    intro pn xe
    refine ⟨_, rfl, rfl, _, rfl, if_false_of (by show decide (V.str ("equal" : Str) = V.str "move") = false; decide) ⟨_, rfl, rfl, _, rfl, if_false_of (by show decide (V.str ("equal" : Str) = V.str "neg") = false; decide) ⟨_, rfl, rfl, _, rfl, if_false_of (by show decide (V.str ("equal" : Str) = V.str "abs") = false; decide) ⟨_, rfl, rfl, _, rfl, if_false_of (by show decide (V.str ("equal" : Str) = V.str "less") = false; decide) ⟨_, rfl, rfl, _, rfl, if_true_of (by show decide (V.str ("equal" : Str) = V.str "equal") = true; decide) ⟨_, rfl, _, rfl, _, _, _, rfl, S.f, rfl, _, rfl, ia, _, _, _, rfl, rfl, SqT.of ha, rfl, d.fa, d.fx, d.ra, _, _, _, d.rs, rfl, S.f, rfl, S.s.r, ho2, S.op hy, rfl, .inr ⟨_, rfl, _, rfl, _, rfl, _, _, _, _, _, rfl, S.f, cl_Frame T, na_Frame_registers T, rfl, _, rfl, ia, _, _, _, rfl, rfl, SqT.of ha, rfl, d.ra, _, (dd : Int), dd, rfl, rfl, S.s.r, ixN_nat (by rw [List.length_map, S.len]; exact hd),  fin (g' := d.g) hd ?_⟩⟩⟩⟩⟩⟩⟩
    by_cases c : Wn.val d.rs x = Wn.val d.rs y
    · simp [step1, comp, c, wordB]
    · simp [step1, comp, c, wordB]
  · -- ar
    rename_i r dd x y p
    obtain ⟨a, vs, e, ha, o, o2, rfl, ho, ho2⟩ := hi
    cases e
    obtain ⟨hd, hx, hy, hp⟩ := ok
    refine ⟨_, rfl, ia, _, _, _, rfl, rfl, SqT.of ha, rfl, _, rfl, _, _, _, rfl, S.f, rfl, _, rfl, ia, _, _, _, rfl, rfl, SqT.of ha, rfl, d.fa, d.fx, d.ra, _, _, _, d.rs, rfl, S.f, rfl, S.s.r, ho, S.op hx, ?_⟩
    intro pn xe
    refine ⟨_, rfl, rfl, _, rfl, if_false_of (show decide (V.str (arN r) = V.str "move") = false by cases r <;> decide) ⟨_, rfl, rfl, _, rfl, if_false_of (show decide (V.str (arN r) = V.str "neg") = false by cases r <;> decide) ⟨_, rfl, rfl, _, rfl, if_false_of (show decide (V.str (arN r) = V.str "abs") = false by cases r <;> decide) ⟨_, rfl, rfl, _, rfl, if_false_of (show decide (V.str (arN r) = V.str "less") = false by cases r <;> decide) ⟨_, rfl, rfl, _, rfl, if_false_of (show decide (V.str (arN r) = V.str "equal") = false by cases r <;> decide) ⟨_, rfl, _, _, _, rfl, rfl, kdA T r, _, rfl, _, rfl, _, _, _, rfl, S.f, rfl, _, rfl, ia, _, _, _, rfl, rfl, SqT.of ha, rfl, d.fa, d.fx, d.ra, _, _, _, d.rs, rfl, S.f, rfl, S.s.r, ho2, S.op hy, r, _, _, rfl, trivial, Wn.val_word S.ok.rw hx, Wn.val_word S.ok.rw hy, fun w e hw => ⟨_, rfl, _, rfl, _, _, _, _, _, rfl, S.f, cl_Frame T, na_Frame_registers T, rfl, _, rfl, ia, _, _, _, rfl, rfl, SqT.of ha, rfl, d.ra, _, (dd : Int), dd, rfl, rfl, S.s.r, ixN_nat (by rw [List.length_map, S.len]; exact hd),  fin (g' := d.g) hd (by simp [step1, comp, e, hw])⟩, fun hno => ?_⟩⟩⟩⟩⟩⟩
    have st : step1 d.e (d.i0 :: d.r) i d.g d.rs (.ar r dd x y p) = .exc 0 p d.g d.rs := by
      cases ex : exact r (Wn.val d.rs x) (Wn.val d.rs y) with
      | none => simp [step1, comp, ex]
      | some w => simp [step1, comp, ex, hno w ex]
    exact ⟨⟨.inl rfl, fun a hna oe pn => ⟨_, rfl, _, rfl, ia, _, _, _, rfl, rfl, SqT.of ha, rfl, raised_at (K := K) (H1 := H) (k := .int 0) (p := .int p) (Q := fun cls dx H' => H' a = none → E cls dx (upd H' a (ctxO a))) fun dd hdd hna2 => exc (p := p) (st) a dd hdd hna2⟩⟩, ⟨.inr rfl, fun a hna oe pn => ⟨_, rfl, _, rfl, ia, _, _, _, rfl, rfl, SqT.of ha, rfl, raised_at (K := K) (H1 := H) (k := .int 0) (p := .int p) (Q := fun cls dx H' => H' a = none → E cls dx (upd H' a (ctxO a))) fun dd hdd hna2 => exc (p := p) (st) a dd hdd hna2⟩⟩⟩
end
end WX
/-! ## WP7 -/
set_option Elab.async false
set_option linter.all false
set_option maxRecDepth 100000
set_option maxHeartbeats 2000000
/-! A call. -/
namespace WX
open PySem PySem.Spec PyProof.Rows L2 He
open Wn (Op Ar Ins Rg Un Mod G Out Nx Word wordB exact val StOk EnvOk InsOk OpOk step1 ModOk UnOk comp mu setAll push pop back)
local macro_rules | `(tactic| walk_at "new") => `(tactic| (intro p hp; generalize hG : upd _ p _ = H5; obtain ⟨s5, h5⟩ := gnew hG hp; clear hG))
theorem Stp.over {S : Addr → Prop} {H H' : Hp} {p : Addr} {o : HO} (h : Stp S H H') (n : New H p) : Stp S H (upd H' p o) := ⟨fun a u e q w => by rw [upd_ne (n.ne e w)]; exact h.to a u e q w⟩
theorem New.back {H H' : Hp} {p : Addr} (n : New H' p) (t : Stp S0 H H') : New H p := fun o w q => n o w (t.to p o q (fun z => z.elim) w)
theorem Stp.s0 {S : Addr → Prop} {H H' : Hp} (h : Stp S H H') (n : ∀ a, S a → New H a) : Stp S0 H H' := h.less fun a o w s e => absurd e (n a s o w)
theorem Sit.st {K : PySem.W.Frag} {H H' : Hp} {d : Dat} (h : Stp S0 H H') (s : Sit K H d) : Sit K H' d := by
  obtain ⟨dx, fs, c, rg, cs, rs, un⟩ := s.un
  exact { s with s := s.s.st h, f := h.at s.f fun z => z.elim, ch := s.ch.st h, un := ⟨dx, fs, c, rg, cs, rs, un.st h⟩, mo := s.mo.st h }
/-- [frame.value(operand) for operand in t] -/
theorem lc_vals {K : PySem.W.Frag} {H : Hp} {d : Dat} (S : Sit K H d) {o : Addr} {vs : List V} {xs : List Op} (hA : H o = some (.tup vs)) (h2 : All2 (opV H) vs xs) (hx : ∀ x ∈ xs, OpOk d.U.regs x) (hlen : xs.length ≤ 1000) {σ : L2.St} {i f : Nat}
    (hf : σ[f]? = some (some (.ref d.fa))) (hi : i < σ.length) (hfi : f ≠ i) {D : Addr} (hD : H D = none) {Qd : Hp → Prop} (k : ∀ H', Stp S0 H H' → H' D = some (.lst ((xs.map (Wn.val d.rs)).map V.int)) → Qd H') :
    ∃ W : Nat → Nat → Hp → Prop, (∃ m, W 0 m (upd H D (.lst []))) ∧ ∀ j m H, W j m H →
      ((Itt K o).stop j H ∧ Qd H) ∨ ((Itt K o).go j H ∧ ∃ Nx : Hp → Prop, (∀ H', Nx H' → ∃ m', m' < m ∧ W (j + 1) m' H') ∧ ∀ x H', (Itt K o).yld j H x H' → gName i x (wipe σ [i]) H' fun σ2 H2 => wipe σ2 [i] = wipe σ [i] ∧ tYes σ2 H2 fun b H3 =>
        if b = true then tMeth (ga K "Frame") "value" (spVal K) [] E0 (tVar f) (tCons (tVar i) tNil) σ2 H3 fun y H4 => ∃ acc, H4 D = some (.lst acc) ∧ acc.length < sizeLine ∧ Nx (upd H4 D (.lst (acc ++ [y]))) else Nx H3) := by
  refine lc_tup (xs := vs) (fun j H' => Stp S0 H H' ∧ H' D = some (.lst (((xs.map (Wn.val d.rs)).take j).map V.int))) ⟨Stp.new hD, upd_same⟩ (fun j H' _ p => SqT.of (p.1.tup hA)) (fun j v H' hv p => ?_) fun H' p => ?_
  · obtain ⟨st, hl⟩ := p
    obtain ⟨x, hxj, ho⟩ := h2.get' hv
    have hxm := List.mem_of_getElem? hxj
    have S' := S.st st
    have lenw : (wipe σ [i]).length = σ.length := wipe_length σ [i]
    have ew : wipe σ [i] = σ.set i none := rfl
    have e1 : ((wipe σ [i]).set i (some v))[f]? = some (some (.ref d.fa)) := by
      rw [ew, List.getElem?_set_ne (Ne.symm hfi), List.getElem?_set_ne (Ne.symm hfi)]
      exact hf
    have e2 : ((wipe σ [i]).set i (some v))[i]? = some (some v) := by
      rw [List.getElem?_set_self (by rw [lenw]; exact hi)]
    refine ⟨?_, _, e1, _, _, _, rfl, S'.f, rfl, _, e2, d.fa, d.fx, d.ra, _, _, x, d.rs, rfl, S'.f, rfl, S'.s.r, ho.st st, S.op (hx x hxm), _, hl, ?_, st.over (.of hD), ?_⟩
    · show ((σ.set i none).set i (some v)).set i none = σ.set i none
      rw [List.set_set, List.set_set]
    · refine Nat.lt_of_le_of_lt ?_ (small1000 hlen)
      rw [List.length_map, List.length_take, List.length_map]
      omega
    · rw [upd_same]
      have e3 : (xs.map (Wn.val d.rs))[j]? = some (Wn.val d.rs x) := by rw [List.getElem?_map, hxj]; rfl
      obtain ⟨lt, ee⟩ := List.getElem?_eq_some_iff.mp e3
      rw [List.take_succ_eq_append_getElem lt, ee, List.map_append]
      rfl
  · obtain ⟨st, hl⟩ := p
    rw [h2.1, ← List.length_map (f := Wn.val d.rs) (as := xs), List.take_length] at hl
    exact k H' st hl
/-- for i, x in enumerate(l) -/
theorem for_enum {K : PySem.W.Frag} {a : Addr} {xs : List V} {g : TG} {tb : TS} {D : Ends} {σ : L2.St} {H : Hp} (Pv : Nat → L2.St → Hp → Prop) (h0 : Pv 0 σ H) (hq : ∀ i σ H, Pv i σ H → SqL K H a xs)
    (hs : ∀ (i : Nat) (x : V) (T : Addr) (σ : L2.St) (H : Hp), xs[i]? = some x → Pv i σ H → H T = none → g (.ref T) σ (upd H T (.tup [.int (i : Nat), x])) fun σ2 H2 => tb { D with nx := Pv (i + 1), ct := Pv (i + 1), bk := D.nx } σ2 H2) (hd : ∀ σ H, Pv xs.length σ H → D.nx σ H) :
    ∃ W : Nat → Nat → L2.St → Hp → Prop, (∃ m, W 0 m σ H) ∧ ∀ i m σ H, W i m σ H →
      ((Ite K a).stop i H ∧ D.nx σ H) ∨ ((Ite K a).go i H ∧ ∃ N : L2.St → Hp → Prop, (∀ σ' H', N σ' H' → ∃ m', m' < m ∧ W (i + 1) m' σ' H') ∧ ∀ v H', (Ite K a).yld i H v H' → g v σ H' fun σ2 H2 => tb { D with nx := N, ct := N, bk := D.nx } σ2 H2) := by
  refine ⟨fun i m σ H => m = xs.length - i ∧ i ≤ xs.length ∧ Pv i σ H, ⟨xs.length, rfl, Nat.zero_le _, h0⟩, ?_⟩
  rintro i m σ H ⟨rfl, hi, p⟩
  have qx := hq i σ H p
  rcases Nat.lt_or_eq_of_le hi with lt | e
  · have hx : xs[i]? = some xs[i] := List.getElem?_eq_getElem lt
    refine .inr ⟨⟨xs, _, qx, hx⟩, Pv (i + 1), fun σ' H' p' => ⟨xs.length - (i + 1), by omega, rfl, lt, p'⟩, ?_⟩
    rintro v H' ⟨T, x', rfl, hT, rfl, f1⟩
    exact hs i x' T σ H (f1 xs qx) p hT
  · subst e
    exact .inl ⟨⟨xs, qx, Nat.le_refl _⟩, hd σ H p⟩
theorem setAll_snoc : ∀ (rs : List Int) (ds : List Nat) (ws : List Int) (j d : Nat) (w : Int), ds[j]? = some d → ws[j]? = some w → setAll rs (ds.take (j + 1)) (ws.take (j + 1)) = (setAll rs (ds.take j) (ws.take j)).set d w
  | rs, [], ws, j, d, w, h, _ => by simp at h
  | rs, d0 :: ds, [], j, d, w, _, h => by simp at h
  | rs, d0 :: ds, w0 :: ws, 0, d, w, h1, h2 => by
    cases h1
    cases h2
    show setAll (rs.set d0 w0) (ds.take 0) (ws.take 0) = (setAll rs [] []).set d0 w0
    have e : ∀ l : List Int, setAll l [] [] = l := fun l => by cases l <;> simp [setAll]
    rw [List.take_zero, List.take_zero, e, e]
  | rs, d0 :: ds, w0 :: ws, j + 1, d, w, h1, h2 => by
    show setAll (rs.set d0 w0) (ds.take (j + 1)) (ws.take (j + 1)) = (setAll (rs.set d0 w0) (ds.take j) (ws.take j)).set d w
    exact setAll_snoc _ ds ws j d w h1 h2
theorem setAll_nil (rs : List Int) : setAll rs [] [] = rs := by cases rs <;> simp [setAll]
theorem StA.regs {K : PySem.W.Frag} {H H' : Hp} {D : RD} {ins : List Int} {g : G} {cas : List Addr} {ra : Addr} {rs rs' : List Int} (s : StA K H D ins g cas ra rs) (st : Stp (fun a => a = ra) H H') (hr : H' ra = some (.lst (rs'.map V.int))) : StA K H' D ins g cas ra rs' := by
  have N := s.nds
  obtain ⟨l1, m1, m2⟩ := s.l.md
  obtain ⟨l2, s1, s2⟩ := s.l.sn
  have f : ∀ {a : Addr} {o : HO}, (e : H a = some o) → (n : a ≠ ra) → (w : ours o := by exact True.intro) → H' a = some o := fun {a o} e n w => st.at e (fun z => absurd z n) w
  obtain ⟨k1, k2, k3⟩ := s.l.insNe s.r
  exact ⟨⟨f s.l.run k1, f s.l.ev k2, f s.l.fu k3, f s.l.inp N.ir, ⟨l1, f m1 N.mr, m2.mono fun _ _ z => z.st st⟩, ⟨l2, f s1 N.sr, s2.mono fun _ _ z => z.st st⟩, s.l.tk⟩, ⟨s.c.1, fun i a b e1 e2 => f (s.c.2 i a b e1 e2) fun z => N.rc a (List.mem_of_getElem? e1) z.symm⟩, hr, s.nd⟩
/-- how an activation ends -/
def PostF (K : PySem.W.Frag) (D : RD) (ins : List Int) (cas : List Addr) (ra : Addr) (H : Hp) (Q : VK) (E : XK) : Out × G → Prop
  | (.ret ws, g) => ∀ H' p, Stp (Chg D cas ra) H H' → Lite K H' D ins g → All2 (cellV H') cas g.cs → (∀ a o, ours o → H a = some o → ¬ Chg D cas ra a → a ≠ p) → H' p = some (.lst (ws.map V.int)) → Q (.ref p) H'
  | (.exc k q, g) => ∀ H' dd, Stp (Chg D cas ra) H H' → Lite K H' D ins g → All2 (cellV H') cas g.cs → H' dd = some (.xd [("place", .int q), ("number", .int k)]) → E (.ref (ga K "CodeRaised")) (some dd) H'
  | (.exh, g) => ∀ H', Stp (Chg D cas ra) H H' → Lite K H' D ins g → E (.ref (ga K "OutOfFuel")) none H'
  | (.fault, g) => ∀ H', Stp (Chg D cas ra) H H' → Lite K H' D ins g → E (.ref (ga K "CodeFault")) none H'
def spRF (K : PySem.W.Frag) (r : Nat) : Sp := fun vs H Q E => ∃ (d : Dat) (n : Nat) (o : Out × G), vs = [.ref d.D.run, .ref d.fa] ∧ Sit K H d ∧ 10 ≤ d.g.cs.length + r ∧ d.g.evs.length + 256 * d.g.fuel ≤ 100000 ∧ 256 * d.g.fuel < n ∧
  Wn.run d.e n d.u (d.i0 :: d.r) 0 d.g d.rs = some o ∧ PostF K d.D d.e.ins d.cas d.ra H Q E o
def spRFp (K : PySem.W.Frag) : Nat → Sp
  | 0 => fun _ _ _ _ => False
  | r + 1 => spRF K r
/-- a call, the row noted -/
def callX (d : Dat) (n u' h : Nat) (as : List Op) (ds : List Nat) (p i : Nat) : Option Nx :=
  if d.g.cs.length = 10 then some (.exc 2 p d.g d.rs) else match d.e.m[u']? with
    | none => none
    | some U' => (Wn.run d.e n u' (d.g.cs.length :: (d.i0 :: d.r).drop h) 0 (push d.g U'.cells) (as.map (Wn.val d.rs) ++ List.replicate (U'.regs - as.length) 0)).map (back i d.rs ds)
def spCall (K : PySem.W.Frag) (r : Nat) : Sp := fun vs H Q E => ∃ (d : Dat) (ia : Addr) (u' h : Nat) (as : List Op) (ds : List Nat) (p i n : Nat) (x : Nx), vs = [.ref d.D.run, .ref d.fa, .ref ia] ∧ Sit K H d ∧ insV H (.ref ia) (.call u' h as ds p) ∧ InsOk d.e.m d.u d.U i (.call u' h as ds p) ∧
  10 ≤ d.g.cs.length + r ∧ d.g.evs.length + 256 * d.g.fuel ≤ 100000 ∧ 256 * d.g.fuel < n ∧ callX d n u' h as ds p i = some x ∧ Post K d.D d.e.ins d.cas d.ra H (fun _ H' => Q .non H') E x
/-- the callee -/
def callee (d : Dat) (U' : Un) (u' h : Nat) (as : List Op) (fa fx ua ra ca : Addr) (par : V) : Dat :=
  { d with g := push d.g U'.cells, cas := d.cas ++ [ca], ra := ra, rs := as.map (Wn.val d.rs) ++ List.replicate (U'.regs - as.length) 0, fa := fa, fx := fx, ua := ua, ca := ca, par := par, u := u', i0 := d.i0 + 1, r := (d.i0 :: d.r).drop h, U := U' }
section
variable {P : Program} {w : World} {K : PySem.W.Frag} {mg : Str → Option Value} {base : Heap}
theorem ok_call (T : Txt w K mg) (r : Nat) (G_run_frame : Def P w K mg base (CX P w) (10 + 3 * r) "run_frame" ["run", "frame"] (spRFp K r)) : Def P w K mg base (CX P w) (10 + 3 * r + 1) "run_call" ["run", "frame", "instruction"] (spCall K r) := by
  have M_Frame_value := ok_value (P := P) (base := base) T
  have M_Frame_outer := ok_outer (P := P) (base := base) T
  have I_CodeRaised := ok_iniCR (P := P) (base := base) T
  have I_Frame := ok_iniFr (P := P) (base := base) T
  refine D_run_call T (k := 10 + 3 * r) (fun vs H Q E h => ?_) (fun cdv A outer s H vs Q E hr h => ?_)
  · obtain ⟨d, ia, u', h, as, ds, p, i, n, x, rfl, _⟩ := h
    rfl
  obtain ⟨d, ia, u', h, as, ds, p, i, n, x, rfl, S, hi, ok, h10, hev, hmu, hx, q⟩ := h
  refine ⟨_, (pss_cons (ps_if (pt_cmpR op_eq (pe_fld (pv 1) rfl) (pe_gi (gi_DEPTH_LIMIT T) rfl) (nomark _)) (pss_one (ps_raise rfl (takes_of rfl rfl rfl rfl) (pmk_raised T I_CodeRaised hr (by omega) rfl (pa_cons (pe_gi (gi_STORAGE T) rfl) (pa_cons (pe_ix ix_tup (pv 2) pe_int (fun _ _ => rfl)) pa_nil))))) pss_nil) (pss_cons (ps_setLc (te := tMeth (ga K "Frame") "value" (spVal K) [] E0 (tVar 1) (tCons (tVar 4) tNil)) (i := 3) (own := [("operand", 4)]) (g := gName 4) (tt := tYes) rfl sc_run_call.nd rfl rfl (sw_true rfl rfl rfl (by decide +kernel)) (pi_tup (pe_ix ix_tup (pv 2) pe_int (fun _ _ => rfl))) (blkOk_by (own := [("operand", 4)]) (N := ["run", "frame", "instruction", "values", "operand", "number", "callee", "at", "word", "results", "register_number"]) (sc := defScope st_run_call) (by decide +kernel)) (fun _ _ _ _ _ => pg_name (i := 4) sc_run_call.nd rfl (Or.inl rfl)) (fun _ _ _ _ _ => pts_nil) (fun _ _ _ _ _ => (pe_methD M_Frame_value (pv 1) (cl_Frame T) (me_Frame_value T) hr (by omega) pass0 (pa_cons (pv 4) pa_nil)))) (pss_cons (ps_set (i := 5) sc_run_call.nd rfl (Or.inl rfl) (pe_ix ix_tup (pv 2) pe_int (fun _ _ => rfl))) (pss_cons (ps_set (i := 6) sc_run_call.nd rfl (Or.inl rfl) (pe_makeD I_Frame (mk_Frame T) (g_Frame T) hr (by omega) rfl pass0 (pa_cons (pv 5) (pa_cons (pe_ix ix_tup (pe_fld (pe_fld (pv 0) rfl) rfl) (pv 5) (fun _ _ => rfl)) (pa_cons (pe_methD M_Frame_outer (pv 1) (cl_Frame T) (me_Frame_outer T) hr (by omega) pass0 (pa_cons (pe_ix ix_tup (pv 2) pe_int (fun _ _ => rfl)) pa_nil)) (pa_cons (pe_op op_add (pe_fld (pv 1) rfl) pe_int) pa_nil)))))) (pss_cons (ps_for (L2.passes_of rfl) rfl (pi_enum rfl (b_enumerate T) (pa_cons (pv 3) pa_nil)) (pg_tup rfl (pgs_cons (pg_name (i := 7) sc_run_call.nd rfl (Or.inl rfl)) (pgs_cons (pg_name (i := 8) sc_run_call.nd rfl (Or.inl rfl)) pgs_nil))) (pss_one (ps_asg (pv 8) (pg_sub (pe_fld (pv 6) rfl) (pv 7) set_list)))) (pss_cons (ps_set (i := 9) sc_run_call.nd rfl (Or.inl rfl) (pe_callD G_run_frame hr (by omega) rfl (passes_call (takes_of rfl rfl rfl rfl) fun _ _ _ _ h => h) (pa_cons (pv 0) (pa_cons (pv 6) pa_nil)))) (pss_one (ps_for (L2.passes_of rfl) rfl (pi_zipM rfl (b_zip T) (pa_cons (pe_ix ix_tup (pv 2) pe_int (fun _ _ => rfl)) (pa_cons (pv 9) pa_nil))) (pg_tup rfl (pgs_cons (pg_name (i := 10) sc_run_call.nd rfl (Or.inl rfl)) (pgs_cons (pg_name (i := 8) sc_run_call.nd rfl (Or.inl rfl)) pgs_nil))) (pss_one (ps_asg (pv 8) (pg_sub (pe_fld (pv 1) rfl) (pv 10) set_list))))))))))), ?_⟩
  obtain ⟨a, vs, e, ha, oa, oq, rfl, ⟨avs, hoa, h2⟩, hoq⟩ := hi
  cases e
  obtain ⟨⟨U', hU', hp0, han, hla, hld⟩, hax, hdsx, hp⟩ := ok
  refine ⟨_, rfl, d.fa, _, _, _, _, rfl, S.f, cl_Frame T, na_Frame_depth T, rfl, rfl, _, rfl, ?_⟩
  have top := S.top
  by_cases c10 : d.g.cs.length = 10
  · -- too deep
    have e10 : callX d n u' h as ds p i = some (.exc 2 p d.g d.rs) := if_pos c10
    rw [e10] at hx
    cases hx
    refine if_true_of (decide_eq_true (by rw [show ((d.i0 : Int) + 1) = 10 by omega])) ⟨_, rfl, ia, _, _, _, rfl, rfl, SqT.of ha, rfl, raised_at fun dd hd => ?_⟩
    exact q _ dd (Stp.new hd) (S.s.st (Stp.new hd)) upd_same
  refine if_false_of (decide_eq_false fun z => c10 (by have := V.int.inj z; omega)) ?_
  have eX : callX d n u' h as ds p i = (Wn.run d.e n u' (d.g.cs.length :: (d.i0 :: d.r).drop h) 0 (push d.g U'.cells) (as.map (Wn.val d.rs) ++ List.replicate (U'.regs - as.length) 0)).map (back i d.rs ds) := by
    unfold callX
    rw [if_neg c10, hU']
  rw [eX] at hx
  have UO' := S.E.m.un u' U' hU'
  have hr100 := UO'.regs
  have hc100 := UO'.cells
  have hna := UO'.na
  obtain ⟨o, hrun, rfl⟩ := Option.map_eq_some_iff.mp hx
  -- the values
  refine ⟨_, rfl, ia, _, _, _, rfl, rfl, SqT.of ha, rfl, oa, rfl, ⟨_, SqT.of hoa⟩, fun DL hDL => lc_vals S hoa h2 hax (by have := UO'.regs; omega) (i := 4) rfl (by show 4 < 11; decide) (by decide) hDL fun H1 t1 hl1 => ?_⟩
  have S1 := S.st t1
  obtain ⟨mx, mfs, mt, mn, mp, mus, mps, M⟩ := S1.mo
  obtain ⟨vU, hvU, hU2⟩ := M.un.get hU'
  obtain ⟨ua, ux, ufs, uc, urg, ucs, urs, rfl, un⟩ := hU2
  -- the callee's frame
  obtain ⟨j0, Uj, hj, hj2, hUj, hsj⟩ := Wn.ch_at S.ok.ch han
  have hlt := (List.getElem?_eq_some_iff.mp hj).1
  refine ⟨_, rfl, ia, _, _, _, rfl, rfl, SqT.of (t1.tup ha), rfl, ?_⟩
  refine ⟨_, rfl, _, rfl, _, _, _, _, _, rfl, S1.s.l.run, cl_CodeRun T, na_CodeRun_module T, rfl, _, _, _, _, _, rfl, M.at_, cl_Module T, na_Module_units T, M.units, _, rfl, mt, _, _, _, rfl, rfl, SqT.of M.unA, atI_nat hvU, ?_⟩
  refine ⟨_, rfl, _, _, _, rfl, S1.f, rfl, _, rfl, ia, _, _, _, rfl, rfl, SqT.of (t1.tup ha), rfl, d.cas, _, h, d.i0 :: d.r, rfl, S1.chv, hlt, S.hop hlt, fun v' hv' => ?_⟩
  refine ⟨_, rfl, _, _, _, _, _, rfl, S1.f, cl_Frame T, na_Frame_depth T, rfl, _, _, rfl, rfl, fun x dx hx0 hdx hne => ?_⟩
  have nx0 : upd H1 dx (.own x) x = none := by rw [upd_ne (Ne.symm hne)]; exact hx0
  have ta : Stp S0 H1 (upd (upd H1 dx (.own x)) x (.ins (ga K "Frame") dx [])) := (Stp.new hdx).trans (Stp.new nx0)
  refine ⟨x, dx, ua, ux, _, v', d.i0 + 1, U'.regs, U'.cells, ufs, rfl, upd_same, ta.at un.at_ fun z => z.elim, un.regs, un.cells, by omega, by omega, fun ra ca H3 nra nca nrc tb hfr hra hca => ⟨rfl, ?_⟩⟩
  have nx1 : New H1 x := New.of hx0
  have t3 : Stp S0 H1 H3 := (ta.z.trans tb).s0 fun a z => by rw [show a = x from z]; exact nx1
  have nra1 : New H1 ra := nra.back ta
  have nca1 : New H1 ca := nca.back ta
  -- the values go into its registers
  have lv : (as.map (Wn.val d.rs)).length = as.length := List.length_map _
  refine ⟨_, rfl, DL, _, rfl, SqL.of (t3.at hl1 fun z => z.elim), for_enum (xs := (as.map (Wn.val d.rs)).map V.int)
    (fun j σ H' => (∃ o7 o8, σ = [some (.ref d.D.run), some (.ref d.fa), some (.ref ia), some (.ref DL), none, some (.int u'), some (.ref x), o7, o8, none, none]) ∧ Stp (fun b => b = ra) H3 H' ∧
      H' ra = some (.lst (((as.map (Wn.val d.rs)).take j ++ (List.replicate U'.regs (0 : Int)).drop j).map V.int)))
    ⟨⟨none, none, rfl⟩, Stp.refl, by simpa using hra⟩ (fun j σ H' p => SqL.of (p.2.1.at (t3.at hl1 fun z => z.elim) fun z => absurd (show DL = ra from z) (nra1.ne hl1))) ?_ ?_⟩
  · rintro j v Tt σ H' hv ⟨⟨o7, o8, rfl⟩, st, hl⟩ hT
    have hj : j < as.length := by
      have q1 := (List.getElem?_eq_some_iff.mp hv).1
      rwa [List.length_map, lv] at q1
    obtain ⟨wv, hwv, rfl⟩ : ∃ wv, (as.map (Wn.val d.rs))[j]? = some wv ∧ v = .int wv := by
      rw [List.getElem?_map] at hv
      cases e : (as.map (Wn.val d.rs))[j]? with
      | none => rw [e] at hv; cases hv
      | some z => rw [e] at hv; exact ⟨z, rfl, (Option.some.inj hv).symm⟩
    have sT : Stp S0 H' (upd H' Tt (.tup [.int (j : Nat), .int wv])) := Stp.new hT
    have hfr2 := sT.at (st.at hfr fun _ => frz_fr) fun z => z.elim
    have hl2 := sT.at hl fun z => z.elim
    refine ⟨Tt, _, rfl, SqT.of upd_same, rfl, _, _, rfl, _, _, rfl, rfl, ?_⟩
    refine ⟨_, rfl, _, rfl, _, _, _, _, _, rfl, hfr2, cl_Frame T, na_Frame_registers T, rfl, _, rfl, ra, _, (j : Int), j, rfl, rfl, hl2, ixN_nat ?_, ⟨⟨_, _, rfl⟩, (st.trans sT.z).trans (Stp.put hl2 rfl nfrz_lst), ?_⟩⟩
    · rw [List.length_map, List.length_append, List.length_take, List.length_drop, lv, List.length_replicate]
      omega
    · rw [upd_same, map_set]
      obtain ⟨hj1, e1⟩ := List.getElem?_eq_some_iff.mp hwv
      have hj2 : j < (List.replicate U'.regs (0 : Int)).length := by rw [List.length_replicate]; omega
      have e2 : ((as.map (Wn.val d.rs)).take j ++ (List.replicate U'.regs (0 : Int)).drop j).set j wv = (as.map (Wn.val d.rs)).take (j + 1) ++ (List.replicate U'.regs (0 : Int)).drop (j + 1) := by
        rw [List.take_succ_eq_append_getElem hj1, e1, List.drop_eq_getElem_cons hj2, List.append_assoc]
        rw [List.set_append_right _ _ (by rw [List.length_take]; omega)]
        have e3 : j - ((as.map (Wn.val d.rs)).take j).length = 0 := by rw [List.length_take]; omega
        rw [e3]
        rfl
      rw [e2]
  rintro σ H4 ⟨⟨o7, o8, rfl⟩, st4, hl4⟩
  rw [List.length_map, List.take_length, lv, List.drop_replicate] at hl4
  have t34 : Stp S0 H1 H4 := (t3.z.trans st4).s0 fun a z => by rw [show a = ra from z]; exact nra1
  have t4 : Stp S0 H H4 := t1.trans t34
  have S4 := S.st t4
  have N := S.s.nds
  have nraH : New H ra := nra1.back t1
  have ncaH : New H ca := nca1.back t1
  have hca4 := st4.at hca fun z => absurd (show ca = ra from z) (Ne.symm nrc)
  -- the callee's run
  obtain ⟨r, rfl⟩ : ∃ r', r = r' + 1 := ⟨r - 1, by have := S.ok.dp; omega⟩
  obtain ⟨md0, hmd, _⟩ := S.s.l.md
  obtain ⟨sn0, hsn, _⟩ := S.s.l.sn
  have cne : ∀ c ∈ d.cas, ∃ xs, H c = some (.lst xs) := fun c hc => by
    obtain ⟨i, e⟩ := List.getElem?_of_mem hc
    obtain ⟨l, h1, h2⟩ := S.s.c.get' e
    exact ⟨_, h2⟩
  have stA : StA K H4 d.D d.e.ins (push d.g U'.cells) (d.cas ++ [ca]) ra (as.map (Wn.val d.rs) ++ List.replicate (U'.regs - as.length) 0) := by
    refine ⟨⟨S4.s.l.run, S4.s.l.ev, S4.s.l.fu, S4.s.l.inp, S4.s.l.md, S4.s.l.sn, S4.s.l.tk⟩, S4.s.c.snoc hca4, hl4, ?_⟩
    have nd := S.s.nd
    simp only [List.nodup_cons, List.mem_cons, not_or] at nd ⊢
    obtain ⟨⟨n1, n2, n3, n4⟩, ⟨n5, n6, n7⟩, ⟨n8, n9⟩, n10, n11⟩ := nd
    have mm : ∀ {b : Addr}, b ∉ d.cas → b ≠ ca → b ∉ d.cas ++ [ca] := fun h1 h2 h3 => by
      rcases List.mem_append.mp h3 with z | z
      · exact h1 z
      · exact h2 (List.mem_singleton.mp z)
    refine ⟨⟨n1, n2, nraH.ne hmd, mm n4 (ncaH.ne hmd)⟩, ⟨n5, nraH.ne hsn, mm n7 (ncaH.ne hsn)⟩, ⟨nraH.ne S.s.l.inp, mm n9 (ncaH.ne S.s.l.inp)⟩, mm (fun z => ?_) nrc, ?_⟩
    · obtain ⟨xs, e⟩ := cne ra z
      exact absurd rfl (nraH.ne e)
    · refine List.nodup_append.mpr ⟨n11, by simp, fun a h1 b h2 => ?_⟩
      rw [List.mem_singleton.mp h2]
      obtain ⟨xs, e⟩ := cne a h1
      exact ncaH.ne e
  have C := Wn.callee_ok S.E S.ok c10 hU' hp0 han hla hax
  rw [top] at C hrun
  have hchl : ((d.i0 :: d.r).drop h).length ≤ d.i0 + 1 := by
    rw [List.length_drop, List.length_cons]
    have := S.chl
    omega
  have SC : Sit K H4 (callee d U' u' h as x dx ua ra ca v') := by
    refine ⟨stA, st4.at hfr fun _ => frz_fr, ?_, (hv'.st t34).more _, C, hU', ⟨ux, ufs, uc, urg, ucs, urs, un.st t34⟩, S4.mo, S.E, ?_, S.lim, hchl⟩
    · show (d.cas ++ [ca])[d.i0 + 1]? = some ca
      have : d.cas.length = d.i0 + 1 := by rw [S.s.c.1]; exact top
      rw [List.getElem?_append_right (by omega), this]
      simp
    · show (d.g.cs ++ [_]).length = d.i0 + 1 + 1
      rw [List.length_append, List.length_singleton, top]
  refine ⟨_, rfl, _, rfl, callee d U' u' h as x dx ua ra ca v', n, o, rfl, SC, ?_, hev, hmu, hrun, ?_⟩
  · show 10 ≤ (d.g.cs ++ [_]).length + r
    rw [List.length_append, List.length_singleton]
    omega
  -- what stays over the callee
  have cross : ∀ {H5 : Hp}, Stp (Chg d.D (d.cas ++ [ca]) ra) H4 H5 → Stp (Chg d.D d.cas d.ra) H H5 ∧ H5 d.ra = some (.lst (d.rs.map V.int)) := fun {H5} st => by
    refine ⟨(t4.z.trans st).less fun a o w z e => ?_, st.at S4.s.r fun z => ?_⟩
    · rcases z with z | z | z | z | z | z
      · exact .inl z
      · exact .inr (.inl z)
      · exact .inr (.inr (.inl z))
      · exact .inr (.inr (.inr (.inl z)))
      · exact absurd e (by rw [z]; exact nraH o w)
      · rcases List.mem_append.mp z with y | y
        · exact .inr (.inr (.inr (.inr (.inr y))))
        · exact absurd e (by rw [List.mem_singleton.mp y]; exact ncaH o w)
    · obtain ⟨k1, k2, k3⟩ := S.s.l.insNe S.s.r
      rcases z with z | z | z | z | z | z
      · exact absurd z.symm k2
      · exact absurd z.symm k3
      · exact absurd z.symm N.mr
      · exact absurd z.symm N.sr
      · exact absurd z (nraH.ne S.s.r)
      · rcases List.mem_append.mp z with y | y
        · exact absurd rfl (N.rc _ y)
        · exact absurd (List.mem_singleton.mp y) (ncaH.ne S.s.r)
  have popc : ∀ {H5 : Hp} {g' : G}, All2 (cellV H5) (d.cas ++ [ca]) g'.cs → All2 (cellV H5) d.cas (pop g').cs := fun {H5 g'} h => by
    have := h.dropLast
    rw [List.dropLast_concat] at this
    exact this
  have mst := Wn.mu_start UO' d.g.fuel
  obtain ⟨o2, hrun2, OO⟩ := Wn.run_ok S.E n u' 0 _ _ _ U' C hU' (List.getElem?_eq_some_iff.mp UO'.tick).1 (by show mu U' d.g.fuel 0 < n; rw [mst]; exact hmu)
  rw [hrun] at hrun2
  cases hrun2
  obtain ⟨o, g'⟩ := o
  cases o with
  | exc k pl =>
    intro H5 dd st lt cl hdd
    obtain ⟨st', hr5⟩ := cross st
    exact q H5 dd st' ⟨⟨lt.run, lt.ev, lt.fu, lt.inp, lt.md, lt.sn, lt.tk⟩, popc cl, hr5, S.s.nd⟩ hdd
  | exh =>
    intro H5 st lt
    exact q H5 (cross st).1 lt
  | fault =>
    intro H5 st lt
    exact q H5 (cross st).1 lt
  | ret ws =>
    intro H5 pr st lt cl np hpr
    obtain ⟨st', hr5⟩ := cross st
    have sA5 : StA K H5 d.D d.e.ins (pop g') d.cas d.ra d.rs := ⟨⟨lt.run, lt.ev, lt.fu, lt.inp, lt.md, lt.sn, lt.tk⟩, popc cl, hr5, S.s.nd⟩
    have hlen : ds.length = ws.length := by rw [hld]; exact OO.1.symm
    have nrp : d.ra ≠ pr := np d.ra (.lst (d.rs.map V.int)) True.intro S4.s.r fun z => by
      obtain ⟨k1, k2, k3⟩ := S.s.l.insNe S.s.r
      rcases z with z | z | z | z | z | z
      · exact absurd z.symm k2
      · exact absurd z.symm k3
      · exact absurd z.symm N.mr
      · exact absurd z.symm N.sr
      · exact absurd z (nraH.ne S.s.r)
      · rcases List.mem_append.mp z with y | y
        · exact absurd rfl (N.rc _ y)
        · exact absurd (List.mem_singleton.mp y) (ncaH.ne S.s.r)
    refine ⟨_, rfl, ia, _, _, _, rfl, rfl, SqT.of (st'.tup ha), rfl, _, rfl, oq, pr, _, _, rfl, SqT.of (st'.tup hoq), SqL.of hpr, for_zipM (xs := ns ds) (ys := ws.map V.int) (by rw [List.length_map]; unfold ns; rw [List.length_map]; exact hlen)
      (fun j σ H' => (∃ o8 o10, σ = [some (.ref d.D.run), some (.ref d.fa), some (.ref ia), some (.ref DL), none, some (.int u'), some (.ref x), o7, o8, some (.ref pr), o10]) ∧ Stp (fun b => b = d.ra) H5 H' ∧
        H' d.ra = some (.lst ((setAll d.rs (ds.take j) (ws.take j)).map V.int)))
      ⟨⟨o8, none, rfl⟩, Stp.refl, by rw [List.take_zero, List.take_zero, setAll_nil]; exact hr5⟩ (fun j σ H' pv => ⟨SqT.of (pv.2.1.tup (st'.tup hoq)), SqL.of (pv.2.1.at hpr fun z => absurd (show pr = d.ra from z) (Ne.symm nrp))⟩) ?_ ?_⟩
    · rintro j xv yv Tt σ H' hxv hyv ⟨⟨o8', o10, rfl⟩, st6, hl6⟩ hT
      obtain ⟨dv, hdv, rfl⟩ : ∃ dv, ds[j]? = some dv ∧ xv = .int (dv : Nat) := by
        unfold ns at hxv
        rw [List.getElem?_map] at hxv
        cases e : ds[j]? with
        | none => rw [e] at hxv; cases hxv
        | some z => rw [e] at hxv; exact ⟨z, rfl, (Option.some.inj hxv).symm⟩
      obtain ⟨wv, hwv, rfl⟩ : ∃ wv, ws[j]? = some wv ∧ yv = .int wv := by
        rw [List.getElem?_map] at hyv
        cases e : ws[j]? with
        | none => rw [e] at hyv; cases hyv
        | some z => rw [e] at hyv; exact ⟨z, rfl, (Option.some.inj hyv).symm⟩
      have sT : Stp S0 H' (upd H' Tt (.tup [.int (dv : Nat), .int wv])) := Stp.new hT
      have hf6 := sT.at (st6.at (st'.at S.f fun _ => frz_fr) fun _ => frz_fr) fun z => z.elim
      have hl7 := sT.at hl6 fun z => z.elim
      refine ⟨Tt, _, rfl, SqT.of upd_same, rfl, _, _, rfl, _, _, rfl, rfl, ?_⟩
      refine ⟨_, rfl, _, rfl, _, _, _, _, _, rfl, hf6, cl_Frame T, na_Frame_registers T, rfl, _, rfl, d.ra, _, (dv : Int), dv, rfl, rfl, hl7, ixN_nat ?_, ⟨⟨_, _, rfl⟩, (st6.trans sT.z).trans (Stp.put hl7 rfl nfrz_lst), ?_⟩⟩
      · rw [List.length_map, Wn.setAll_len, S.len]
        exact hdsx dv (List.mem_of_getElem? hdv)
      · rw [upd_same, map_set, setAll_snoc _ _ _ _ _ _ hdv hwv]
    · rintro σ H6 ⟨⟨o8', o10, rfl⟩, st6, hl6⟩
      have ln : (ns ds).length = ds.length := List.length_map _
      rw [ln, List.take_length, hlen, List.take_length] at hl6
      exact q H6 (st'.trans (st6.mono fun a z => .inr (.inr (.inr (.inr (.inl z)))))) (sA5.regs st6 hl6)
end
end WX
/-! ## WP8 -/
set_option Elab.async false
set_option linter.all false
set_option maxRecDepth 100000
set_option maxHeartbeats 2000000
/-! One instruction. -/
namespace WX
open PySem PySem.Spec PyProof.Rows L2 He
open Wn (Op Ar Ins Rg Un Mod G Out Nx Word wordB exact val StOk EnvOk InsOk OpOk step1 ModOk UnOk comp mu setAll push pop back)
def stepX (d : Dat) (n i : Nat) : Ins → Option Nx
  | .call u' h as ds p => callX d n u' h as ds p i
  | ins => some (step1 d.e (d.i0 :: d.r) i d.g d.rs ins)
def spStep (K : PySem.W.Frag) (r : Nat) : Sp := fun vs H Q E => ∃ (d : Dat) (ia : Addr) (ins : Ins) (i n : Nat) (x : Nx), vs = [.ref d.D.run, .ref d.fa, .ref ia, .int i] ∧ Sit K H d ∧ insV H (.ref ia) ins ∧ InsOk d.e.m d.u d.U i ins ∧ (∀ vs, ins ≠ .ret vs) ∧
  10 ≤ d.g.cs.length + r ∧ d.g.evs.length + 256 * d.g.fuel ≤ 100000 ∧ (∀ a b c e f, ins = .call a b c e f → 256 * d.g.fuel < n) ∧ stepX d n i ins = some x ∧ Post K d.D d.e.ins d.cas d.ra H (fun i' H' => Q (.int (i' : Nat)) H') E x
theorem Post.nxt {K : PySem.W.Frag} {D : RD} {ins : List Int} {cas : List Addr} {ra : Addr} {H : Hp} {E : XK} {x : Nx} {R : Nat → Hp → Prop} {R' : Hp → Prop} {i : Nat} (hx : ∀ i' g rs, x = .go i' g rs → i' = i + 1) (hR : ∀ H', R (i + 1) H' → R' H')
    (p : Post K D ins cas ra H R E x) : Post K D ins cas ra H (fun _ H' => R' H') E x := by
  cases x with
  | go i' g rs =>
    have e := hx i' g rs rfl
    subst e
    exact fun H' a b => hR H' (p H' a b)
  | exc k q g rs => exact p
  | exh g rs => exact p
  | fault g rs => exact p
def noJump : Ins → Prop
  | .jump _ => False
  | .branch _ _ => False
  | _ => True
theorem step1_idx {e : Wn.Env} {ch : List Nat} {i : Nat} {g : G} {rs : List Int} {ins : Ins} (hn : noJump ins) {i' : Nat} {g' : G} {rs' : List Int} (h : step1 e ch i g rs ins = .go i' g' rs') : i' = i + 1 := by
  have cmp : ∀ o : Option (Nat × Option Int × Nat), (match o with
      | some (d, some w, p) => if wordB w = true then Nx.go (i + 1) g (rs.set d w) else .exc 0 p g rs
      | some (_, none, p) => .exc 0 p g rs
      | none => .fault g rs) = .go i' g' rs' → i' = i + 1 := by
    intro o h
    rcases o with _ | ⟨d, _ | w, p⟩
    · cases h
    · cases h
    · dsimp only at h
      split at h
      · cases h; rfl
      · cases h
  cases ins with
  | jump t => exact hn.elim
  | branch x t => exact hn.elim
  | tick =>
    simp only [step1] at h
    split at h <;> cases h
    rfl
  | put x => cases h; rfl
  | raise k p => cases h
  | again x y =>
    simp only [step1] at h
    split at h <;> cases h
  | get d p =>
    simp only [step1] at h
    split at h <;> cases h
    rfl
  | check x lo hi p =>
    simp only [step1] at h
    split at h <;> cases h
    rfl
  | load d h' c n x =>
    simp only [step1] at h
    split at h <;> cases h
    rfl
  | store h' c n x y =>
    simp only [step1] at h
    split at h <;> cases h
    rfl
  | call a b c d f => exact cmp (comp rs (.call a b c d f)) h
  | ret vs => exact cmp (comp rs (.ret vs)) h
  | move d x => exact cmp (comp rs (.move d x)) h
  | neg d x p => exact cmp (comp rs (.neg d x p)) h
  | abs d x p => exact cmp (comp rs (.abs d x p)) h
  | less d x y => exact cmp (comp rs (.less d x y)) h
  | equal d x y => exact cmp (comp rs (.equal d x y)) h
  | ar a d x y p => exact cmp (comp rs (.ar a d x y p)) h
theorem callX_idx {d : Dat} {n u' h : Nat} {as : List Op} {ds : List Nat} {p i : Nat} {x : Nx} (hx : callX d n u' h as ds p i = some x) {i' : Nat} {g' : G} {rs' : List Int} (e : x = .go i' g' rs') : i' = i + 1 := by
  unfold callX at hx
  split at hx
  · cases hx; cases e
  · split at hx
    · cases hx
    · obtain ⟨o, _, h2⟩ := Option.map_eq_some_iff.mp hx
      rw [← h2] at e
      obtain ⟨o, g⟩ := o
      cases o <;> cases e
      rfl
section
variable {P : Program} {w : World} {K : PySem.W.Frag} {mg : Str → Option Value} {base : Heap}
theorem heldOf {CX : CXT} {j k : Nat} {x : Str} {ps : List Str} {sp : Sp} {a : Addr} (D : Def P w K mg base CX j x ps sp) (hk : j ≤ k) (hg : mg x = some (.ref a)) : HeldX P w K mg base CX k a sp := by
  obtain ⟨f, fd, h1, h2, h3, F⟩ := D.ex
  rw [hg] at h1
  cases h1
  exact ⟨⟨fd, ps, F.mono hk, h2, h3⟩⟩
theorem kdC (T : Txt w K mg) {z f : Str} (h : (z, Dv.glo f) ∈ valsC) : ∃ u, PySem.W.nsIn K (ga K "ACTIONS") z = some (some u) ∧ KDct K w (ga K "ACTIONS") z (.ref (ga K f)) := by
  obtain ⟨es, n, D⟩ := T.c.tab 1
  obtain ⟨u, h1, h2⟩ := valsB_ok T.vb h
  exact ⟨u, h1, es, n, u, D.at_, D.lit, h1, h2⟩
/-- the six actions -/
def Acts (K : PySem.W.Frag) (r : Nat) (f : Addr) (sp : Sp) : Prop :=
  (f = ga K "run_check" ∧ sp = spAct K isCheck) ∨ (f = ga K "run_load" ∧ sp = spAct K isLoad) ∨ (f = ga K "run_store" ∧ sp = spAct K isStore) ∨ (f = ga K "run_again" ∧ sp = spAct K isAgain) ∨ (f = ga K "run_get" ∧ sp = spAct K isGet) ∨ (f = ga K "run_call" ∧ sp = spCall K r)
theorem acts_held (T : Txt w K mg) (r : Nat) (G_run_call : Def P w K mg base (CX P w) (10 + 3 * r + 1) "run_call" ["run", "frame", "instruction"] (spCall K r)) : ∀ f sp, Acts K r f sp → HeldX P w K mg base (CX P w) (10 + 3 * r + 1) f sp := by
  rintro f sp (⟨rfl, rfl⟩ | ⟨rfl, rfl⟩ | ⟨rfl, rfl⟩ | ⟨rfl, rfl⟩ | ⟨rfl, rfl⟩ | ⟨rfl, rfl⟩)
  · exact heldOf (ok_check T) (by omega) (g_run_check T)
  · exact heldOf (ok_load T) (by omega) (g_run_load T)
  · exact heldOf (ok_store T) (by omega) (g_run_store T)
  · exact heldOf (ok_again T) (by omega) (g_run_again T)
  · exact heldOf (ok_rget T) (by omega) (g_run_get T)
  · exact heldOf G_run_call (Nat.le_refl _) (g_run_call T)
theorem ok_step (T : Txt w K mg) (r : Nat) (G_run_call : Def P w K mg base (CX P w) (10 + 3 * r + 1) "run_call" ["run", "frame", "instruction"] (spCall K r)) : Def P w K mg base (CX P w) (10 + 3 * r + 1 + 1) "step" ["run", "frame", "instruction", "index"] (spStep K r) := by
  have M_Frame_value := ok_value (P := P) (base := base) T
  have M_Fuel_tick := ok_tick (P := P) (base := base) T
  have M_Events_put := ok_put (P := P) (base := base) T
  have I_CodeRaised := ok_iniCR (P := P) (base := base) T
  have G_compute := ok_compute (P := P) (base := base) T
  have AH := acts_held T r G_run_call
  obtain ⟨es, en, kdB⟩ := T.c.tab 1
  refine D_step T (k := 10 + 3 * r + 1) (fun vs H Q E h => ?_) (fun cdv A outer s H vs Q E hr h => ?_)
  · obtain ⟨d, ia, ins, i, n, x, rfl, _⟩ := h
    rfl
  obtain ⟨d, ia, ins, i, n, x, rfl, S, hi, ok, hret, h10, hev, hmu, hx, q⟩ := h
  refine ⟨_, (pss_cons (ps_set (i := 4) sc_step.nd rfl (Or.inl rfl) (pe_ix ix_tup (pv 2) pe_int (fun _ _ => rfl))) (pss_cons (ps_if (pt_cmpR op_eq (pv 4) pe_str (nomark _)) (pss_one (ps_expr (pe_methD0 M_Fuel_tick (pe_fld (pv 0) rfl) (cl_Fuel T) (me_Fuel_tick T) hr (by omega) (passes_call (takes_of rfl rfl rfl rfl) fun _ _ _ _ h => h)))) (pss_one (ps_if (pt_cmpR op_eq (pv 4) pe_str (nomark _)) (pss_one (ps_expr (pe_methD M_Events_put (pe_fld (pv 0) rfl) (cl_Events T) (me_Events_put T) hr (by omega) pass0 (pa_cons (pe_methD M_Frame_value (pv 1) (cl_Frame T) (me_Frame_value T) hr (by omega) pass0 (pa_cons (pe_ix ix_tup (pv 2) pe_int (fun _ _ => rfl)) pa_nil)) pa_nil)))) (pss_one (ps_if (pt_cmpR op_eq (pv 4) pe_str (nomark _)) (pss_one (ps_ret (pe_ix ix_tup (pv 2) pe_int (fun _ _ => rfl)))) (pss_one (ps_if (pt_cmpR op_eq (pv 4) pe_str (nomark _)) (pss_one (ps_if (pt_cmpR op_ne (pe_methD M_Frame_value (pv 1) (cl_Frame T) (me_Frame_value T) hr (by omega) pass0 (pa_cons (pe_ix ix_tup (pv 2) pe_int (fun _ _ => rfl)) pa_nil)) pe_int (nomark _)) (pss_one (ps_ret (pe_ix ix_tup (pv 2) pe_int (fun _ _ => rfl)))) pss_nil)) (pss_one (ps_if (pt_cmpR op_eq (pv 4) pe_str (nomark _)) (pss_one (ps_raise rfl (takes_of rfl rfl rfl rfl) (pmk_raised T I_CodeRaised hr (by omega) rfl (pa_cons (pe_ix ix_tup (pv 2) pe_int (fun _ _ => rfl)) (pa_cons (pe_ix ix_tup (pv 2) pe_int (fun _ _ => rfl)) pa_nil))))) (pss_one (ps_if (pt_cmpR (op_in_kd kdB) (pv 4) (pe_glob (v := .ref (ga K "ACTIONS")) rfl (g_ACTIONS T) rfl) (by rfl)) (pss_cons (ps_set (i := 5) sc_step.nd rfl (Or.inl rfl) (pe_ix ix_kdict (pe_glob (v := .ref (ga K "ACTIONS")) rfl (g_ACTIONS T) rfl) (pv 4) (fun _ _ => rfl))) (pss_one (ps_expr (pe_callAX (i := 5) (S := Acts K r) AH hr rfl (.inl rfl) (passes_call (takes_of rfl rfl rfl rfl) fun _ _ _ _ h => h) (pa_cons (pv 0) (pa_cons (pv 1) (pa_cons (pv 2) pa_nil))))))) (pss_one (ps_expr (pe_callD G_compute hr (by omega) rfl (passes_call (takes_of rfl rfl rfl rfl) fun _ _ _ _ h => h) (pa_cons (pv 1) (pa_cons (pv 2) pa_nil)))))))))))))))) (pss_one (ps_ret (pe_op op_add (pv 3) pe_int))))), ?_⟩
  have big : bigE d.g := Nat.lt_of_le_of_lt (Nat.le_trans (Nat.le_add_right _ _) hev) (by decide : 100000 < sizeLine)
  have hi' := hi
  cases ins with
  | ret vs => exact absurd rfl (hret vs)
  | tick =>
    obtain ⟨a, vs, e, ha, rfl⟩ := hi'
    cases e
    cases hx
    simp only [step1] at q
    refine ⟨_, rfl, ia, _, _, _, rfl, rfl, SqT.of ha, rfl, _, rfl, rfl, _, rfl, if_true_of (by show decide (V.str ("tick" : Str) = V.str "tick") = true; decide) ⟨_, rfl, _, _, _, _, _, rfl, S.s.l.run, cl_CodeRun T, na_CodeRun_fuel T, rfl, _, _, _, rfl, S.s.l.fu, rfl, d.D, d.e.ins, d.g, d.cas, d.ra, d.rs, rfl, S.s, fun h0 => ?_, fun h1 H' st sA => ?_⟩⟩
    · rw [if_pos h0] at q
      exact q H Stp.refl S.s.l
    · rw [if_neg h1] at q
      exact ⟨_, rfl, _, _, rfl, rfl, q H' st sA⟩
  | put x =>
    obtain ⟨a, vs, e, ha, o, rfl, ho⟩ := hi'
    cases e
    cases hx
    have hx : OpOk d.U.regs x := ok
    exact ⟨_, rfl, ia, _, _, _, rfl, rfl, SqT.of ha, rfl, _, rfl, rfl, _, rfl, if_false_of (by show decide (V.str ("put" : Str) = V.str "tick") = false; decide) ⟨_, rfl, rfl, _, rfl, if_true_of (by show decide (V.str ("put" : Str) = V.str "put") = true; decide) ⟨_, rfl, _, _, _, _, _, rfl, S.s.l.run, cl_CodeRun T, na_CodeRun_events T, rfl, _, _, _, rfl, S.s.l.ev, rfl, _, rfl, _, _, _, rfl, S.f, rfl, _, rfl, ia, _, _, _, rfl, rfl, SqT.of ha, rfl, d.fa, d.fx, d.ra, _, _, _, d.rs, rfl, S.f, rfl, S.s.r, ho, S.op hx, d.D, d.e.ins, d.g, d.cas, d.ra, d.rs, _, rfl, S.s, big, fun H' st sA => ⟨_, rfl, _, _, rfl, rfl, q H' st sA⟩⟩⟩⟩
  | jump t =>
    obtain ⟨a, vs, e, ha, rfl⟩ := hi'
    cases e
    cases hx
    exact ⟨_, rfl, ia, _, _, _, rfl, rfl, SqT.of ha, rfl, _, rfl, rfl, _, rfl, if_false_of (by show decide (V.str ("jump" : Str) = V.str "tick") = false; decide) ⟨_, rfl, rfl, _, rfl, if_false_of (by show decide (V.str ("jump" : Str) = V.str "put") = false; decide) ⟨_, rfl, rfl, _, rfl, if_true_of (by show decide (V.str ("jump" : Str) = V.str "jump") = true; decide) ⟨_, rfl, ia, _, _, _, rfl, rfl, SqT.of ha, rfl, q H Stp.refl S.s⟩⟩⟩⟩
  | branch x t =>
    obtain ⟨a, vs, e, ha, o, rfl, ho⟩ := hi'
    cases e
    cases hx
    have hx : OpOk d.U.regs x := ok.1
    refine ⟨_, rfl, ia, _, _, _, rfl, rfl, SqT.of ha, rfl, _, rfl, rfl, _, rfl, if_false_of (by show decide (V.str ("branch" : Str) = V.str "tick") = false; decide) ⟨_, rfl, rfl, _, rfl, if_false_of (by show decide (V.str ("branch" : Str) = V.str "put") = false; decide) ⟨_, rfl, rfl, _, rfl, if_false_of (by show decide (V.str ("branch" : Str) = V.str "jump") = false; decide) ⟨_, rfl, rfl, _, rfl, if_true_of (by show decide (V.str ("branch" : Str) = V.str "branch") = true; decide) ⟨_, rfl, _, _, _, rfl, S.f, rfl, _, rfl, ia, _, _, _, rfl, rfl, SqT.of ha, rfl, d.fa, d.fx, d.ra, _, _, _, d.rs, rfl, S.f, rfl, S.s.r, ho, S.op hx, rfl, _, rfl, ?_⟩⟩⟩⟩⟩
    by_cases c : Wn.val d.rs x = 0
    · refine if_false_of (by rw [c]; decide) ⟨_, rfl, _, _, rfl, rfl, ?_⟩
      simp only [step1, c] at q
      exact q H Stp.refl S.s
    · refine if_true_of (by rw [decide_eq_false (fun z => c (V.int.inj z))]; rfl) ⟨_, rfl, ia, _, _, _, rfl, rfl, SqT.of ha, rfl, ?_⟩
      have e2 : step1 d.e (d.i0 :: d.r) i d.g d.rs (.branch x t) = .go t d.g d.rs := by simp [step1, c]
      rw [e2] at q
      exact q H Stp.refl S.s
  | raise k p =>
    obtain ⟨a, vs, e, ha, rfl⟩ := hi'
    cases e
    cases hx
    exact ⟨_, rfl, ia, _, _, _, rfl, rfl, SqT.of ha, rfl, _, rfl, rfl, _, rfl, if_false_of (by show decide (V.str ("raise" : Str) = V.str "tick") = false; decide) ⟨_, rfl, rfl, _, rfl, if_false_of (by show decide (V.str ("raise" : Str) = V.str "put") = false; decide) ⟨_, rfl, rfl, _, rfl, if_false_of (by show decide (V.str ("raise" : Str) = V.str "jump") = false; decide) ⟨_, rfl, rfl, _, rfl, if_false_of (by show decide (V.str ("raise" : Str) = V.str "branch") = false; decide) ⟨_, rfl, rfl, _, rfl, if_true_of (by show decide (V.str ("raise" : Str) = V.str "raise") = true; decide) ⟨_, rfl, ia, _, _, _, rfl, rfl, SqT.of ha, rfl, _, rfl, ia, _, _, _, rfl, rfl, SqT.of ha, rfl, raised_at fun dd hd => q _ dd (Stp.new hd) (S.s.st (Stp.new hd)) upd_same⟩⟩⟩⟩⟩⟩
  | check x lo hi2 p =>
    obtain ⟨a, vs, e, ha, o, rfl, ho⟩ := hi'
    cases e
    cases hx
    obtain ⟨u, h1, h2⟩ := kdC T (z := "check") (f := "run_check") (.head _)
    exact ⟨_, rfl, ia, _, _, _, rfl, rfl, SqT.of ha, rfl, _, rfl, rfl, _, rfl, if_false_of (by show decide (V.str ("check" : Str) = V.str "tick") = false; decide) ⟨_, rfl, rfl, _, rfl, if_false_of (by show decide (V.str ("check" : Str) = V.str "put") = false; decide) ⟨_, rfl, rfl, _, rfl, if_false_of (by show decide (V.str ("check" : Str) = V.str "jump") = false; decide) ⟨_, rfl, rfl, _, rfl, if_false_of (by show decide (V.str ("check" : Str) = V.str "branch") = false; decide) ⟨_, rfl, rfl, _, rfl, if_false_of (by show decide (V.str ("check" : Str) = V.str "raise") = false; decide) ⟨_, rfl, _, _, rfl, rfl, h1, _, rfl, if_true_of rfl ⟨_, rfl, _, _, _, rfl, rfl, h2, _, _, rfl, .inl ⟨rfl, rfl⟩, _, rfl, _, rfl, _, rfl, d, ia, _, i, rfl, S, hi, ok, trivial, big, Post.nxt (fun i2 g rs e => step1_idx (ins := .check x lo hi2 p) trivial e) (fun H2 hq => ⟨_, rfl, _, _, rfl, rfl, hq⟩) q⟩⟩⟩⟩⟩⟩⟩
  | load dd hh c nn x =>
    obtain ⟨a, vs, e, ha, o, rfl, ho⟩ := hi'
    cases e
    cases hx
    obtain ⟨u, h1, h2⟩ := kdC T (z := "load") (f := "run_load") (.tail _ (.head _))
    exact ⟨_, rfl, ia, _, _, _, rfl, rfl, SqT.of ha, rfl, _, rfl, rfl, _, rfl, if_false_of (by show decide (V.str ("load" : Str) = V.str "tick") = false; decide) ⟨_, rfl, rfl, _, rfl, if_false_of (by show decide (V.str ("load" : Str) = V.str "put") = false; decide) ⟨_, rfl, rfl, _, rfl, if_false_of (by show decide (V.str ("load" : Str) = V.str "jump") = false; decide) ⟨_, rfl, rfl, _, rfl, if_false_of (by show decide (V.str ("load" : Str) = V.str "branch") = false; decide) ⟨_, rfl, rfl, _, rfl, if_false_of (by show decide (V.str ("load" : Str) = V.str "raise") = false; decide) ⟨_, rfl, _, _, rfl, rfl, h1, _, rfl, if_true_of rfl ⟨_, rfl, _, _, _, rfl, rfl, h2, _, _, rfl, .inr (.inl ⟨rfl, rfl⟩), _, rfl, _, rfl, _, rfl, d, ia, _, i, rfl, S, hi, ok, trivial, big, Post.nxt (fun i2 g rs e => step1_idx (ins := .load dd hh c nn x) trivial e) (fun H2 hq => ⟨_, rfl, _, _, rfl, rfl, hq⟩) q⟩⟩⟩⟩⟩⟩⟩
  | store hh c nn x y =>
    obtain ⟨a, vs, e, ha, o, o2, rfl, ho, ho2⟩ := hi'
    cases e
    cases hx
    obtain ⟨u, h1, h2⟩ := kdC T (z := "store") (f := "run_store") (.tail _ (.tail _ (.head _)))
    exact ⟨_, rfl, ia, _, _, _, rfl, rfl, SqT.of ha, rfl, _, rfl, rfl, _, rfl, if_false_of (by show decide (V.str ("store" : Str) = V.str "tick") = false; decide) ⟨_, rfl, rfl, _, rfl, if_false_of (by show decide (V.str ("store" : Str) = V.str "put") = false; decide) ⟨_, rfl, rfl, _, rfl, if_false_of (by show decide (V.str ("store" : Str) = V.str "jump") = false; decide) ⟨_, rfl, rfl, _, rfl, if_false_of (by show decide (V.str ("store" : Str) = V.str "branch") = false; decide) ⟨_, rfl, rfl, _, rfl, if_false_of (by show decide (V.str ("store" : Str) = V.str "raise") = false; decide) ⟨_, rfl, _, _, rfl, rfl, h1, _, rfl, if_true_of rfl ⟨_, rfl, _, _, _, rfl, rfl, h2, _, _, rfl, .inr (.inr (.inl ⟨rfl, rfl⟩)), _, rfl, _, rfl, _, rfl, d, ia, _, i, rfl, S, hi, ok, trivial, big, Post.nxt (fun i2 g rs e => step1_idx (ins := .store hh c nn x y) trivial e) (fun H2 hq => ⟨_, rfl, _, _, rfl, rfl, hq⟩) q⟩⟩⟩⟩⟩⟩⟩
  | again x y =>
    obtain ⟨a, vs, e, ha, o, o2, rfl, ho, ho2⟩ := hi'
    cases e
    cases hx
    obtain ⟨u, h1, h2⟩ := kdC T (z := "again") (f := "run_again") (.tail _ (.tail _ (.tail _ (.tail _ (.head _)))))
    exact ⟨_, rfl, ia, _, _, _, rfl, rfl, SqT.of ha, rfl, _, rfl, rfl, _, rfl, if_false_of (by show decide (V.str ("again" : Str) = V.str "tick") = false; decide) ⟨_, rfl, rfl, _, rfl, if_false_of (by show decide (V.str ("again" : Str) = V.str "put") = false; decide) ⟨_, rfl, rfl, _, rfl, if_false_of (by show decide (V.str ("again" : Str) = V.str "jump") = false; decide) ⟨_, rfl, rfl, _, rfl, if_false_of (by show decide (V.str ("again" : Str) = V.str "branch") = false; decide) ⟨_, rfl, rfl, _, rfl, if_false_of (by show decide (V.str ("again" : Str) = V.str "raise") = false; decide) ⟨_, rfl, _, _, rfl, rfl, h1, _, rfl, if_true_of rfl ⟨_, rfl, _, _, _, rfl, rfl, h2, _, _, rfl, .inr (.inr (.inr (.inl ⟨rfl, rfl⟩))), _, rfl, _, rfl, _, rfl, d, ia, _, i, rfl, S, hi, ok, trivial, big, Post.nxt (fun i2 g rs e => step1_idx (ins := .again x y) trivial e) (fun H2 hq => ⟨_, rfl, _, _, rfl, rfl, hq⟩) q⟩⟩⟩⟩⟩⟩⟩
  | get dd p =>
    obtain ⟨a, vs, e, ha, rfl⟩ := hi'
    cases e
    cases hx
    obtain ⟨u, h1, h2⟩ := kdC T (z := "get") (f := "run_get") (.tail _ (.tail _ (.tail _ (.tail _ (.tail _ (.head _))))))
    exact ⟨_, rfl, ia, _, _, _, rfl, rfl, SqT.of ha, rfl, _, rfl, rfl, _, rfl, if_false_of (by show decide (V.str ("get" : Str) = V.str "tick") = false; decide) ⟨_, rfl, rfl, _, rfl, if_false_of (by show decide (V.str ("get" : Str) = V.str "put") = false; decide) ⟨_, rfl, rfl, _, rfl, if_false_of (by show decide (V.str ("get" : Str) = V.str "jump") = false; decide) ⟨_, rfl, rfl, _, rfl, if_false_of (by show decide (V.str ("get" : Str) = V.str "branch") = false; decide) ⟨_, rfl, rfl, _, rfl, if_false_of (by show decide (V.str ("get" : Str) = V.str "raise") = false; decide) ⟨_, rfl, _, _, rfl, rfl, h1, _, rfl, if_true_of rfl ⟨_, rfl, _, _, _, rfl, rfl, h2, _, _, rfl, .inr (.inr (.inr (.inr (.inl ⟨rfl, rfl⟩)))), _, rfl, _, rfl, _, rfl, d, ia, _, i, rfl, S, hi, ok, trivial, big, Post.nxt (fun i2 g rs e => step1_idx (ins := .get dd p) trivial e) (fun H2 hq => ⟨_, rfl, _, _, rfl, rfl, hq⟩) q⟩⟩⟩⟩⟩⟩⟩
  | call u2 hh as ds p =>
    obtain ⟨a, vs, e, ha, o, o2, rfl, ho, ho2⟩ := hi'
    cases e
    obtain ⟨u, h1, h2⟩ := kdC T (z := "call") (f := "run_call") (.tail _ (.tail _ (.tail _ (.head _))))
    exact ⟨_, rfl, ia, _, _, _, rfl, rfl, SqT.of ha, rfl, _, rfl, rfl, _, rfl, if_false_of (by show decide (V.str ("call" : Str) = V.str "tick") = false; decide) ⟨_, rfl, rfl, _, rfl, if_false_of (by show decide (V.str ("call" : Str) = V.str "put") = false; decide) ⟨_, rfl, rfl, _, rfl, if_false_of (by show decide (V.str ("call" : Str) = V.str "jump") = false; decide) ⟨_, rfl, rfl, _, rfl, if_false_of (by show decide (V.str ("call" : Str) = V.str "branch") = false; decide) ⟨_, rfl, rfl, _, rfl, if_false_of (by show decide (V.str ("call" : Str) = V.str "raise") = false; decide) ⟨_, rfl, _, _, rfl, rfl, h1, _, rfl, if_true_of rfl ⟨_, rfl, _, _, _, rfl, rfl, h2, _, _, rfl, .inr (.inr (.inr (.inr (.inr (⟨rfl, rfl⟩))))), _, rfl, _, rfl, _, rfl, d, ia, _, _, _, _, _, i, n, x, rfl, S, hi, ok, h10, hev, hmu _ _ _ _ _ rfl, hx, Post.nxt (fun i2 g rs e => callX_idx hx e) (fun H2 hq => ⟨_, rfl, _, _, rfl, rfl, hq⟩) q⟩⟩⟩⟩⟩⟩⟩
  | move dd x =>
    obtain ⟨a, vs, e, ha, o, rfl, ho⟩ := hi'
    cases e
    cases hx
    have h1 := T.vn "move" (by decide +kernel)
    exact ⟨_, rfl, ia, _, _, _, rfl, rfl, SqT.of ha, rfl, _, rfl, rfl, _, rfl, if_false_of (by show decide (V.str ("move" : Str) = V.str "tick") = false; decide) ⟨_, rfl, rfl, _, rfl, if_false_of (by show decide (V.str ("move" : Str) = V.str "put") = false; decide) ⟨_, rfl, rfl, _, rfl, if_false_of (by show decide (V.str ("move" : Str) = V.str "jump") = false; decide) ⟨_, rfl, rfl, _, rfl, if_false_of (by show decide (V.str ("move" : Str) = V.str "branch") = false; decide) ⟨_, rfl, rfl, _, rfl, if_false_of (by show decide (V.str ("move" : Str) = V.str "raise") = false; decide) ⟨_, rfl, _, _, rfl, rfl, h1, _, rfl, if_false_of rfl ⟨_, rfl, _, rfl, d, ia, _, i, rfl, S, hi, ok, trivial, Post.nxt (fun i2 g rs e => step1_idx (ins := .move dd x) trivial e) (fun H2 hq => ⟨_, rfl, _, _, rfl, rfl, hq⟩) q⟩⟩⟩⟩⟩⟩⟩
  | neg dd x p =>
    obtain ⟨a, vs, e, ha, o, rfl, ho⟩ := hi'
    cases e
    cases hx
    have h1 := T.vn "neg" (by decide +kernel)
    exact ⟨_, rfl, ia, _, _, _, rfl, rfl, SqT.of ha, rfl, _, rfl, rfl, _, rfl, if_false_of (by show decide (V.str ("neg" : Str) = V.str "tick") = false; decide) ⟨_, rfl, rfl, _, rfl, if_false_of (by show decide (V.str ("neg" : Str) = V.str "put") = false; decide) ⟨_, rfl, rfl, _, rfl, if_false_of (by show decide (V.str ("neg" : Str) = V.str "jump") = false; decide) ⟨_, rfl, rfl, _, rfl, if_false_of (by show decide (V.str ("neg" : Str) = V.str "branch") = false; decide) ⟨_, rfl, rfl, _, rfl, if_false_of (by show decide (V.str ("neg" : Str) = V.str "raise") = false; decide) ⟨_, rfl, _, _, rfl, rfl, h1, _, rfl, if_false_of rfl ⟨_, rfl, _, rfl, d, ia, _, i, rfl, S, hi, ok, trivial, Post.nxt (fun i2 g rs e => step1_idx (ins := .neg dd x p) trivial e) (fun H2 hq => ⟨_, rfl, _, _, rfl, rfl, hq⟩) q⟩⟩⟩⟩⟩⟩⟩
  | abs dd x p =>
    obtain ⟨a, vs, e, ha, o, rfl, ho⟩ := hi'
    cases e
    cases hx
    have h1 := T.vn "abs" (by decide +kernel)
    exact ⟨_, rfl, ia, _, _, _, rfl, rfl, SqT.of ha, rfl, _, rfl, rfl, _, rfl, if_false_of (by show decide (V.str ("abs" : Str) = V.str "tick") = false; decide) ⟨_, rfl, rfl, _, rfl, if_false_of (by show decide (V.str ("abs" : Str) = V.str "put") = false; decide) ⟨_, rfl, rfl, _, rfl, if_false_of (by show decide (V.str ("abs" : Str) = V.str "jump") = false; decide) ⟨_, rfl, rfl, _, rfl, if_false_of (by show decide (V.str ("abs" : Str) = V.str "branch") = false; decide) ⟨_, rfl, rfl, _, rfl, if_false_of (by show decide (V.str ("abs" : Str) = V.str "raise") = false; decide) ⟨_, rfl, _, _, rfl, rfl, h1, _, rfl, if_false_of rfl ⟨_, rfl, _, rfl, d, ia, _, i, rfl, S, hi, ok, trivial, Post.nxt (fun i2 g rs e => step1_idx (ins := .abs dd x p) trivial e) (fun H2 hq => ⟨_, rfl, _, _, rfl, rfl, hq⟩) q⟩⟩⟩⟩⟩⟩⟩
  | less dd x y =>
    obtain ⟨a, vs, e, ha, o, o2, rfl, ho, ho2⟩ := hi'
    cases e
    cases hx
    have h1 := T.vn "less" (by decide +kernel)
    exact ⟨_, rfl, ia, _, _, _, rfl, rfl, SqT.of ha, rfl, _, rfl, rfl, _, rfl, if_false_of (by show decide (V.str ("less" : Str) = V.str "tick") = false; decide) ⟨_, rfl, rfl, _, rfl, if_false_of (by show decide (V.str ("less" : Str) = V.str "put") = false; decide) ⟨_, rfl, rfl, _, rfl, if_false_of (by show decide (V.str ("less" : Str) = V.str "jump") = false; decide) ⟨_, rfl, rfl, _, rfl, if_false_of (by show decide (V.str ("less" : Str) = V.str "branch") = false; decide) ⟨_, rfl, rfl, _, rfl, if_false_of (by show decide (V.str ("less" : Str) = V.str "raise") = false; decide) ⟨_, rfl, _, _, rfl, rfl, h1, _, rfl, if_false_of rfl ⟨_, rfl, _, rfl, d, ia, _, i, rfl, S, hi, ok, trivial, Post.nxt (fun i2 g rs e => step1_idx (ins := .less dd x y) trivial e) (fun H2 hq => ⟨_, rfl, _, _, rfl, rfl, hq⟩) q⟩⟩⟩⟩⟩⟩⟩
  | equal dd x y =>
    obtain ⟨a, vs, e, ha, o, o2, rfl, ho, ho2⟩ := hi'
    cases e
    cases hx
    have h1 := T.vn "equal" (by decide +kernel)
    exact ⟨_, rfl, ia, _, _, _, rfl, rfl, SqT.of ha, rfl, _, rfl, rfl, _, rfl, if_false_of (by show decide (V.str ("equal" : Str) = V.str "tick") = false; decide) ⟨_, rfl, rfl, _, rfl, if_false_of (by show decide (V.str ("equal" : Str) = V.str "put") = false; decide) ⟨_, rfl, rfl, _, rfl, if_false_of (by show decide (V.str ("equal" : Str) = V.str "jump") = false; decide) ⟨_, rfl, rfl, _, rfl, if_false_of (by show decide (V.str ("equal" : Str) = V.str "branch") = false; decide) ⟨_, rfl, rfl, _, rfl, if_false_of (by show decide (V.str ("equal" : Str) = V.str "raise") = false; decide) ⟨_, rfl, _, _, rfl, rfl, h1, _, rfl, if_false_of rfl ⟨_, rfl, _, rfl, d, ia, _, i, rfl, S, hi, ok, trivial, Post.nxt (fun i2 g rs e => step1_idx (ins := .equal dd x y) trivial e) (fun H2 hq => ⟨_, rfl, _, _, rfl, rfl, hq⟩) q⟩⟩⟩⟩⟩⟩⟩
  | ar r2 dd x y p =>
    obtain ⟨a, vs, e, ha, o, o2, rfl, ho, ho2⟩ := hi'
    cases e
    cases hx
    have h1 := T.vn (arN r2) (by cases r2 <;> decide +kernel)
    exact ⟨_, rfl, ia, _, _, _, rfl, rfl, SqT.of ha, rfl, _, rfl, rfl, _, rfl, if_false_of (show decide (V.str (arN r2) = V.str "tick") = false by cases r2 <;> decide) ⟨_, rfl, rfl, _, rfl, if_false_of (show decide (V.str (arN r2) = V.str "put") = false by cases r2 <;> decide) ⟨_, rfl, rfl, _, rfl, if_false_of (show decide (V.str (arN r2) = V.str "jump") = false by cases r2 <;> decide) ⟨_, rfl, rfl, _, rfl, if_false_of (show decide (V.str (arN r2) = V.str "branch") = false by cases r2 <;> decide) ⟨_, rfl, rfl, _, rfl, if_false_of (show decide (V.str (arN r2) = V.str "raise") = false by cases r2 <;> decide) ⟨_, rfl, _, _, rfl, rfl, h1, _, rfl, if_false_of rfl ⟨_, rfl, _, rfl, d, ia, _, i, rfl, S, hi, ok, trivial, Post.nxt (fun i2 g rs e => step1_idx (ins := .ar r2 dd x y p) trivial e) (fun H2 hq => ⟨_, rfl, _, _, rfl, rfl, hq⟩) q⟩⟩⟩⟩⟩⟩⟩
end
end WX
/-! ## WP9 -/
set_option Elab.async false
set_option linter.all false
set_option maxRecDepth 100000
set_option maxHeartbeats 2000000
/-! An activation. -/
namespace WX
open PySem PySem.Spec PyProof.Rows L2 He
open Wn (Op Ar Ins Rg Un Mod G Out Nx Word wordB exact val StOk EnvOk InsOk OpOk step1 ModOk UnOk comp mu setAll push pop back NxOk Pot Keeps)
/-- a try with one named clause, whose suite may raise again -/
theorem ps_tryR {X : Cx} {body suite : List Stmt} {b₀ : Stmt} {test : Expr} {n : Str} {i : Nat} {pos pos' : Pos} {Wout : WX} {m : Value → Bool → Prop} {tb : WX → List (Addr × Obj) → (Value → Shared → Prop) → TS} {ts : Addr → Obj → Value → Option Addr → Addr → List (Addr × Obj) → TS}
    (hs : X.stack = X.env :: X.outer) (hf : X.env.frame = some X.env.locals) (hex : X.ex = []) (hN : X.N.Nodup) (hi : X.N[i]? = some n) (hln : X.env.kindOf n = some .local) (tk : Takes X Wout) (ht : ∀ cls b, m cls b → TestOk X test cls b)
    (hb : ∀ (W : WX) (pn : List (Addr × Obj)) (xe : Value → Shared → Prop), Takes (X.tr pn xe) W → PSs (X.tr pn xe) body (tb W pn xe))
    (hsu : ∀ (a : Addr) (oe : Obj) (cls : Value) (d : Option Addr) (T : Addr) (pn : List (Addr × Obj)), Zc cls d oe → (∃ vs, oe.data = .fields vs) → Hot2 (X.A.mark (some (.ref a))) ((a, oe) :: pn) →
      (∀ (Wb : L2.St → Hp → Prop) (pos : Pos), PS (suiteR X a ((a, oe) :: pn) (xR X a T ((a, oe) :: pn) Wb)) (.Raise none none pos) (tBare Wb)) →
      PSs (suiteR X a ((a, oe) :: pn) (xR X a T ((a, oe) :: pn) (WB i Wout cls d))) (b₀ :: suite) (ts a oe cls d T pn)) :
    PS X (.Try body [.ExceptHandler (some test) (some n) (b₀ :: suite) pos'] [] [] pos) (fun D σ H => ∀ pn xe, tb (wR i m (fun a cls d D σ H => ∀ oe T pn, ts a oe cls d T pn D σ H) Wout D) pn xe D σ H) :=
  ps_tryX (tb := fun W D σ H => ∀ pn xe, tb W pn xe D σ H) (WD := fun D => wR i m (fun a cls d D σ H => ∀ oe T pn, ts a oe cls d T pn D σ H) Wout D) hs hf
    (fun W pn xe tk => ⟨fun pins s σ H D I h => (hb W pn xe tk).run pins s σ H D I (h pn xe)⟩)
    fun pins a B sI s' σ H cls d c D ok L cx w => handleR (ts := fun a cls d D σ H => ∀ oe T pn, ts a oe cls d T pn D σ H) hs hf hex hN hi hln tk ht
      (fun a oe cls d T pn hz hv hot bare => ⟨fun pins s σ H D I h => (hsu a oe cls d T pn hz hv hot bare).run pins s σ H D I (h oe T pn)⟩) ok L cx w
/-! ### region_of -/
def spReg (K : PySem.W.Frag) : Sp := fun vs H Q _ => ∃ (ua : Addr) (i : Nat) (U : Un) (dx : Addr) (fs : List (Str × V)) (c rg : Addr) (cs rs : List V), vs = [.ref ua, .int i] ∧ UnAt K H ua U dx fs c rg cs rs ∧
  (Wn.region U i = none → Q .non H) ∧ (∀ r a, Wn.region U i = some r → H a = some (.tup [.int r.start, .int r.stop, .int r.entry, .int r.r1, .int r.r2]) → Q (.ref a) H)
theorem find_at {α : Type} {p : α → Bool} : ∀ {l : List α} {j : Nat} {x : α}, (l.take j).find? p = none → l[j]? = some x → p x = true → l.find? p = some x
  | [], j, x, _, h, _ => by simp at h
  | a :: l, 0, x, _, h, hp => by
    cases h
    rw [List.find?_cons, hp]
  | a :: l, j + 1, x, h0, h, hp => by
    rw [List.take_succ_cons, List.find?_cons] at h0
    rw [List.find?_cons]
    cases e : p a with
    | true => rw [e] at h0; cases h0
    | false =>
      rw [e] at h0
      exact find_at h0 h hp
theorem find_more {α : Type} {p : α → Bool} {l : List α} {j : Nat} {x : α} (h0 : (l.take j).find? p = none) (h : l[j]? = some x) (hp : p x = false) : (l.take (j + 1)).find? p = none := by
  obtain ⟨lt, e⟩ := List.getElem?_eq_some_iff.mp h
  rw [List.take_succ_eq_append_getElem lt, List.find?_append, h0, e]
  simp [hp]
section
variable {P : Program} {w : World} {K : PySem.W.Frag} {mg : Str → Option Value} {base : Heap}
/-- a loop over a unit's regions -/
theorem for_reg {H : Hp} {U : Un} {rg : Addr} {rs : List V} (hA : H rg = some (.tup rs)) (h2 : All2 (rgV H) rs U.rgs) {i : Nat} {ua : V} {D : Ends} (hn : Wn.region U i = none → ∀ o, D.nx [some ua, some (.int i), o] H)
    (hr : ∀ r a, Wn.region U i = some r → H a = some (.tup [.int r.start, .int r.stop, .int r.entry, .int r.r1, .int r.r2]) → D.rt (.ref a) H) {tb : TS}
    (htb : ∀ (D : Ends) (a : Addr) (r : Rg), H a = some (.tup [.int r.start, .int r.stop, .int r.entry, .int r.r1, .int r.r2]) → (decide (r.start ≤ i) && decide (i < r.stop)) = true → D.rt (.ref a) H → tb D [some ua, some (.int i), some (.ref a)] H)
    (htn : ∀ (D : Ends) (a : Addr) (r : Rg), H a = some (.tup [.int r.start, .int r.stop, .int r.entry, .int r.r1, .int r.r2]) → (decide (r.start ≤ i) && decide (i < r.stop)) = false → D.nx [some ua, some (.int i), some (.ref a)] H → tb D [some ua, some (.int i), some (.ref a)] H) :
    ∃ W : Nat → Nat → L2.St → Hp → Prop, (∃ m, W 0 m [some ua, some (.int i), none] H) ∧ ∀ j m σ H, W j m σ H →
      ((Itt K rg).stop j H ∧ D.nx σ H) ∨ ((Itt K rg).go j H ∧ ∃ N : L2.St → Hp → Prop, (∀ σ' H', N σ' H' → ∃ m', m' < m ∧ W (j + 1) m' σ' H') ∧ ∀ x H', (Itt K rg).yld j H x H' → gName 2 x σ H' fun σ2 H2 => tb { D with nx := N, ct := N, bk := D.nx } σ2 H2) := by
  refine for_tup (xs := rs) (fun j σ H' => (∃ o, σ = [some ua, some (.int i), o]) ∧ H' = H ∧ (U.rgs.take j).find? (fun r => decide (r.start ≤ i) && decide (i < r.stop)) = none) ⟨⟨none, rfl⟩, rfl, rfl⟩ (fun j σ H' _ p => by rw [p.2.1]; exact SqT.of hA) ?_ ?_
  · rintro j x σ H' hx ⟨⟨o, rfl⟩, rfl, hj⟩
    obtain ⟨r, hrj, a, rfl, ha⟩ := h2.get' hx
    cases c : (decide (r.start ≤ i) && decide (i < r.stop)) with
    | true => exact htb _ a r ha c (hr r a (find_at hj hrj c) ha)
    | false => exact htn _ a r ha c ⟨⟨_, rfl⟩, rfl, find_more hj hrj c⟩
  · rintro σ H' ⟨⟨o, rfl⟩, rfl, hj⟩
    rw [h2.1, List.take_length] at hj
    exact hn hj o
theorem ok_region (T : Txt w K mg) : ∃ fd, Binds K fd ["unit", "index"] [] ∧ PySem.W.keepIn K (.ref (ga K "region_of")) = true ∧ FnC P w K mg base 1 (ga K "region_of") fd ["unit", "index"] (spReg K) := by
  obtain ⟨fd, F⟩ := F_region_of T
  refine ⟨fd, F.bindsN fun _ _ _ _ _ _ us hl => match us, hl with | [_, _], _ => rfl, F.kp, fn_ofC F sc_region_of (fun vs H Q E h => ?_) (fun cdv A outer s H vs Q E pn hot h => ?_)⟩
  · obtain ⟨ua, i, U, dx, fs, c, rg, cs, rs, rfl, _⟩ := h
    rfl
  obtain ⟨ua, i, U, dx, fs, c, rg, cs, rs, rfl, un, q1, q2⟩ := h
  refine ⟨_, (pss_cons (ps_for_tup PassesOwn.never hot (pe_fld (pv 0) rfl) (pg_name (i := 2) sc_region_of.nd rfl (Or.inl rfl)) (pss_one (ps_if (pt_chain op_le op_lt (pe_ix ix_tup (pv 2) pe_int (fun _ _ => rfl)) (pv 1) (pe_ix ix_tup (pv 2) pe_int (fun _ _ => rfl))) (pss_one (ps_ret (pv 2))) pss_nil))) (pss_one (ps_ret pe_non))), ?_⟩
  refine ⟨_, rfl, ua, _, _, _, _, rfl, un.at_, cl_Unit T, na_Unit_regions T, un.regions, rg, rfl, ⟨_, SqT.of un.rgA⟩, for_reg un.rgA un.rgs (fun h o => q1 h) (fun r a h1 h2 => q2 r a h1 h2) (fun D a r ha c hD => ?_) (fun D a r ha c hD => ?_)⟩
  · obtain ⟨c1, c2⟩ := Bool.and_eq_true_iff.mp c
    have c1' := of_decide_eq_true c1
    have c2' := of_decide_eq_true c2
    exact ⟨_, rfl, a, _, _, _, rfl, rfl, SqT.of ha, rfl, _, rfl, _, _, rfl, rfl, _, rfl, if_true_of (decide_eq_true (by omega)) ⟨_, rfl, a, _, _, _, rfl, rfl, SqT.of ha, rfl, _, _, rfl, rfl, _, rfl, if_true_of (decide_eq_true (by omega)) ⟨_, rfl, hD⟩⟩⟩
  · refine ⟨_, rfl, a, _, _, _, rfl, rfl, SqT.of ha, rfl, _, rfl, _, _, rfl, rfl, _, rfl, ?_⟩
    by_cases c1 : r.start ≤ i
    · refine if_true_of (decide_eq_true (by omega)) ⟨_, rfl, a, _, _, _, rfl, rfl, SqT.of ha, rfl, _, _, rfl, rfl, _, rfl, if_false_of (decide_eq_false fun z => ?_) hD⟩
      have c2 : i < r.stop := by omega
      simp [c1, c2] at c
    · exact if_false_of (decide_eq_false (by omega)) ⟨_, rfl, if_false_of rfl hD⟩
end
end WX
/-! ## WP10 -/
set_option Elab.async false
set_option linter.all false
set_option maxRecDepth 100000
set_option maxHeartbeats 2000000
/-! An activation, from its first instruction to its end. -/
namespace WX
open PySem PySem.Spec PyProof.Rows L2 He
open Wn (Op Ar Ins Rg Un Mod G Out Nx Word wordB exact val StOk EnvOk InsOk OpOk step1 ModOk UnOk comp mu setAll push pop back NxOk Pot Keeps)
/-- the same activation, further on -/
def Dat.to (d : Dat) (g : G) (rs : List Int) : Dat := { d with g := g, rs := rs }
theorem one_stepX (d : Dat) (n i : Nat) (ins : Ins) (hr : ∀ vs, ins ≠ .ret vs) : Wn.one d.e n d.u (d.i0 :: d.r) i d.g d.rs ins = stepX (d.to (Wn.note d.g d.u i d.rs) d.rs) n i ins := by
  cases ins with
  | ret vs => exact absurd rfl (hr vs)
  | _ => rfl
theorem Sit.to {K : PySem.W.Frag} {H H' : Hp} {d : Dat} (s : Sit K H d) {g : G} {rs : List Int} (st : Stp (Chg d.D d.cas d.ra) H H') (sA : StA K H' d.D d.e.ins g d.cas d.ra rs) (ok : StOk d.e d.u (d.i0 :: d.r) g rs) (hc : g.cs.length = d.g.cs.length) : Sit K H' (d.to g rs) := by
  obtain ⟨dx, fs, c, rg, cs, rs', un⟩ := s.un
  exact ⟨sA, st.at s.f fun _ => frz_fr, s.hc, s.ch.st st, ok, s.hU, ⟨dx, fs, c, rg, cs, rs', un.st st⟩, s.mo.st st, s.E, hc.trans s.top, s.lim, s.chl⟩
theorem less_st {H Hs : Hp} (l : Less H Hs) : Stp S0 H Hs := by
  rcases l with rfl | ⟨x, hx, rfl⟩
  · exact Stp.refl
  · refine ⟨fun a o e _ w => ?_⟩
    have ne : a ≠ x := fun z => by
      rw [z, hx] at e
      cases e
      exact w
    rw [del_ne ne]
    exact e
theorem back_st {H Hb : Hp} (l : Back H Hb) : Stp S0 H Hb := by
  rcases l with rfl | ⟨x, hx, rfl⟩
  · exact Stp.refl
  · exact Stp.new hx
theorem atI_hd {v : V} {vs : List V} : atI (v :: vs) 0 = some v := atI_nat (j := 0) rfl
theorem csl {e : Wn.Env} {u : Nat} {ch : List Nat} {g g' : G} {rs : List Int} (k : Keeps e u ch g g' rs) : g'.cs.length = g.cs.length := by
  have := congrArg List.length k.sh
  rw [Wn.sh_len, Wn.sh_len] at this
  exact this
section
variable {P : Program} {w : World} {K : PySem.W.Frag} {mg : Str → Option Value} {base : Heap}
/-- the loop's head -/
structure Head (K : PySem.W.Frag) (H0 : Hp) (d0 : Dat) (o : Out × G) (n : Nat) (σ : L2.St) (H : Hp) : Prop where
  ex : ∃ (g : G) (rs : List Int) (i : Nat) (o3 o6 : Option V), σ = [some (.ref d0.D.run), some (.ref d0.fa), some (.int i), o3, none, none, o6] ∧ Sit K H (d0.to g rs) ∧ Stp (Chg d0.D d0.cas d0.ra) H0 H ∧ Wn.run d0.e n d0.u (d0.i0 :: d0.r) i g rs = some o ∧
    mu d0.U g.fuel i < n ∧ i < d0.U.code.length ∧ g.evs.length + mu d0.U g.fuel i ≤ 100000
theorem ok_frame (T : Txt w K mg) (r : Nat) (G_step : Def P w K mg base (CX P w) (10 + 3 * r + 1 + 1) "step" ["run", "frame", "instruction", "index"] (spStep K r)) : Def P w K mg base (CX P w) (10 + 3 * r + 1 + 1 + 1) "run_frame" ["run", "frame"] (spRF K r) := by
  have M_Frame_value := ok_value (P := P) (base := base) T
  have M_CodeRun_note := ok_note (P := P) (base := base) T
  obtain ⟨fdR, bR, kR, FR⟩ := ok_region (P := P) (base := base) T
  refine D_run_frame T (k := 10 + 3 * r + 1 + 1) (fun vs H Q E h => ?_) (fun cdv A outer s H vs Q E hr h => ?_)
  · obtain ⟨d, n, o, rfl, _⟩ := h
    rfl
  obtain ⟨d, n, o, rfl, S, h10, hev, hmu, hrun, q⟩ := h
  have UO := S.unOk
  refine ⟨_, (pss_cons (ps_set (i := 2) sc_run_frame.nd rfl (Or.inl rfl) pe_int) (pss_one (ps_while (L2.passes_of rfl) (pt_val pe_bl) (pss_cons (ps_set (i := 3) sc_run_frame.nd rfl (Or.inl rfl) (pe_ix ix_tup (pe_fld (pe_fld (pv 1) rfl) rfl) (pv 2) (fun _ _ => rfl))) (pss_cons (ps_expr (pe_methD M_CodeRun_note (pv 0) (cl_CodeRun T) (me_CodeRun_note T) hr (by omega) pass0 (pa_cons (pv 1) (pa_cons (pv 2) pa_nil)))) (pss_cons (ps_if (pt_cmpR op_eq (pe_ix ix_tup (pv 3) pe_int (fun _ _ => rfl)) pe_str (nomark _)) (pss_one (ps_ret (pe_lc (te := tMeth (ga K "Frame") "value" (spVal K) [] E0 (tVar 1) (tCons (tVar 4) tNil)) (own := [("operand", 4)]) (g := gName 4) (tt := tYes) rfl sc_run_frame.nd (pi_tup (pe_ix ix_tup (pv 3) pe_int (fun _ _ => rfl))) (blkOk_by (own := [("operand", 4)]) (N := ["run", "frame", "index", "instruction", "operand", "e", "region"]) (sc := defScope st_run_frame) (by decide +kernel)) (fun _ _ _ _ _ => pg_name (i := 4) sc_run_frame.nd rfl (Or.inl rfl)) (fun _ _ _ _ _ => pts_nil) (fun _ _ _ _ _ => (pe_methD M_Frame_value (pv 1) (cl_Frame T) (me_Frame_value T) hr (by omega) pass0 (pa_cons (pv 4) pa_nil)))))) pss_nil) (pss_one (ps_tryR (i := 5) (m := fun c b => PySem.W.exmOne K c (.ref (ga K "CodeRaised")) = some b) rfl rfl rfl sc_run_frame.nd rfl rfl (takes_of rfl rfl rfl rfl) (fun cls b hm => test_name ⟨rfl, rfl, .inl (g_CodeRaised T)⟩ hm) (fun W pn xe tk => (pss_one (ps_set (i := 2) sc_run_frame.nd rfl (Or.inl rfl) (pe_callDS G_step hr (by omega) rfl (fun σ => passAt tk σ) (pa_cons (pv 0) (pa_cons (pv 1) (pa_cons (pv 3) (pa_cons (pv 2) pa_nil)))))))) (fun a oe cls d2 T2 pn hz hv hot bare => pss_cons (ps_set (i := 6) sc_run_frame.nd rfl (Or.inl rfl) (pe_callC FR (L2H.RoomH.mono (L2H.roomH_mark hr _) (by omega)) hot rfl (g_region_of T) kR bR (pa_cons (pe_fld (pv 1) rfl) (pa_cons (pv 2) pa_nil)))) (pss_cons (ps_if (pt_cmpR op_isN (pv 6) pe_non (nomark _)) (pss_one (bare _ _)) pss_nil) (pss_cons (ps_asg (PE.nox (pe_xf T.xf T.on.1 hz hv (pv 5))) (pg_sub (pe_fld (pv 1) rfl) (pe_ix ix_tup (pv 6) pe_int (fun _ _ => rfl)) set_list)) (pss_cons (ps_asg (PE.nox (pe_xf T.xf T.on.2 hz hv (pv 5))) (pg_sub (pe_fld (pv 1) rfl) (pe_ix ix_tup (pv 6) pe_int (fun _ _ => rfl)) set_list)) (pss_one (ps_set (i := 2) sc_run_frame.nd rfl (Or.inl rfl) (pe_ix ix_tup (pv 6) pe_int (fun _ _ => rfl)))))))))))))))), ?_⟩
  have m0 := Wn.mu_start UO d.g.fuel
  have lt0 := (List.getElem?_eq_some_iff.mp UO.tick).1
  refine ⟨fun m σ H' => Head K H d o m σ H', ⟨n, ⟨d.g, d.rs, 0, none, none, rfl, S, Stp.refl, hrun, by rw [m0]; exact hmu, lt0, by rw [m0]; exact hev⟩⟩, ?_⟩
  rintro m σ H1 ⟨g, rs, i, o3, o6, rfl, S1, st1, hrun1, hmu1, hi1, hev1⟩
  refine ⟨true, rfl, fun σ' H' => ∃ m', m' < m ∧ Head K H d o m' σ' H', fun σ' H' h => h, ?_⟩
  obtain ⟨n', rfl⟩ : ∃ n', m = n' + 1 := ⟨m - 1, by omega⟩
  obtain ⟨ux, ufs, uc, urg, ucs, urs, un⟩ := S1.un
  obtain ⟨ins, hins⟩ : ∃ ins, d.U.code[i]? = some ins := ⟨_, List.getElem?_eq_getElem hi1⟩
  obtain ⟨v, hv, ia, ivs, rfl, hia, hif⟩ := un.ins.get hins
  refine ⟨_, rfl, _, _, _, _, _, rfl, S1.f, cl_Frame T, na_Frame_unit T, rfl, _, _, _, _, _, rfl, un.at_, cl_Unit T, na_Unit_code T, un.code, _, rfl, uc, _, _, _, rfl, rfl, SqT.of un.codeA, atI_nat hv, ?_⟩
  refine ⟨_, rfl, _, _, _, rfl, S1.s.l.run, rfl, _, rfl, _, rfl, d.D, d.e.ins, g, d.cas, d.ra, rs, d.fa, d.fx, d.u, i, d.i0, .ref d.ua, d.par, .ref d.ca, rfl, S1.s, S1.lim, Nat.le_trans S1.regs (by decide), S1.f, fun H2 st2 sA2 => ?_⟩
  have S2 : Sit K H2 (d.to (Wn.note g d.u i rs) rs) := S1.to (g := Wn.note g d.u i rs) (rs := rs) st2 sA2 S1.ok.note rfl
  have hia2 := st2.tup hia
  have hif2 := hif.st st2
  have un2 := un.st st2
  have st02 := st1.trans st2
  have IO := UO.ins i ins hins
  refine ⟨_, rfl, ia, _, _, _, rfl, rfl, SqT.of hia2, atI_hd, rfl, _, rfl, ?_⟩
  by_cases hret : ∃ vs, ins = .ret vs
  · -- the end
    obtain ⟨vs, rfl⟩ := hret
    obtain ⟨oo, rfl, avs, hoo, h2⟩ := hif2
    have hrr := Wn.run_ret (e := d.e) (n := n') (ch := d.i0 :: d.r) (g := g) (rs := rs) S.hU hins
    rw [hrun1] at hrr
    cases hrr
    have l100 := UO.regs
    have lnr : vs.length ≤ 1000 := by
      have := IO.1
      have := UO.nr
      omega
    refine if_true_of (by show decide (V.str ("return" : Str) = V.str "return") = true; decide) ⟨_, rfl, ia, _, _, _, rfl, rfl, SqT.of hia2, rfl, oo, rfl, ⟨_, SqT.of hoo⟩, fun DL hDL => lc_vals S2 hoo h2 IO.2 lnr (i := 4) rfl (by show 4 < 7; decide) (by decide) hDL fun H3 t3 h3 => ?_⟩
    have S3 := S2.st t3
    exact q H3 DL (st02.trans t3.z) S3.s.l S3.s.c (fun a o w e z => (New.of hDL).ne (st02.to a o e (fun y => absurd y z) w) w) h3
  have hret' : ∀ vs, ins ≠ .ret vs := fun vs z => hret ⟨vs, z⟩
  obtain ⟨x, hone, hnx, hpot⟩ := Wn.one_ok (n := n') S.E S1.ok S.hU hins hmu1 hret'
  have hthen := Wn.run_one (e := d.e) (n := n') (ch := d.i0 :: d.r) (g := g) (rs := rs) S.hU hins hret'
  have hone' : Wn.one d.e n' d.u (d.i0 :: d.r) i g rs ins = some x := hone
  rw [hrun1, hone'] at hthen
  have hstep : stepX (d.to (Wn.note g d.u i rs) rs) n' i ins = some x := (one_stepX (d.to g rs) n' i ins hret').symm.trans hone
  have ml := Wn.mu_low (U := d.U) (f := g.fuel) (i := i)
  have nn : insN ins ≠ "return" := by
    cases ins with
    | ret vs => exact absurd rfl (hret' vs)
    | ar r2 _ _ _ _ => cases r2 <;> simp only [insN, arN] <;> decide
    | _ => simp only [insN]; decide
  refine if_false_of (decide_eq_false fun z => nn (V.str.inj z)) ?_
  intro pn xe
  refine ⟨_, rfl, _, rfl, _, rfl, _, rfl, d.to (Wn.note g d.u i rs) rs, ia, ins, i, n', x, rfl, S2, ⟨ia, ivs, rfl, hia2, hif2⟩, IO, hret', ?_, ?_, ?_, hstep, ?_⟩
  · show 10 ≤ g.cs.length + r
    have h1 := S1.top
    have h2 := S.top
    have h3 : g.cs.length = d.i0 + 1 := h1
    omega
  · show g.evs.length + 256 * g.fuel ≤ 100000
    omega
  · rintro a b c e f rfl
    show 256 * g.fuel < n'
    have := Wn.mu_no (f := g.fuel) (show d.U.code[i]? ≠ some .tick by rw [hins]; simp)
    omega
  cases x with
  | go i' g' rs' =>
    obtain ⟨kp, hi', hm'⟩ := hnx
    have hp' : g'.evs.length + mu d.U g'.fuel i' ≤ g.evs.length + mu d.U g.fuel i := hpot
    have hm2 : mu d.U g'.fuel i' < mu d.U g.fuel i := hm'
    intro H3 st3 sA3
    refine ⟨n', Nat.lt_succ_self _, ⟨g', rs', i', some (.ref ia), o6, rfl, S2.to st3 sA3 kp.st (show g'.cs.length = g.cs.length from csl kp), st02.trans st3, hthen.symm, by omega, hi', by omega⟩⟩
  | exh g' rs' =>
    simp only [Wn.thenX] at hthen
    cases hthen
    intro H3 st3 l3
    exact ⟨false, T.em "OutOfFuel" "CodeRaised" false (by decide +kernel), (fun z => nomatch z), fun _ => q H3 (st02.trans st3) l3⟩
  | fault g' rs' =>
    simp only [Wn.thenX] at hthen
    cases hthen
    intro H3 st3 l3
    exact ⟨false, T.em "CodeFault" "CodeRaised" false (by decide +kernel), (fun z => nomatch z), fun _ => q H3 (st02.trans st3) l3⟩
  | exc k p g' rs' =>
    obtain ⟨kp, hk5, hp5, nt⟩ := hnx
    have hp' : g'.evs.length + 256 * g'.fuel ≤ g.evs.length + 256 * g.fuel := hpot
    simp only [Wn.thenX] at hthen
    intro H3 dd st3 sA3 hdd
    refine ⟨true, T.em "CodeRaised" "CodeRaised" true (by decide +kernel), fun _ a Hs ha less oe T2 pn => ?_, (fun z => nomatch z)⟩
    have tl := less_st less
    have S3 : Sit K H3 (d.to g' rs') := S2.to st3 sA3 kp.st (show g'.cs.length = g.cs.length from csl kp)
    have S4 := S3.st tl
    have un4 := (un2.st st3).st tl
    have hdd4 : Hs dd = some (.xd [("place", .int p), ("number", .int k)]) := tl.at hdd fun z => z.elim
    have st04 := (st02.trans st3).trans tl.z
    refine ⟨_, rfl, _, _, _, _, _, rfl, S4.f, cl_Frame T, na_Frame_unit T, rfl, _, rfl, d.ua, i, d.U, ux, ufs, uc, urg, ucs, urs, rfl, un4, fun hn => ?_, fun rg ar hr har => ?_⟩
    · -- not caught here
      rw [hn] at hthen
      cases hthen
      refine ⟨_, rfl, rfl, _, rfl, if_true_of rfl fun Hb bk => ?_⟩
      have tb := back_st bk
      have S5 := S4.st tb
      exact q Hb dd (st04.trans tb.z) S5.s.l S5.s.c (tb.at hdd4 fun z => z.elim)
    · -- the region's entry
      rw [hr] at hthen
      have hrun' : Wn.run d.e n' d.u (d.i0 :: d.r) rg.entry g' ((rs'.set rg.r1 k).set rg.r2 p) = some o := hthen.symm
      obtain ⟨K2, hlt, hm2⟩ := Wn.entry_ok UO kp hr hk5 hp5 nt
      obtain ⟨RO, _⟩ := Wn.region_ok UO hr
      have hp2 : g'.evs.length + mu d.U g'.fuel rg.entry ≤ g.evs.length + mu d.U g.fuel i := Wn.exc_pot UO hr nt hp'
      have hm3 : mu d.U g'.fuel rg.entry < mu d.U g.fuel i := hm2
      have lr : rs'.length = d.U.regs := S3.len
      refine ⟨_, rfl, rfl, _, rfl, if_false_of rfl ?_⟩
      refine ⟨_, rfl, rfl, rfl, dd, _, _, rfl, hdd4, rfl, _, rfl, _, _, _, _, _, rfl, S4.f, cl_Frame T, na_Frame_registers T, rfl, _, rfl, ar, _, _, _, rfl, rfl, SqT.of har, rfl, d.ra, _, (rg.r1 : Int), rg.r1, rfl, rfl, S4.s.r, ixN_nat (by rw [List.length_map]; show rg.r1 < rs'.length; rw [lr]; exact RO.r1), ?_⟩
      rw [map_set]
      have t5 : Stp (Chg d.D d.cas d.ra) Hs (upd Hs d.ra (.lst (((d.to g' rs').rs.set rg.r1 (k : Int)).map V.int))) := Stp.setR S4.s
      have s5 := S4.s.setR ((d.to g' rs').rs.set rg.r1 (k : Int))
      have hdd5 := (upd_ne (ne_of hdd4 S4.s.r (by intro z; cases z)) (o := .lst (((d.to g' rs').rs.set rg.r1 (k : Int)).map V.int))).trans hdd4
      refine ⟨_, rfl, rfl, rfl, dd, _, _, rfl, hdd5, rfl, _, rfl, _, _, _, _, _, rfl, t5.at S4.f fun _ => frz_fr, cl_Frame T, na_Frame_registers T, rfl, _, rfl, ar, _, _, _, rfl, rfl, SqT.of (t5.tup har), rfl, d.ra, _, (rg.r2 : Int), rg.r2, rfl, rfl, s5.r, ixN_nat (by rw [List.length_map, List.length_set]; show rg.r2 < rs'.length; rw [lr]; exact RO.r2), ?_⟩
      rw [map_set]
      have t6 : Stp (Chg d.D d.cas d.ra) _ (upd _ d.ra (.lst ((((d.to g' rs').rs.set rg.r1 (k : Int)).set rg.r2 (p : Int)).map V.int))) := Stp.setR s5
      have s6 := s5.setR (((d.to g' rs').rs.set rg.r1 (k : Int)).set rg.r2 (p : Int))
      refine ⟨_, rfl, ar, _, _, _, rfl, rfl, SqT.of (t6.tup (t5.tup har)), rfl, ?_⟩
      refine ⟨n', Nat.lt_succ_self _, ⟨g', _, rg.entry, some (.ref ia), some (.ref ar), rfl, S4.to (t5.trans t6) s6 K2.st rfl, (st04.trans t5).trans t6, hrun', by omega, hlt, by omega⟩⟩
end
end WX
/-! ## WP11 -/
set_option Elab.async false
set_option linter.all false
set_option maxRecDepth 100000
set_option maxHeartbeats 2000000
/-! The run as a whole. -/
namespace WX
open PySem PySem.Spec PyProof.Rows L2 He
open Wn (Op Ar Ins Rg Un Mod G Out Nx Word wordB exact val StOk EnvOk InsOk OpOk step1 ModOk UnOk comp mu setAll push pop back NxOk Pot Keeps)
local macro_rules | `(tactic| walk_at "new") => `(tactic| (intro p hp; generalize hG : upd _ p _ = H5; obtain ⟨s5, h5⟩ := gnew hG hp; clear hG))
section
variable {P : Program} {w : World} {K : PySem.W.Frag} {mg : Str → Option Value} {base : Heap}
theorem ok_RF (T : Txt w K mg) : ∀ r, Def P w K mg base (CX P w) (10 + 3 * r) "run_frame" ["run", "frame"] (spRFp K r)
  | 0 => D_run_frame T (k := 9) (fun vs H Q E h => h.elim) (fun cdv A outer s H vs Q E hr h => h.elim)
  | r + 1 => ok_frame T r (ok_step T r (ok_call T r (ok_RF T r)))
end
/-! ### a run's beginning -/
structure Begun (K : PySem.W.Frag) (H H' : Hp) (D : RD) (xs : List V) (n : Int) : Prop where
  st : Stp (fun b => b = D.run) H H'
  run : H' D.run = some (runO K D)
  ev : H' D.ev = some (evO K D 0)
  fu : H' D.fu = some (.ins (ga K "Fuel") D.fux [("units", .int n)])
  inp : H' D.inp = some (.lst xs)
  md : H' D.md = some (.lst [])
  sn : H' D.sn = some (.lst [])
  nd : [D.md, D.sn, D.inp].Nodup
  new : New H D.md ∧ New H D.sn ∧ New H D.inp ∧ New H D.ev ∧ New H D.fu
def spIniRun (K : PySem.W.Frag) : Sp := fun vs H Q _ => ∃ (a dx mo inp : Addr) (n : Int) (lim : Nat) (xs : List V), vs = [.ref a, .ref mo, .ref inp, .int n, .int lim] ∧ H a = some (.ins (ga K "CodeRun") dx []) ∧ H inp = some (.lst xs) ∧
  ∀ D H', D.run = a → D.rdx = dx → D.mo = mo → D.lim = lim → Begun K H H' D xs n → Q .non H'
section
variable {P : Program} {w : World} {K : PySem.W.Frag} {mg : Str → Option Value} {base : Heap}
theorem New.fwd {S : Addr → Prop} {H H' : Hp} {p : Addr} (n : New H' p) (t : Stp S H H') (h : ¬ S p) : New H p := fun o w q => n o w (t.to p o q (fun z => absurd z h) w)
theorem ok_iniRun (T : Txt w K mg) : MDef P w K mg base CX0 3 "CodeRun" "__init__" ["self", "module", "inputs", "fuel", "limit"] (spIniRun K) := by
  have I_Events := ok_iniEv (P := P) (base := base) T
  have I_Fuel := ok_iniFu (P := P) (base := base) T
  refine D_CodeRun_init T (fun vs H Q E h => ?_) (fun cdv A outer s H vs Q E hr h => ?_)
  · obtain ⟨a, dx, mo, inp, n, lim, xs, rfl, _⟩ := h
    rfl
  obtain ⟨a, dx, mo, inp, n, lim, xs, rfl, ha, hi, q⟩ := h
  refine ⟨_, (pss_cons (ps_fld (pv 0) (pv 1) rfl) (pss_cons (ps_fld (pv 0) (pe_makeD I_Events (mk_Events T) (g_Events T) hr (by omega) rfl pass0 (pa_cons (pv 2) pa_nil)) rfl) (pss_cons (ps_fld (pv 0) (pe_makeD I_Fuel (mk_Fuel T) (g_Fuel T) hr (by omega) rfl pass0 (pa_cons (pv 3) pa_nil)) rfl) (pss_cons (ps_fld (pv 0) (pv 4) rfl) (pss_one (ps_fld (pv 0) (pe_lst pa_nil) rfl)))))), ?_⟩
  have nia : inp ≠ a := ne_of hi ha (by intro z; cases z)
  refine ⟨_, rfl, _, rfl, fld_k ha (cl_CodeRun T) (na_CodeRun_module T) (by show 0 < 1000; decide) nfrz_nil fun H1 s1 h1 => ?_⟩
  have hi1 := s1.at hi fun z => absurd z nia
  -- the events
  refine ⟨_, rfl, fun ev evx hx hdx hne => ?_⟩
  have nx0 : upd H1 evx (.own ev) ev = none := by rw [upd_ne (Ne.symm hne)]; exact hx
  have ta : Stp S0 H1 (upd (upd H1 evx (.own ev)) ev (.ins (ga K "Events") evx [])) := (Stp.new hdx).trans (Stp.new nx0)
  refine ⟨ev, evx, inp, xs, rfl, upd_same, ta.at hi1 fun z => z.elim, fun c m H2 hc hm ncm tb hev hcc hmm => ⟨rfl, ?_⟩⟩
  have nev1 : New H1 ev := .of hx
  have nc1 : New H1 c := (New.of hc).back ta
  have nm1 : New H1 m := (New.of hm).back ta
  have t2 : Stp S0 H1 H2 := (ta.z.trans tb).s0 fun b z => by rw [show b = ev from z]; exact nev1
  have h2 := t2.at h1 fun z => z.elim
  refine ⟨_, rfl, fld_k h2 (cl_CodeRun T) (na_CodeRun_events T) (by show 1 < 1000; decide) (nf3 rfl rfl rfl) fun H3 s3 h3 => ?_⟩
  -- the fuel
  refine ⟨_, rfl, fun fu fux hx2 hdx2 hne2 => ?_⟩
  have nx2 : upd H3 fux (.own fu) fu = none := by rw [upd_ne (Ne.symm hne2)]; exact hx2
  have tc : Stp S0 H3 (upd (upd H3 fux (.own fu)) fu (.ins (ga K "Fuel") fux [])) := (Stp.new hdx2).trans (Stp.new nx2)
  refine ⟨fu, fux, .int n, rfl, upd_same, fun H4 tf hfu => ⟨rfl, ?_⟩⟩
  have nfu3 : New H3 fu := .of hx2
  have t4 : Stp S0 H3 H4 := (tc.z.trans tf).s0 fun b z => by rw [show b = fu from z]; exact nfu3
  have h4 := t4.at h3 fun z => z.elim
  refine ⟨_, rfl, fld_k h4 (cl_CodeRun T) (na_CodeRun_fuel T) (by show 2 < 1000; decide) (nf3 rfl rfl rfl) fun H5 s5 h5 => ?_⟩
  refine ⟨_, rfl, _, rfl, fld_k h5 (cl_CodeRun T) (na_CodeRun_limit T) (by show 3 < 1000; decide) (nf3 rfl rfl rfl) fun H6 s6 h6 => ?_⟩
  refine ⟨by show 0 ≤ sizeLine; decide, ?_⟩
  walk_at "new"; rename_i sn nsn H7 s7 h7
  have h67 := s7.at h6 fun z => z.elim
  refine ⟨_, rfl, fld_k h67 (cl_CodeRun T) (na_CodeRun_seen T) (by show 4 < 1000; decide) (nf3 rfl rfl rfl) fun H8 s8 h8 => ?_⟩
  -- what is there now
  have nea : ∀ {b : Addr}, New H1 b → b ≠ a := fun n => Ne.symm (n.ne h1)
  have up12 : Stp (fun b => b = a) H2 H8 := s3.trans (t4.z.trans (s5.trans (s6.trans (s7.z.trans s8))))
  have nfu1 : New H2 fu := nfu3.fwd s3 fun z => by
    have z' : fu = a := z
    exact absurd z'.symm (nfu3.ne h3)
  have nsn2 : New H2 sn := (New.of nsn).fwd (s3.trans (t4.z.trans (s5.trans s6))) fun z => by
    have z' : sn = a := z
    exact absurd z'.symm ((New.of nsn).ne h6)
  have nsn4 : New H4 sn := (New.of nsn).fwd (s5.trans s6) fun z => by
    have z' : sn = a := z
    exact absurd z'.symm ((New.of nsn).ne h6)
  refine q ⟨a, dx, mo, ev, evx, fu, fux, c, m, sn, lim⟩ H8 rfl rfl rfl rfl ⟨s1.trans (t2.z.trans up12), h8, up12.at hev fun z => absurd z (nea nev1), ?_, up12.at hcc fun z => absurd z (nea nc1), up12.at hmm fun z => absurd z (nea nm1), ?_, ?_, ?_⟩
  · exact (s5.trans (s6.trans (s7.z.trans s8))).at hfu fun z => by
      have z' : fu = a := z
      exact absurd z'.symm (nfu3.ne h3)
  · exact s8.at h7 fun z => by
      have z' : sn = a := z
      exact absurd z'.symm ((New.of nsn).ne h6)
  · simp only [List.nodup_cons, List.mem_cons, List.not_mem_nil, or_false, not_or, not_false_eq_true, List.nodup_nil, and_true]
    exact ⟨⟨nsn2.ne hmm, Ne.symm ncm⟩, Ne.symm (nsn2.ne hcc)⟩
  · have t12 : Stp S0 H1 H2 := t2
    have bk : ∀ {b : Addr}, New H1 b → New H b := fun {b} n => n.fwd s1 (nea n)
    exact ⟨bk nm1, bk (nsn2.back t2), bk nc1, bk nev1, bk (nfu1.back t2)⟩
/-- run.events.rows -/
theorem ok_rows (T : Txt w K mg) : ∃ p gf fd, PropOf K (ga K "Events") "rows" p gf ∧ Binds K fd ["self"] [] ∧ FnOk P w K mg base CX0 1 gf fd ["self"] (spRows K) := by
  obtain ⟨p, gf, fd, hp, F⟩ := T.pr
  refine ⟨p, gf, fd, hp, F.bindsN fun _ _ _ _ _ _ us hl => match us, hl with | [_], _ => rfl, F.ok sc_Events_rows (fun vs H Q E h => ?_) (fun cdv A outer s H vs Q E hr h => ?_)⟩
  · obtain ⟨a, dx, m, fs, l, rfl, _⟩ := h
    rfl
  obtain ⟨a, dx, m, fs, l, rfl, ha, hl, hm, q⟩ := h
  refine ⟨_, (pss_one (ps_ret (pe_callTy call_tuple_of (by rfl) (b_tuple T) (by decide +kernel) (pa_cons (pe_fld (pv 0) rfl) pa_nil)))), ?_⟩
  exact ⟨_, rfl, a, _, _, _, _, rfl, ha, cl_Events T, na_Events_made T, hl, m, _, rfl, .inl ⟨SqL.of hm, fun t ht => q t ht⟩⟩
/-! ### what was raised -/
def spRaised : Sp := fun vs H Q _ => ∃ (n x y : V) (a : Addr), vs = [n, .ref a] ∧ H a = some (.tup [x, y]) ∧ ∀ t, H t = none → Q (.ref t) (upd H t (.tup [.str "raised", n, x, y]))
theorem ok_raised (T : Txt w K mg) : ∃ fd, Binds K fd ["name", "place"] [] ∧ PySem.W.keepIn K (.ref (ga K "raised")) = true ∧ FnC P w K mg base 1 (ga K "raised") fd ["name", "place"] spRaised := by
  obtain ⟨fd, F⟩ := F_raised T
  refine ⟨fd, F.bindsN fun _ _ _ _ _ _ us hl => match us, hl with | [_, _], _ => rfl, F.kp, fn_ofC F sc_raised (fun vs H Q E h => ?_) (fun cdv A outer s H vs Q E pn hot h => ?_)⟩
  · obtain ⟨n, x, y, a, rfl, _⟩ := h
    rfl
  obtain ⟨n, x, y, a, rfl, ha, q⟩ := h
  refine ⟨_, (pss_one (ps_ret (pe_tup (pa_cons pe_str (pa_cons (pv 0) (pa_cons (pe_ix ix_tup (pv 1) pe_int (fun _ _ => rfl)) (pa_cons (pe_ix ix_tup (pv 1) pe_int (fun _ _ => rfl)) pa_nil))))))), ?_⟩
  exact ⟨_, rfl, _, rfl, a, _, _, _, rfl, rfl, SqT.of ha, rfl, _, rfl, a, _, _, _, rfl, rfl, SqT.of ha, rfl, by show 4 ≤ sizeLine; decide, fun t ht => q t ht⟩
end
end WX
/-! ## WP12 -/
set_option Elab.async false
set_option linter.all false
set_option maxRecDepth 100000
set_option maxHeartbeats 2000000
/-! run_noting, run_module, trace_module. -/
namespace WX
open PySem PySem.Spec PyProof.Rows L2 He
open Wn (Op Ar Ins Rg Un Mod G Out Nx Word wordB exact val StOk EnvOk InsOk OpOk step1 ModOk UnOk comp mu setAll push pop back NxOk Pot Keeps)
local macro_rules | `(tactic| walk_at "new") => `(tactic| (intro p hp; generalize hG : upd _ p _ = H5; obtain ⟨s5, h5⟩ := gnew hG hp; clear hG))
/-- a try with two plain clauses and a named one -/
theorem ps_try3 {X : Cx} {body suite1 suite2 suite3 : List Stmt} {b1 b2 b3 : Stmt} {test1 test2 test3 : Expr} {n : Str} {i : Nat} {pos p1 p2 p3 : Pos} {Wout : WX} {m1 m2 m3 : Value → Bool → Prop} {tb : WX → List (Addr × Obj) → (Value → Shared → Prop) → TS}
    {ts1 ts2 : Addr → Obj → Value → Option Addr → List (Addr × Obj) → TS} {ts3 : Addr → Obj → Value → Option Addr → Addr → List (Addr × Obj) → TS}
    (hs : X.stack = X.env :: X.outer) (hf : X.env.frame = some X.env.locals) (hex : X.ex = []) (hN : X.N.Nodup) (hi : X.N[i]? = some n) (hln : X.env.kindOf n = some .local) (tk : Takes X Wout)
    (ht1 : ∀ cls b, m1 cls b → TestOk X test1 cls b) (ht2 : ∀ cls b, m2 cls b → TestOk X test2 cls b) (ht3 : ∀ cls b, m3 cls b → TestOk X test3 cls b)
    (hb : ∀ (W : WX) (pn : List (Addr × Obj)) (xe : Value → Shared → Prop), Takes (X.tr pn xe) W → PSs (X.tr pn xe) body (tb W pn xe))
    (hsu1 : ∀ (a : Addr) (oe : Obj) (cls : Value) (d : Option Addr) (pn : List (Addr × Obj)), PSs (X.suite a ((a, oe) :: pn)) (b1 :: suite1) (ts1 a oe cls d pn))
    (hsu2 : ∀ (a : Addr) (oe : Obj) (cls : Value) (d : Option Addr) (pn : List (Addr × Obj)), PSs (X.suite a ((a, oe) :: pn)) (b2 :: suite2) (ts2 a oe cls d pn))
    (hsu3 : ∀ (a : Addr) (oe : Obj) (cls : Value) (d : Option Addr) (T : Addr) (pn : List (Addr × Obj)), Zc cls d oe → (∃ vs, oe.data = .fields vs) → Hot2 (X.A.mark (some (.ref a))) ((a, oe) :: pn) →
      (∀ (Wb : L2.St → Hp → Prop) (pos : Pos), PS (suiteR X a ((a, oe) :: pn) (xR X a T ((a, oe) :: pn) Wb)) (.Raise none none pos) (tBare Wb)) →
      PSs (suiteR X a ((a, oe) :: pn) (xR X a T ((a, oe) :: pn) (WB i Wout cls d))) (b3 :: suite3) (ts3 a oe cls d T pn)) :
    PS X (.Try body [.ExceptHandler (some test1) none (b1 :: suite1) p1, .ExceptHandler (some test2) none (b2 :: suite2) p2, .ExceptHandler (some test3) (some n) (b3 :: suite3) p3] [] [] pos) (fun D σ H => ∀ pn xe, tb (fun cls d σ H =>
      ∃ c1, m1 cls c1 ∧ (c1 = true → ∀ a, H a = none → ∀ oe pn, ts1 a oe cls d pn D σ H) ∧ (c1 = false → ∃ c2, m2 cls c2 ∧ (c2 = true → ∀ a, H a = none → ∀ oe pn, ts2 a oe cls d pn D σ H) ∧
        (c2 = false → wR i m3 (fun a cls d D σ H => ∀ oe T pn, ts3 a oe cls d T pn D σ H) Wout D cls d σ H))) pn xe D σ H) :=
  ps_tryX (tb := fun W D σ H => ∀ pn xe, tb W pn xe D σ H) (WD := fun D cls d σ H => ∃ c1, m1 cls c1 ∧ (c1 = true → ∀ a, H a = none → ∀ oe pn, ts1 a oe cls d pn D σ H) ∧ (c1 = false → ∃ c2, m2 cls c2 ∧ (c2 = true → ∀ a, H a = none → ∀ oe pn, ts2 a oe cls d pn D σ H) ∧
        (c2 = false → wR i m3 (fun a cls d D σ H => ∀ oe T pn, ts3 a oe cls d T pn D σ H) Wout D cls d σ H))) hs hf
    (fun W pn xe tk => ⟨fun pins s σ H D I h => (hb W pn xe tk).run pins s σ H D I (h pn xe)⟩)
    fun pins a B sI s' σ H cls d c D ok L cx w => by
      obtain ⟨c1, hm1, hy1, hn1⟩ := w
      refine handleU (ts := fun a cls d D σ H => ∀ oe pn, ts1 a oe cls d pn D σ H) hs hf ht1 (fun a oe cls d pn => ⟨fun pins s σ H D I h => (hsu1 a oe cls d pn).run pins s σ H D I (h oe pn)⟩) ok L hm1 hy1 fun e1 s2 L2' => ?_
      obtain ⟨c2, hm2, hy2, hn2⟩ := hn1 e1
      refine handleU (ts := fun a cls d D σ H => ∀ oe pn, ts2 a oe cls d pn D σ H) hs hf ht2 (fun a oe cls d pn => ⟨fun pins s σ H D I h => (hsu2 a oe cls d pn).run pins s σ H D I (h oe pn)⟩) ok L2' hm2 hy2 fun e2 s3 L3 => ?_
      exact handleR (ts := fun a cls d D σ H => ∀ oe T pn, ts3 a oe cls d T pn D σ H) hs hf hex hN hi hln tk ht3
        (fun a oe cls d T pn hz hv hot bare => ⟨fun pins s σ H D I h => (hsu3 a oe cls d T pn hz hv hot bare).run pins s σ H D I (h oe T pn)⟩) ok L3 cx (hn2 e2)
theorem takes_no {X : Cx} : Takes X (fun _ _ _ _ => False) := fun u s' ⟨_, _, _, _, _, _, _, _, _, _, A⟩ => A.w.elim
/-! ### what the whole run is -/
def g0 (U : Un) (fuel : Nat) : G := { fuel := fuel, taken := 0, evs := [], seen := [], cs := [List.replicate U.cells 0] }
def endL (nms : List Str) (pls : List (Int × Int)) : Out → List V
  | .ret _ => [.str "normal"]
  | .exh => [.str "exhausted"]
  | .fault => [.str "fault"]
  | .exc k q => [.str "raised", .str (nms.getD k ""), .int (pls.getD q (0, 0)).1, .int (pls.getD q (0, 0)).2]
/-- the mirror's run of a module -/
structure Whole (m : Mod) (ins : List Int) (fuel : Nat) (o : Out) (g : G) : Prop where
  run : ∃ U, m[0]? = some U ∧ Wn.run ⟨m, ins⟩ 50000 0 [0] 0 (g0 U fuel) (List.replicate U.regs 0) = some (o, g)
structure Noted (K : PySem.W.Frag) (H : Hp) (ea pa sn : Addr) (nms : List Str) (pls : List (Int × Int)) (lim : Nat) (o : Out) (g : G) : Prop where
  ev : ∃ l, H ea = some (.tup l) ∧ All2 (evV H) l g.evs
  en : SqT K H pa (endL nms pls o)
  sn : ∃ l, H sn = some (.lst l) ∧ All2 (snV H) l (g.seen.take lim)
def spNoting (K : PySem.W.Frag) : Sp := fun vs H Q _ => ∃ (mo inp : Addr) (fuel lim : Nat) (m : Mod) (ins : List Int) (nms : List Str) (pls : List (Int × Int)) (o : Out) (g : G), vs = [.ref mo, .ref inp, .int fuel, .int lim] ∧ moV K H mo m nms pls ∧ H inp = some (.lst (ins.map V.int)) ∧
  EnvOk ⟨m, ins⟩ ∧ fuel ≤ 100 ∧ lim ≤ 1000 ∧ Whole m ins fuel o g ∧ ∀ H' t ea pa sn, Stp S0 H H' → H' t = some (.tup [.ref ea, .ref pa, .ref sn]) → Noted K H' ea pa sn nms pls lim o g → Q (.ref t) H'
section
variable {P : Program} {w : World} {K : PySem.W.Frag} {mg : Str → Option Value} {base : Heap}
theorem ok_noting (T : Txt w K mg) : Def P w K mg base CX0 60 "run_noting" ["module", "inputs", "fuel", "limit"] (spNoting K) := by
  have G_run_frame := ok_RF (P := P) (base := base) T 10
  have I_CodeRun := ok_iniRun (P := P) (base := base) T
  have I_Frame := ok_iniFr (P := P) (base := base) T
  obtain ⟨fdR, bR, kR, FR⟩ := ok_raised (P := P) (base := base) T
  obtain ⟨pp, pg, pfd, hpp, hpb, hpF⟩ := ok_rows (P := P) (base := base) T
  refine D_run_noting T (k := 59) (fun vs H Q E h => ?_) (fun cdv A outer s H vs Q E hr h => ?_)
  · obtain ⟨mo, inp, fuel, lim, m, ins, nms, pls, o, g, rfl, _⟩ := h
    rfl
  obtain ⟨mo, inp, fuel, lim, m, ins, nms, pls, o, g, rfl, hmo, hin, hE, hf, hl, ⟨U, hU, hrun⟩, q⟩ := h
  refine ⟨_, (pss_cons (ps_set (i := 4) sc_run_noting.nd rfl (Or.inl rfl) (pe_makeD I_CodeRun (mk_CodeRun T) (g_CodeRun T) hr (by omega) rfl pass0 (pa_cons (pv 0) (pa_cons (pv 1) (pa_cons (pv 2) (pa_cons (pv 3) pa_nil)))))) (pss_cons (ps_set (i := 5) sc_run_noting.nd rfl (Or.inl rfl) (pe_glob (v := .ref (ga K "NORMAL")) rfl (g_NORMAL T) rfl)) (pss_cons (ps_try3 (i := 6) (m1 := fun c b => PySem.W.exmOne K c (.ref (ga K "OutOfFuel")) = some b) (m2 := fun c b => PySem.W.exmOne K c (.ref (ga K "CodeFault")) = some b) (m3 := fun c b => PySem.W.exmOne K c (.ref (ga K "CodeRaised")) = some b) rfl rfl rfl sc_run_noting.nd rfl rfl takes_no (fun cls b hm => test_name ⟨rfl, rfl, .inl (g_OutOfFuel T)⟩ hm) (fun cls b hm => test_name ⟨rfl, rfl, .inl (g_CodeFault T)⟩ hm) (fun cls b hm => test_name ⟨rfl, rfl, .inl (g_CodeRaised T)⟩ hm) (fun W pn xe tk => (pss_one (ps_expr (pe_callDS G_run_frame hr (by omega) rfl (fun σ => passAt tk σ) (pa_cons (pv 4) (pa_cons (pe_makeD I_Frame (mk_Frame T) (g_Frame T) hr (by omega) rfl pass0 (pa_cons pe_int (pa_cons (pe_ix ix_tup (pe_fld (pv 0) rfl) pe_int (fun _ _ => rfl)) (pa_cons pe_non (pa_cons pe_int pa_nil))))) pa_nil)))))) (fun a oe cls d2 pn => pss_one (ps_set (i := 5) sc_run_noting.nd rfl (Or.inl rfl) (pe_glob (v := .ref (ga K "EXHAUSTED")) rfl (g_EXHAUSTED T) rfl))) (fun a oe cls d2 pn => pss_one (ps_set (i := 5) sc_run_noting.nd rfl (Or.inl rfl) (pe_glob (v := .ref (ga K "FAULT")) rfl (g_FAULT T) rfl))) (fun a oe cls d2 T2 pn hz hv hot bare => pss_one (ps_set (i := 5) sc_run_noting.nd rfl (Or.inl rfl) (pe_callC FR (L2H.RoomH.mono (L2H.roomH_mark hr _) (by omega)) hot rfl (g_raised T) kR bR (pa_cons (pe_ix ix_tup (pe_fld (pv 0) rfl) (PE.nox (pe_xf T.xf T.on.1 hz hv (pv 6))) (fun _ _ => rfl)) (pa_cons (pe_ix ix_tup (pe_fld (pv 0) rfl) (PE.nox (pe_xf T.xf T.on.2 hz hv (pv 6))) (fun _ _ => rfl)) pa_nil)))))) (pss_one (ps_ret (pe_tup (pa_cons (pe_prop (pe_fld (pv 4) rfl) (cl_Events T) hpp hpF (hr.mono (by omega)) hpb .nil pass0 rfl) (pa_cons (pv 5) (pa_cons (pe_fld (pv 4) rfl) pa_nil))))))))), ?_⟩
  refine ⟨_, rfl, _, rfl, _, rfl, _, rfl, fun a dx ha hdx hne => ?_⟩
  have nx0 : upd H dx (.own a) a = none := by rw [upd_ne (Ne.symm hne)]; exact ha
  have ta : Stp S0 H (upd (upd H dx (.own a)) a (.ins (ga K "CodeRun") dx [])) := (Stp.new hdx).trans (Stp.new nx0)
  refine ⟨a, dx, mo, inp, fuel, lim, _, rfl, upd_same, ta.at hin fun z => z.elim, fun D H1 e1 e2 e3 e4 B => ⟨rfl, ?_⟩⟩
  subst e1 e2 e3 e4
  have nrH : New H D.run := .of ha
  have t1 : Stp S0 H H1 := (ta.z.trans B.st).s0 fun b z => by rw [show b = D.run from z]; exact nrH
  obtain ⟨mx, mfs, mt, mn, mp, mus, mps, M⟩ := hmo.st t1
  obtain ⟨vU, hvU, hU2⟩ := M.un.get hU
  obtain ⟨ua, ux, ufs, uc, urg, ucs, urs, rfl, un⟩ := hU2
  have UO := hE.m.un 0 U hU
  have hr100 := UO.regs
  have hc100 := UO.cells
  -- the end, from a heap on
  have fin : ∀ (H5 : Hp) (pa : Addr) (g' : G), Lite K H5 D ins g' → g' = g → Stp S0 H H5 → SqT K H5 pa (endL nms pls o) →
      tRet (tTup (tCons (tProp (ga K "Events") (spRows K) [] E0 (tFld K (tVar 4) "events")) (tCons (tVar 5) (tCons (tFld K (tVar 4) "seen") tNil)))) { nx := fun _ H' => Q .non H', rt := Q } [some (.ref D.mo), some (.ref inp), some (.int fuel), some (.int D.lim), some (.ref D.run), some (.ref pa), none] H5 := by
    rintro H5 pa g' l rfl st hpa
    obtain ⟨lm, hm1, hm2⟩ := l.md
    obtain ⟨ls, hs1, hs2⟩ := l.sn
    refine ⟨_, rfl, _, _, _, _, _, rfl, l.run, cl_CodeRun T, na_CodeRun_events T, rfl, _, _, _, rfl, l.ev, D.ev, D.evx, D.md, _, lm, rfl, l.ev, rfl, hm1, ?_⟩
    walk_at "new"; rename_i t1 nt1 H6 s6 h6
    refine ⟨_, rfl, _, rfl, _, _, _, _, _, rfl, s6.at l.run fun z => z.elim, cl_CodeRun T, na_CodeRun_seen T, rfl, by show 3 ≤ sizeLine; decide, ?_⟩
    walk_at "new"; rename_i t2 nt2 H7 s7 h7
    have s67 := s6.trans s7
    refine q H7 t2 t1 pa D.sn (st.trans s67) h7 ⟨⟨lm, s7.at h6 fun z => z.elim, hm2.mono fun _ _ z => z.st s67⟩, ?_, ⟨ls, s67.at hs1 fun z => z.elim, hs2.mono fun _ _ z => z.st s67⟩⟩
    rcases hpa with z | z
    · rcases z with z | ⟨ow, z⟩
      · exact .inl (.inl (s67.tup z))
      · exact .inl (.inr ⟨ow, s67.at z fun y => y.elim⟩)
    · exact .inr z
  intro pn xe
  refine ⟨_, rfl, _, rfl, _, _, _, _, _, rfl, M.at_, cl_Module T, na_Module_units T, M.units, mt, _, _, _, rfl, rfl, SqT.of M.unA, atI_nat (j := 0) hvU, fun x fx hx hfx hne2 => ?_⟩
  have nx1 : upd H1 fx (.own x) x = none := by rw [upd_ne (Ne.symm hne2)]; exact hx
  have tb : Stp S0 H1 (upd (upd H1 fx (.own x)) x (.ins (ga K "Frame") fx [])) := (Stp.new hfx).trans (Stp.new nx1)
  refine ⟨x, fx, ua, ux, _, .non, 0, U.regs, U.cells, ufs, rfl, upd_same, tb.at un.at_ fun z => z.elim, un.regs, un.cells, by omega, by omega, fun ra ca H2 nra nca nrc tc hfr hra hca => ⟨rfl, ?_⟩⟩
  have nxx : New H1 x := .of hx
  have t2 : Stp S0 H1 H2 := (tb.z.trans tc).s0 fun b z => by rw [show b = x from z]; exact nxx
  have nra1 : New H1 ra := nra.back tb
  have nca1 : New H1 ca := nca.back tb
  have t02 := t1.trans t2
  obtain ⟨Um, hUm, hpar⟩ := hE.m.main
  have hUm' : m[0]? = some Um := hUm
  rw [hU] at hUm'
  cases hUm'
  have okS : StOk ⟨m, ins⟩ 0 [0] (g0 U fuel) (List.replicate U.regs 0) := by
    refine ⟨⟨U, hU, List.length_replicate⟩, Wn.words_rep _, fun c hc => ?_, ?_, by show 1 ≤ 10; decide⟩
    · rw [List.mem_singleton.mp hc]
      exact Wn.words_rep _
    · refine ⟨U, hU, ?_, ?_⟩
      · show (some (List.replicate U.cells (0 : Int)).length : Option Nat) = some U.cells
        rw [List.length_replicate]
      · rw [if_pos hpar]
  have mu0 := Wn.mu_start UO fuel
  obtain ⟨o2, hrun2, OO⟩ := Wn.run_ok hE 50000 0 0 [0] (g0 U fuel) _ U okS hU (List.getElem?_eq_some_iff.mp UO.tick).1 (by show mu U fuel 0 < 50000; rw [mu0]; omega)
  rw [hrun] at hrun2
  cases hrun2
  have B2 := fun {b : Addr} {u : HO} (e : H1 b = some u) (w : ours u) => t2.at e (fun z => z.elim) w
  have SC : Sit K H2 { e := ⟨m, ins⟩, D := D, g := g0 U fuel, cas := [ca], ra := ra, rs := List.replicate U.regs 0, fa := x, fx := fx, ua := ua, ca := ca, par := .non, u := 0, i0 := 0, r := [], U := U, nms := nms, pls := pls } := by
    refine ⟨⟨⟨B2 B.run trivial, B2 B.ev trivial, B2 B.fu trivial, B2 B.inp trivial, ⟨[], B2 B.md trivial, All2.nil⟩, ⟨[], B2 B.sn trivial, by show All2 _ [] (List.take D.lim []); rw [List.take_nil]; exact All2.nil⟩, Nat.zero_le _⟩, All2.cons hca All2.nil, hra, ?_⟩, hfr, rfl, trivial, okS, hU, ⟨ux, ufs, uc, urg, ucs, urs, un.st t2⟩, ⟨mx, mfs, mt, mn, mp, mus, mps, M.st t2⟩, hE, rfl, hl, Nat.le_refl _⟩
    have nd := B.nd
    simp only [List.nodup_cons, List.mem_cons, List.not_mem_nil, or_false, not_or, not_false_eq_true, List.nodup_nil, and_true] at nd ⊢
    obtain ⟨⟨n1, n2⟩, n3⟩ := nd
    exact ⟨⟨n1, n2, nra1.ne B.md, nca1.ne B.md⟩, ⟨n3, nra1.ne B.sn, nca1.ne B.sn⟩, ⟨nra1.ne B.inp, nca1.ne B.inp⟩, nrc⟩
  have cross : ∀ {H5 : Hp}, Stp (Chg D [ca] ra) H2 H5 → Stp S0 H H5 := fun {H5} st => by
    refine (t02.z.trans st).s0 fun b z => ?_
    obtain ⟨w1, w2, w3, w4, w5⟩ := B.new
    have bk : ∀ {b : Addr}, New (upd (upd H D.rdx (.own D.run)) D.run (.ins (ga K "CodeRun") D.rdx [])) b → New H b := fun n => n.back ta
    rcases z with z | z | z | z | z | z
    · rw [z]; exact bk w4
    · rw [z]; exact bk w5
    · rw [z]; exact bk w1
    · rw [z]; exact bk w2
    · rw [z]; exact nra1.back t1
    · rw [List.mem_singleton.mp z]; exact nca1.back t1
  refine ⟨_, 50000, (o, g), rfl, SC, by show 10 ≤ 1 + 9; decide, by show 0 + 256 * fuel ≤ 100000; omega, by show 256 * fuel < 50000; omega, hrun, ?_⟩
  cases o with
  | ret ws =>
    intro H5 p5 st lt cl np hp
    exact fin H5 (ga K "NORMAL") g lt rfl (cross st) (tupB_ok T.tn H5)
  | exh =>
    intro H5 st lt
    exact ⟨true, T.em "OutOfFuel" "OutOfFuel" true (by decide +kernel), fun _ a5 ha5 oe pn2 => fin H5 (ga K "EXHAUSTED") g lt rfl (cross st) (tupB_ok T.te H5), (fun z => nomatch z)⟩
  | fault =>
    intro H5 st lt
    exact ⟨false, T.em "CodeFault" "OutOfFuel" false (by decide +kernel), (fun z => nomatch z), fun _ => ⟨true, T.em "CodeFault" "CodeFault" true (by decide +kernel), fun _ a5 ha5 oe pn2 => fin H5 (ga K "FAULT") g lt rfl (cross st) (tupB_ok T.tf H5), (fun z => nomatch z)⟩⟩
  | exc k pl =>
    intro H5 dd st lt cl hdd
    obtain ⟨hk5, hp5, _⟩ := OO
    refine ⟨false, T.em "CodeRaised" "OutOfFuel" false (by decide +kernel), (fun z => nomatch z), fun _ => ⟨false, T.em "CodeRaised" "CodeFault" false (by decide +kernel), (fun z => nomatch z), fun _ => ⟨true, T.em "CodeRaised" "CodeRaised" true (by decide +kernel), fun _ a5 Hs ha5 less oe T2 pn2 => ?_, (fun z => nomatch z)⟩⟩⟩
    have tl := less_st less
    have s5 := cross st
    have M5 := ((M.st t2).st st).st tl
    have hdd5 : Hs dd = some (.xd [("place", .int pl), ("number", .int k)]) := tl.at hdd fun z => z.elim
    have hnm : (nms.map V.str)[k]? = some (.str (nms.getD k "")) := by
      have : k < nms.length := by rw [M5.n5]; exact hk5
      rw [List.getElem?_map, List.getElem?_eq_getElem this, List.getD_eq_getElem?_getD, List.getElem?_eq_getElem this]
      rfl
    have hpl : pls[pl]? = some (pls.getD pl (0, 0)) := by
      have : pl < pls.length := by rw [M5.p5]; exact hp5
      rw [List.getElem?_eq_getElem this, List.getD_eq_getElem?_getD, List.getElem?_eq_getElem this]
      rfl
    obtain ⟨vp, hvp, pla, rfl, hpla⟩ := M5.pl.get hpl
    refine ⟨_, rfl, _, _, _, _, _, rfl, M5.at_, cl_Module T, na_Module_names T, M5.names, _, rfl, rfl, rfl, dd, _, _, rfl, hdd5, rfl, mn, _, _, _, rfl, rfl, SqT.of M5.naA, atI_nat hnm, ?_⟩
    refine ⟨_, rfl, _, _, _, _, _, rfl, M5.at_, cl_Module T, na_Module_places T, M5.places, _, rfl, rfl, rfl, dd, _, _, rfl, hdd5, rfl, mp, _, _, _, rfl, rfl, SqT.of M5.plA, atI_nat hvp, ?_⟩
    refine ⟨_, _, _, pla, rfl, hpla, fun t6 ht6 => ?_⟩
    exact fin _ t6 g ((lt.st tl).st (Stp.new ht6)) rfl ((s5.trans tl).trans (Stp.new ht6)) (SqT.of upd_same)
end
end WX
/-! ## WP13 -/
set_option Elab.async false
set_option linter.all false
set_option maxRecDepth 100000
set_option maxHeartbeats 2000000
/-! run_module, trace_module: parameters by keyword. -/
namespace WX
open PySem PySem.Spec PyProof.Rows L2 He
open Wn (Op Ar Ins Rg Un Mod G Out Nx Word wordB exact val StOk EnvOk InsOk OpOk step1 ModOk UnOk comp mu setAll push pop back NxOk Pot Keeps)
local macro_rules | `(tactic| walk_at "new") => `(tactic| (intro p hp; generalize hG : upd _ p _ = H5; obtain ⟨s5, h5⟩ := gnew hG hp; clear hG))
/-- a def with parameters by keyword -/
structure KDef (P : Program) (w : World) (K : PySem.W.Frag) (mg : Str → Option Value) (base : Heap) (CX : CXT) (k : Nat) (x : Str) (ps : List Str) (n : Nat) (ks : List Str) (sp : Sp) : Prop where
  ex : ∃ f fd, mg x = some (.ref f) ∧ PySem.W.keepIn K (.ref f) = true ∧ KBn K fd ps n ks (fun us ws => us ++ ws) (fun vs zs => vs ++ zs) ∧ FnOk P w K mg base CX k f fd ps sp
theorem pe_callKD {X : Cx} {CX : CXT} {j k n : Nat} {x : Str} {ps ks : List Str} {sp : Sp} {E : XK} {p pos : Pos} {e : Expr} {es : List Expr} {kws : List Keyword} {t tk : TA} (D : KDef X.prog X.w X.K X.mg X.base CX j x ps n ks sp) (hr : Room k X.A) (hk : j ≤ k) (hg : Gl X x) (hx : Passes CX X E)
    (ha : PA X (e :: es) t) (hkw : PK X kws tk) (hall : (backToKw pos (keywordEach kws X.env)).all (·.1.isSome) = true := by rfl) (hks : (backToKw pos (keywordEach kws X.env)).filterMap (·.1) = ks := by rfl)
    (hdb : (x == ("__debug__" : Str)) = false := by decide) (he : starEach (e :: es) X.env = (false, eval e X.env) :: starEach es X.env := by rfl)
    (hpl : ((backTo pos (starEach (e :: es) X.env)).any (·.1) || (backToKw pos (keywordEach kws X.env)).any (·.1.isNone)) = false := by rfl) :
    PE X (.Call (.Name x p) (e :: es) kws pos) (tCallN n ks.length sp (fun vs zs => vs ++ zs) E t tk) := by
  obtain ⟨f, fd, h1, h2, h3, F⟩ := D.ex
  exact pe_callN F (hr.mono hk) hg h1 h2 h3 hx ha hkw hall hks hdb he hpl
def spRunMod (K : PySem.W.Frag) : Sp := fun vs H Q _ => ∃ (mo inp : Addr) (fuel : Nat) (m : Mod) (ins : List Int) (nms : List Str) (pls : List (Int × Int)) (o : Out) (g : G), vs = [.ref mo, .ref inp, .int fuel] ∧ moV K H mo m nms pls ∧ H inp = some (.lst (ins.map V.int)) ∧
  EnvOk ⟨m, ins⟩ ∧ fuel ≤ 100 ∧ Whole m ins fuel o g ∧ ∀ H' t ea pa, Stp S0 H H' → H' t = some (.tup [.ref ea, .ref pa]) → (∃ l, H' ea = some (.tup l) ∧ All2 (evV H') l g.evs) → SqT K H' pa (endL nms pls o) → Q (.ref t) H'
def spTrace (K : PySem.W.Frag) : Sp := fun vs H Q _ => ∃ (mo inp : Addr) (fuel lim : Nat) (m : Mod) (ins : List Int) (nms : List Str) (pls : List (Int × Int)) (o : Out) (g : G), vs = [.ref mo, .ref inp, .int fuel, .int lim] ∧ moV K H mo m nms pls ∧ H inp = some (.lst (ins.map V.int)) ∧
  EnvOk ⟨m, ins⟩ ∧ fuel ≤ 100 ∧ lim ≤ 1000 ∧ Whole m ins fuel o g ∧ ∀ H' sn, Stp S0 H H' → (∃ l, H' sn = some (.lst l) ∧ All2 (snV H') l (g.seen.take lim)) → Q (.ref sn) H'
theorem SqT.st {K : PySem.W.Frag} {H H' : Hp} {a : Addr} {xs : List V} (h : SqT K H a xs) (s : Stp S0 H H') : SqT K H' a xs := by
  rcases h with (z | ⟨ow, z⟩) | z
  · exact .inl (.inl (s.tup z))
  · exact .inl (.inr ⟨ow, s.at z fun y => y.elim⟩)
  · exact .inr z
section
variable {P : Program} {w : World} {K : PySem.W.Frag} {mg : Str → Option Value} {base : Heap}
theorem ok_runmod (T : Txt w K mg) : KDef P w K mg base CX0 61 "run_module" ["module", "inputs", "fuel"] 2 ["fuel"] (spRunMod K) := by
  have G_run_noting := ok_noting (P := P) (base := base) T
  obtain ⟨fd, F⟩ := F_run_module T
  refine ⟨_, fd, g_run_module T, F.kp, ?_, F.ok sc_run_module (fun vs H Q E h => ?_) (fun cdv A outer s H vs Q E hr h => ?_)⟩
  · obtain ⟨oc, od, dV, kV, doc, pm, an, cdv, ct, osl, rfl, lk, hcd, hD, hK⟩ := F.ex
    rcases hD with ⟨_, rfl⟩ | ⟨e, _⟩
    · refine ⟨fun s us ws X l1 l2 => ?_, fun r1 r2 => r1.append r2⟩
      match us, ws, l1, l2 with
      | [u1, u2], [w1], _, _ => exact .of_eq rfl
    · exact absurd rfl e
  · obtain ⟨mo, inp, fuel, m, ins, nms, pls, o, g, rfl, _⟩ := h
    rfl
  obtain ⟨mo, inp, fuel, m, ins, nms, pls, o, g, rfl, hmo, hin, hE, hf, hw, q⟩ := h
  refine ⟨_, (pss_cons (ps_asg (pe_callD G_run_noting hr (by omega) rfl pass0 (pa_cons (pv 0) (pa_cons (pv 1) (pa_cons (pv 2) (pa_cons pe_int pa_nil))))) (pg_tup rfl (pgs_cons (pg_name (i := 3) sc_run_module.nd rfl (Or.inl rfl)) (pgs_cons (pg_name (i := 4) sc_run_module.nd rfl (Or.inl rfl)) (pgs_cons (pg_name (i := 5) sc_run_module.nd rfl (Or.inl rfl)) pgs_nil))))) (pss_one (ps_ret (pe_tup (pa_cons (pv 3) (pa_cons (pv 4) pa_nil)))))), ?_⟩
  refine ⟨_, rfl, _, rfl, _, rfl, mo, inp, fuel, 0, m, ins, nms, pls, o, g, rfl, hmo, hin, hE, hf, Nat.zero_le _, hw, fun H1 t ea pa sn st ht N => ?_⟩
  refine ⟨t, _, rfl, SqT.of ht, rfl, _, _, rfl, _, _, rfl, _, _, rfl, rfl, ?_⟩
  refine ⟨_, rfl, _, rfl, by show 2 ≤ sizeLine; decide, ?_⟩
  walk_at "new"; rename_i t2 nt2 H2 s2 h2
  obtain ⟨l, e1, e2⟩ := N.ev
  exact q H2 t2 ea pa (st.trans s2) h2 ⟨l, s2.at e1 fun z => z.elim, e2.mono fun _ _ z => z.st s2⟩ (SqT.st N.en s2)
theorem ok_trace (T : Txt w K mg) : KDef P w K mg base CX0 61 "trace_module" ["module", "inputs", "fuel", "limit"] 2 ["fuel", "limit"] (spTrace K) := by
  have G_run_noting := ok_noting (P := P) (base := base) T
  obtain ⟨fd, F⟩ := F_trace_module T
  refine ⟨_, fd, g_trace_module T, F.kp, ?_, F.ok sc_trace_module (fun vs H Q E h => ?_) (fun cdv A outer s H vs Q E hr h => ?_)⟩
  · obtain ⟨oc, od, dV, kV, doc, pm, an, cdv, ct, osl, rfl, lk, hcd, hD, hK⟩ := F.ex
    rcases hD with ⟨_, rfl⟩ | ⟨e, _⟩
    · refine ⟨fun s us ws X l1 l2 => ?_, fun r1 r2 => r1.append r2⟩
      match us, ws, l1, l2 with
      | [u1, u2], [w1, w2], _, _ => exact .of_eq rfl
    · exact absurd rfl e
  · obtain ⟨mo, inp, fuel, lim, m, ins, nms, pls, o, g, rfl, _⟩ := h
    rfl
  obtain ⟨mo, inp, fuel, lim, m, ins, nms, pls, o, g, rfl, hmo, hin, hE, hf, hl, hw, q⟩ := h
  refine ⟨_, (pss_one (ps_ret (pe_ix ix_tup (pe_callD G_run_noting hr (by omega) rfl pass0 (pa_cons (pv 0) (pa_cons (pv 1) (pa_cons (pv 2) (pa_cons (pv 3) pa_nil))))) pe_int (fun _ _ => rfl)))), ?_⟩
  refine ⟨_, rfl, _, rfl, _, rfl, _, rfl, mo, inp, fuel, lim, m, ins, nms, pls, o, g, rfl, hmo, hin, hE, hf, hl, hw, fun H1 t ea pa sn st ht N => ?_⟩
  exact ⟨t, _, _, _, rfl, rfl, SqT.of ht, rfl, q H1 sn st N.sn⟩
end
end WX
/-! ## WL1 -/
set_option Elab.async false
set_option linter.all false
set_option maxRecDepth 100000
set_option maxHeartbeats 2000000
/-! The law's own machine: how it lies in the heap. -/
namespace WX
open PySem PySem.Spec PyProof.Rows L2 He
open Wn (Op Ar Ins Rg Un Mod G Out Nx Word wordB exact val StOk EnvOk InsOk OpOk step1 ModOk UnOk comp mu setAll push pop back NxOk Pot Keeps)
local macro_rules | `(tactic| walk_at "new") => `(tactic| (intro p hp; generalize hG : upd _ p _ = H5; obtain ⟨s5, h5⟩ := gnew hG hp; clear hG))
structure LD where
  rh : Addr
  mo : Addr
  inp : Addr
  md : Addr
  sn : Addr
  lim : Nat
structure LV where
  fu : Int
  tk : Nat
  en : V
  ra : V
  dp : Int
def lrK (L : LD) (v : LV) : List (Key × V) := [(.inr "module", .ref L.mo), (.inr "inputs", .ref L.inp), (.inr "fuel", .int v.fu), (.inr "limit", .int L.lim), (.inr "seen", .ref L.sn), (.inr "events", .ref L.md), (.inr "taken", .int v.tk), (.inr "ending", v.en), (.inr "raised", v.ra), (.inr "depth", .int v.dp)]
def lfK (u : Nat) (par : V) (ca ra : Addr) : List (Key × V) := [(.inr "number", .int u), (.inr "parent", par), (.inr "cells", .ref ca), (.inr "registers", .ref ra)]
theorem lr_mo {L : LD} {v : LV} : valV (lrK L v) (.inr "module") = some (.ref L.mo) := rfl
theorem lr_inp {L : LD} {v : LV} : valV (lrK L v) (.inr "inputs") = some (.ref L.inp) := rfl
theorem lr_fu {L : LD} {v : LV} : valV (lrK L v) (.inr "fuel") = some (.int v.fu) := rfl
theorem lr_lim {L : LD} {v : LV} : valV (lrK L v) (.inr "limit") = some (.int L.lim) := rfl
theorem lr_sn {L : LD} {v : LV} : valV (lrK L v) (.inr "seen") = some (.ref L.sn) := rfl
theorem lr_md {L : LD} {v : LV} : valV (lrK L v) (.inr "events") = some (.ref L.md) := rfl
theorem lr_tk {L : LD} {v : LV} : valV (lrK L v) (.inr "taken") = some (.int v.tk) := rfl
theorem lr_en {L : LD} {v : LV} : valV (lrK L v) (.inr "ending") = some v.en := rfl
theorem lr_ra {L : LD} {v : LV} : valV (lrK L v) (.inr "raised") = some v.ra := rfl
theorem lr_dp {L : LD} {v : LV} : valV (lrK L v) (.inr "depth") = some (.int v.dp) := rfl
theorem lp_fu {L : LD} {v : LV} {x : Int} : putK (lrK L v) (.inr "fuel") (.int x) = lrK L { v with fu := x } := rfl
theorem lp_tk {L : LD} {v : LV} {x : Nat} : putK (lrK L v) (.inr "taken") (.int x) = lrK L { v with tk := x } := rfl
theorem lp_en {L : LD} {v : LV} {x : V} : putK (lrK L v) (.inr "ending") x = lrK L { v with en := x } := rfl
theorem lp_ra {L : LD} {v : LV} {x : V} : putK (lrK L v) (.inr "raised") x = lrK L { v with ra := x } := rfl
theorem lp_dp {L : LD} {v : LV} {x : Int} : putK (lrK L v) (.inr "depth") (.int x) = lrK L { v with dp := x } := rfl
theorem lf_nu {u : Nat} {par : V} {ca ra : Addr} : valV (lfK u par ca ra) (.inr "number") = some (.int u) := rfl
theorem lf_pa {u : Nat} {par : V} {ca ra : Addr} : valV (lfK u par ca ra) (.inr "parent") = some par := rfl
theorem lf_ca {u : Nat} {par : V} {ca ra : Addr} : valV (lfK u par ca ra) (.inr "cells") = some (.ref ca) := rfl
theorem lf_ra {u : Nat} {par : V} {ca ra : Addr} : valV (lfK u par ca ra) (.inr "registers") = some (.ref ra) := rfl
/-! ### the law's run -/
structure LLite (H : Hp) (L : LD) (ins : List Int) (g : G) (v : LV) : Prop where
  run : H L.rh = some (.dK (lrK L v))
  inp : H L.inp = some (.lst (ins.map V.int))
  md : ∃ l, H L.md = some (.lst l) ∧ All2 (evV H) l g.evs
  sn : ∃ l, H L.sn = some (.lst l) ∧ All2 (snV H) l (g.seen.take L.lim)
def gv (g : G) : LV := ⟨g.fuel, g.taken, .non, .non, g.cs.length⟩
structure LStA (H : Hp) (L : LD) (ins : List Int) (g : G) (cas : List Addr) (ra : Addr) (rs : List Int) : Prop where
  l : LLite H L ins g (gv g)
  c : All2 (cellV H) cas g.cs
  r : H ra = some (.lst (rs.map V.int))
  nd : (L.md :: L.sn :: L.inp :: ra :: cas).Nodup
  tk : g.taken ≤ ins.length
def LChg (L : LD) (cas : List Addr) (ra : Addr) : Addr → Prop := fun a => a = L.rh ∨ a = L.md ∨ a = L.sn ∨ a = ra ∨ a ∈ cas
structure LNds (L : LD) (cas : List Addr) (ra : Addr) : Prop where
  ms : L.md ≠ L.sn
  mi : L.md ≠ L.inp
  mr : L.md ≠ ra
  mc : ∀ c ∈ cas, L.md ≠ c
  si : L.sn ≠ L.inp
  sr : L.sn ≠ ra
  sc : ∀ c ∈ cas, L.sn ≠ c
  ir : L.inp ≠ ra
  ic : ∀ c ∈ cas, L.inp ≠ c
  rc : ∀ c ∈ cas, ra ≠ c
def lchV (H : Hp) (cas : List Addr) : V → List Nat → Prop
  | _, [] => True
  | v, i :: r => ∃ fa u ra ca par, v = .ref fa ∧ H fa = some (.dK (lfK u par ca ra)) ∧ cas[i]? = some ca ∧ lchV H cas par r
section
variable {S : Addr → Prop} {H H' : Hp} {L : LD} {ins : List Int} {g : G} {cas : List Addr} {ra : Addr} {rs : List Int} {v : LV}
theorem LStA.nds (s : LStA H L ins g cas ra rs) : LNds L cas ra := by
  have nd := s.nd
  simp only [List.nodup_cons, List.mem_cons, not_or] at nd
  obtain ⟨⟨n1, n2, n3, n4⟩, ⟨n5, n6, n7⟩, ⟨n8, n9⟩, n10, n11⟩ := nd
  exact ⟨n1, n2, n3, fun c h z => n4 (z ▸ h), n5, n6, fun c h z => n7 (z ▸ h), n8, fun c h z => n9 (z ▸ h), fun c h z => n10 (z ▸ h)⟩
theorem frz_lf {u : Nat} {par : V} {ca ra : Addr} : frz (.dK (lfK u par ca ra)) := rfl
theorem nfrz_lr : ¬ frz (.dK (lrK L v)) := fun z => by
  have z' : (10 : Nat) = 4 := z
  omega
theorem lchV.st (h : Stp S H H') : ∀ {ch : List Nat} {v : V}, lchV H cas v ch → lchV H' cas v ch
  | [], _, _ => trivial
  | i :: r, _, e => by
    obtain ⟨fa, u, ra, ca, par, rfl, e1, e2, e3⟩ := e
    exact ⟨fa, u, ra, ca, par, rfl, h.at e1 fun _ => frz_lf, e2, e3.st h⟩
theorem lchV.more (t : List Addr) : ∀ {ch : List Nat} {v : V}, lchV H cas v ch → lchV H (cas ++ t) v ch
  | [], _, _ => trivial
  | i :: r, _, e => by
    obtain ⟨fa, u, ra, ca, par, rfl, e1, e2, e3⟩ := e
    exact ⟨fa, u, ra, ca, par, rfl, e1, by rw [List.getElem?_append_left (List.getElem?_eq_some_iff.mp e2).1]; exact e2, e3.more t⟩
theorem LLite.st (h : Stp S0 H H') (l : LLite H L ins g v) : LLite H' L ins g v := by
  have f : ∀ {a : Addr} {o : HO} (e : H a = some o) (w : ours o := by exact True.intro), H' a = some o := fun e w => h.at e (fun z => z.elim) w
  obtain ⟨l1, m1, m2⟩ := l.md
  obtain ⟨l2, s1, s2⟩ := l.sn
  exact ⟨f l.run, f l.inp, ⟨l1, f m1, m2.mono fun _ _ z => z.st h⟩, ⟨l2, f s1, s2.mono fun _ _ z => z.st h⟩⟩
theorem LStA.st (h : Stp S0 H H') (l : LStA H L ins g cas ra rs) : LStA H' L ins g cas ra rs := by
  have f : ∀ {a : Addr} {o : HO} (e : H a = some o) (w : ours o := by exact True.intro), H' a = some o := fun e w => h.at e (fun z => z.elim) w
  exact ⟨l.l.st h, l.c.mono fun _ _ z => f z, f l.r, l.nd, l.tk⟩
/-- the dict's values change -/
theorem LLite.set (l : LLite H L ins g v) (v' : LV) : LLite (upd H L.rh (.dK (lrK L v'))) L ins g v' ∧ Stp (fun a => a = L.rh) H (upd H L.rh (.dK (lrK L v'))) := by
  obtain ⟨l1, m1, m2⟩ := l.md
  obtain ⟨l2, s1, s2⟩ := l.sn
  have st : Stp (fun a => a = L.rh) H (upd H L.rh (.dK (lrK L v'))) := Stp.put l.run rfl nfrz_lr
  have f : ∀ {a : Addr} {xs : List V} (e : H a = some (.lst xs)), upd H L.rh (.dK (lrK L v')) a = some (.lst xs) := fun {a xs} e => st.at e fun z => absurd z (ne_of e l.run (by intro z; cases z))
  exact ⟨⟨upd_same, f l.inp, ⟨l1, f m1, m2.mono fun _ _ z => z.st st⟩, ⟨l2, f s1, s2.mono fun _ _ z => z.st st⟩⟩, st⟩
theorem LStA.upto (s : LStA H L ins g cas ra rs) (st : Stp (fun a => a = L.rh) H H') {g' : G} (l : LLite H' L ins g' (gv g')) (hc : g'.cs = g.cs) (tk : g'.taken ≤ ins.length) : LStA H' L ins g' cas ra rs := by
  have f : ∀ {a : Addr} {xs : List V} (e : H a = some (.lst xs)), H' a = some (.lst xs) := fun {a xs} e => st.at e fun z => absurd z (ne_of e s.l.run (by intro z; cases z))
  exact ⟨l, by rw [hc]; exact s.c.mono fun _ _ z => f z, f s.r, s.nd, tk⟩
theorem LStA.ev (s : LStA H L ins g cas ra rs) {l : List V} (hl : H L.md = some (.lst l)) {t : Addr} (b : Bool) (x : Int) (ht : H t = none) :
    LStA (upd (upd H t (.tup [.str (if b = true then "put" else "get"), .int x])) L.md (.lst (l ++ [.ref t]))) L ins { g with evs := g.evs ++ [(b, x)] } cas ra rs ∧
      Stp (LChg L cas ra) H (upd (upd H t (.tup [.str (if b = true then "put" else "get"), .int x])) L.md (.lst (l ++ [.ref t]))) := by
  have N := s.nds
  obtain ⟨l', m1, m2⟩ := s.l.md
  rw [hl] at m1
  cases m1
  obtain ⟨l2, s1, s2⟩ := s.l.sn
  have st1 : Stp S0 H (upd H t (.tup [.str (if b = true then "put" else "get"), .int x])) := Stp.new ht
  have tm : L.md ≠ t := ne_of_none hl ht
  have hl' : upd H t (.tup [.str (if b = true then "put" else "get"), .int x]) L.md = some (.lst l) := by rw [upd_ne tm]; exact hl
  have st : Stp (fun a => a = L.md) H (upd (upd H t (.tup [.str (if b = true then "put" else "get"), .int x])) L.md (.lst (l ++ [.ref t]))) := st1.z.trans (Stp.put hl' rfl nfrz_lst)
  have f : ∀ {a : Addr} {o : HO}, (e : H a = some o) → (n : a ≠ L.md) → (w : ours o := by exact True.intro) → upd (upd H t (.tup [.str (if b = true then "put" else "get"), .int x])) L.md (.lst (l ++ [.ref t])) a = some o := fun {a o} e n w => st.at e (fun z => absurd z n) w
  refine ⟨⟨⟨f s.l.run (ne_of s.l.run hl (by intro z; cases z)), f s.l.inp (Ne.symm N.mi), ⟨_, upd_same, (m2.mono fun _ _ z => z.st st).snoc ⟨t, rfl, ?_⟩⟩, ⟨l2, f s1 (Ne.symm N.ms), s2.mono fun _ _ z => z.st st⟩⟩, ⟨s.c.1, fun i a c e1 e2 => f (s.c.2 i a c e1 e2) ?_⟩, f s.r (Ne.symm N.mr), s.nd, s.tk⟩, ?_⟩
  · rw [upd_ne (Ne.symm tm)]
    exact upd_same
  · exact fun z => N.mc a (List.mem_of_getElem? e1) z.symm
  · exact st.mono fun a z => .inr (.inl z)
theorem LStA.see (s : LStA H L ins g cas ra rs) {l : List V} (hl : H L.sn = some (.lst l)) {t b : Addr} (u i : Nat) (hb : H b = none) (ht : upd H b (.tup (rs.map V.int)) t = none) (hlim : l.length < L.lim) :
    LStA (upd (upd (upd H b (.tup (rs.map V.int))) t (.tup [.int u, .int i, .ref b])) L.sn (.lst (l ++ [.ref t]))) L ins (Wn.note g u i rs) cas ra rs ∧
      Stp (LChg L cas ra) H (upd (upd (upd H b (.tup (rs.map V.int))) t (.tup [.int u, .int i, .ref b])) L.sn (.lst (l ++ [.ref t]))) := by
  have N := s.nds
  obtain ⟨l', m1, m2⟩ := s.l.sn
  rw [hl] at m1
  cases m1
  obtain ⟨l2, s1, s2⟩ := s.l.md
  have nbs : L.sn ≠ b := ne_of_none hl hb
  have hl1 : upd H b (.tup (rs.map V.int)) L.sn = some (.lst l) := by rw [upd_ne nbs]; exact hl
  have nts : L.sn ≠ t := ne_of_none hl1 ht
  have hl2 : upd (upd H b (.tup (rs.map V.int))) t (.tup [.int u, .int i, .ref b]) L.sn = some (.lst l) := by rw [upd_ne nts]; exact hl1
  have nbt : b ≠ t := ne_of_none upd_same ht
  have st : Stp (fun a => a = L.sn) H (upd (upd (upd H b (.tup (rs.map V.int))) t (.tup [.int u, .int i, .ref b])) L.sn (.lst (l ++ [.ref t]))) := (Stp.new hb).trans ((Stp.new ht).trans (Stp.put hl2 rfl nfrz_lst))
  have f : ∀ {a : Addr} {o : HO}, (e : H a = some o) → (n : a ≠ L.sn) → (w : ours o := by exact True.intro) → upd (upd (upd H b (.tup (rs.map V.int))) t (.tup [.int u, .int i, .ref b])) L.sn (.lst (l ++ [.ref t])) a = some o := fun {a o} e n w => st.at e (fun z => absurd z n) w
  have hlen : (g.seen.take L.lim).length < L.lim := by rw [← m2.1]; exact hlim
  have e1 : g.seen.take L.lim = g.seen := by
    rw [List.length_take] at hlen
    exact List.take_of_length_le (by omega)
  have e2 : (Wn.note g u i rs).seen.take L.lim = g.seen.take L.lim ++ [(u, i, rs)] := by
    show (g.seen ++ [(u, i, rs)]).take L.lim = _
    rw [e1, List.take_of_length_le]
    rw [e1] at hlen
    simp only [List.length_append, List.length_singleton]
    omega
  refine ⟨⟨⟨f s.l.run (ne_of s.l.run hl (by intro z; cases z)), f s.l.inp (Ne.symm N.si), ⟨l2, f s1 N.ms, s2.mono fun _ _ z => z.st st⟩, ⟨_, upd_same, ?_⟩⟩, ⟨s.c.1, fun j a c e1 e2 => f (s.c.2 j a c e1 e2) ?_⟩, f s.r (Ne.symm N.sr), s.nd, s.tk⟩, st.mono fun a z => .inr (.inr (.inl z))⟩
  · rw [e2]
    refine (m2.mono fun _ _ z => z.st st).snoc ⟨t, b, rfl, ?_, ?_⟩
    · rw [upd_ne (Ne.symm nts)]
      exact upd_same
    · rw [upd_ne (Ne.symm nbs), upd_ne nbt]
      exact upd_same
  · exact fun z => N.sc a (List.mem_of_getElem? e1) z.symm
theorem LStA.see0 (s : LStA H L ins g cas ra rs) {l : List V} (hl : H L.sn = some (.lst l)) (u i : Nat) (hlim : ¬ l.length < L.lim) : LStA H L ins (Wn.note g u i rs) cas ra rs := by
  obtain ⟨l', m1, m2⟩ := s.l.sn
  rw [hl] at m1
  cases m1
  have h1 : L.lim ≤ (g.seen.take L.lim).length := by rw [← m2.1]; omega
  rw [List.length_take] at h1
  refine ⟨⟨s.l.run, s.l.inp, s.l.md, ⟨l, hl, ?_⟩⟩, s.c, s.r, s.nd, s.tk⟩
  have e2 : (Wn.note g u i rs).seen.take L.lim = g.seen.take L.lim := by
    show (g.seen ++ [(u, i, rs)]).take L.lim = _
    rw [List.take_append_of_le_length (by omega)]
  rw [e2]
  exact m2
theorem LStA.cell (s : LStA H L ins g cas ra rs) {j : Nat} {ca : Addr} {c : List Int} (hj : cas[j]? = some ca) (hc : g.cs[j]? = some c) (c' : List Int) :
    LStA (upd H ca (.lst (c'.map V.int))) L ins { g with cs := g.cs.set j c' } cas ra rs ∧ Stp (LChg L cas ra) H (upd H ca (.lst (c'.map V.int))) := by
  have N := s.nds
  have hm := List.mem_of_getElem? hj
  have hca : H ca = some (.lst (c.map V.int)) := s.c.2 j ca c hj hc
  obtain ⟨l1, m1, m2⟩ := s.l.md
  obtain ⟨l2, s1, s2⟩ := s.l.sn
  have st : Stp (fun a => a = ca) H (upd H ca (.lst (c'.map V.int))) := Stp.put hca rfl nfrz_lst
  have f : ∀ {a : Addr} {o : HO}, (e : H a = some o) → (n : a ≠ ca) → (w : ours o := by exact True.intro) → upd H ca (.lst (c'.map V.int)) a = some o := fun {a o} e n w => st.at e (fun z => absurd z n) w
  have eg : gv { g with cs := g.cs.set j c' } = gv g := by unfold gv; dsimp only; rw [List.length_set]
  refine ⟨⟨⟨by rw [eg]; exact f s.l.run (ne_of s.l.run hca (by intro z; cases z)), f s.l.inp (N.ic ca hm), ⟨l1, f m1 (N.mc ca hm), m2.mono fun _ _ z => z.st st⟩, ⟨l2, f s1 (N.sc ca hm), s2.mono fun _ _ z => z.st st⟩⟩, ⟨by rw [List.length_set]; exact s.c.1, fun i a d e1 e2 => ?_⟩, f s.r (N.rc ca hm), s.nd, s.tk⟩, st.mono fun a z => .inr (.inr (.inr (.inr (z ▸ hm))))⟩
  by_cases z : i = j
  · subst z
    rw [hj] at e1
    cases e1
    have q : (g.cs.set i c')[i]? = some c' := by
      rw [List.getElem?_set]
      rw [if_pos rfl, if_pos (List.getElem?_eq_some_iff.mp hc).1]
    have e2' : (g.cs.set i c')[i]? = some d := e2
    rw [q] at e2'
    cases e2'
    exact upd_same
  · have q : (g.cs.set j c')[i]? = g.cs[i]? := by rw [List.getElem?_set, if_neg (Ne.symm z)]
    have e2' : (g.cs.set j c')[i]? = some d := e2
    rw [q] at e2'
    refine f (s.c.2 i a d e1 e2') fun y => z ?_
    have nd : cas.Nodup := by
      have nd := s.nd
      simp only [List.nodup_cons] at nd
      exact nd.2.2.2.2
    subst y
    exact nodup_inj nd e1 hj
theorem LStA.regs (s : LStA H L ins g cas ra rs) (st : Stp (fun a => a = ra) H H') {rs' : List Int} (hr : H' ra = some (.lst (rs'.map V.int))) : LStA H' L ins g cas ra rs' := by
  have N := s.nds
  obtain ⟨l1, m1, m2⟩ := s.l.md
  obtain ⟨l2, s1, s2⟩ := s.l.sn
  have f : ∀ {a : Addr} {o : HO}, (e : H a = some o) → (n : a ≠ ra) → (w : ours o := by exact True.intro) → H' a = some o := fun {a o} e n w => st.at e (fun z => absurd z n) w
  exact ⟨⟨f s.l.run (ne_of s.l.run s.r (by intro z; cases z)), f s.l.inp N.ir, ⟨l1, f m1 N.mr, m2.mono fun _ _ z => z.st st⟩, ⟨l2, f s1 N.sr, s2.mono fun _ _ z => z.st st⟩⟩, ⟨s.c.1, fun i a b e1 e2 => f (s.c.2 i a b e1 e2) fun z => N.rc a (List.mem_of_getElem? e1) z.symm⟩, hr, s.nd, s.tk⟩
theorem LStA.setR (s : LStA H L ins g cas ra rs) (rs' : List Int) : LStA (upd H ra (.lst (rs'.map V.int))) L ins g cas ra rs' ∧ Stp (LChg L cas ra) H (upd H ra (.lst (rs'.map V.int))) := by
  have st : Stp (fun a => a = ra) H (upd H ra (.lst (rs'.map V.int))) := Stp.put s.r rfl nfrz_lst
  exact ⟨s.regs st upd_same, st.mono fun a z => .inr (.inr (.inr (.inl z)))⟩
end
/-- an activation of the law's machine -/
structure LDat where
  e : Wn.Env
  L : LD
  g : G
  cas : List Addr
  ra : Addr
  rs : List Int
  fa : Addr
  ca : Addr
  par : V
  u : Nat
  i0 : Nat
  r : List Nat
  U : Un
  nms : List Str
  pls : List (Int × Int)
structure LSit (K : PySem.W.Frag) (H : Hp) (d : LDat) : Prop where
  s : LStA H d.L d.e.ins d.g d.cas d.ra d.rs
  f : H d.fa = some (.dK (lfK d.u d.par d.ca d.ra))
  hc : d.cas[d.i0]? = some d.ca
  ch : lchV H d.cas d.par d.r
  ok : StOk d.e d.u (d.i0 :: d.r) d.g d.rs
  hU : d.e.m[d.u]? = some d.U
  mo : moV K H d.L.mo d.e.m d.nms d.pls
  E : EnvOk d.e
  top : d.g.cs.length = d.i0 + 1
  lim : d.L.lim ≤ 1000
  chl : d.r.length ≤ d.i0
section
variable {K : PySem.W.Frag} {H H' : Hp} {d : LDat} {ins : Ins}
theorem LSit.len (s : LSit K H d) : d.rs.length = d.U.regs := by
  obtain ⟨U, h1, h2⟩ := s.ok.regs
  rw [s.hU] at h1
  cases h1
  exact h2
theorem LSit.unOk (s : LSit K H d) : UnOk d.e.m d.u d.U := s.E.m.un _ _ s.hU
theorem LSit.op (s : LSit K H d) {x : Op} (o : OpOk d.U.regs x) : OpOk d.rs.length x := by rw [s.len]; exact o
theorem LSit.chv (s : LSit K H d) : lchV H d.cas (.ref d.fa) (d.i0 :: d.r) := ⟨d.fa, _, _, d.ca, d.par, rfl, s.f, s.hc, s.ch⟩
theorem LSit.hop (S : LSit K H d) {hh : Nat} (h : hh < (d.i0 :: d.r).length) : hh ≤ 1000 := by
  have h1 := S.top
  have h2 := S.ok.dp
  have h3 := S.chl
  simp only [List.length_cons] at h
  omega
theorem LSit.st (h : Stp S0 H H') (s : LSit K H d) : LSit K H' d := { s with s := s.s.st h, f := h.at s.f fun z => z.elim, ch := s.ch.st h, mo := s.mo.st h }
end
/-- what follows an instruction -/
def LPost (L : LD) (ins : List Int) (cas : List Addr) (ra : Addr) (H : Hp) (Q : VK) : Nx → Prop
  | .go _ g rs => ∀ H', Stp (LChg L cas ra) H H' → LStA H' L ins g cas ra rs → Q .non H'
  | .exc k p g rs => ∀ H' t, Stp (LChg L cas ra) H H' → LStA H' L ins g cas ra rs → New H t → H' t = some (.lst [.int k, .int p]) → Q (.ref t) H'
  | .exh g _ => ∀ H' e v, Stp (LChg L cas ra) H H' → LLite H' L ins g v → v.en = .ref e ∧ v.ra = .non → H' e = some (.tup [.str "exhausted"]) → Q .non H'
  | .fault g _ => ∀ H' e v, Stp (LChg L cas ra) H H' → LLite H' L ins g v → v.en = .ref e ∧ v.ra = .non → H' e = some (.tup [.str "fault"]) → Q .non H'
end WX
/-! ## WL2 -/
set_option Elab.async false
set_option linter.all false
set_option maxRecDepth 100000
set_option maxHeartbeats 2000000
/-! The law's own machine: values, arithmetic, cells. -/
namespace WX
open PySem PySem.Spec PyProof.Rows L2 He
open Wn (Op Ar Ins Rg Un Mod G Out Nx Word wordB exact val StOk EnvOk InsOk OpOk step1 ModOk UnOk comp mu setAll push pop back NxOk Pot Keeps)
local macro_rules | `(tactic| walk_at "new") => `(tactic| (intro p hp; generalize hG : upd _ p _ = H5; obtain ⟨s5, h5⟩ := gnew hG hp; clear hG))
def spLVal (K : PySem.W.Frag) : Sp := fun vs H Q _ => ∃ (fa : Addr) (u : Nat) (par : V) (ca ra : Addr) (v : V) (x : Op) (rs : List Int), vs = [.ref fa, v] ∧ H fa = some (.dK (lfK u par ca ra)) ∧ H ra = some (.lst (rs.map V.int)) ∧ opV H v x ∧ OpOk rs.length x ∧ Q (.int (Wn.val rs x)) H
def spLOut (K : PySem.W.Frag) : Sp := fun vs H Q _ => ∃ (cas : List Addr) (v : V) (h : Nat) (ch : List Nat), vs = [v, .int h] ∧ lchV H cas v ch ∧ h < ch.length ∧ h ≤ 1000 ∧ ∀ v', lchV H cas v' (ch.drop h) → Q v' H
def spLEx (K : PySem.W.Frag) : Sp := fun vs H Q _ => ∃ (r : Ar) (a b : Int), vs = [.str (arN r), .int a, .int b] ∧ Word a ∧ Word b ∧ (∀ w H', exact r a b = some w → Stp S0 H H' → Q (.int w) H') ∧ (∀ H', exact r a b = none → Stp S0 H H' → Q .non H')
theorem tmod_sign (a b : Int) : (0 ≤ a → 0 ≤ a.tmod b) ∧ (a < 0 → a.tmod b ≤ 0) := by
  refine ⟨fun h => Int.tmod_nonneg b h, fun h => ?_⟩
  have q := Int.tmod_nonneg (a := -a) b (by omega)
  rw [Int.neg_tmod] at q
  omega
theorem fmod_law (a b : Int) : a.fmod b = if a.tmod b ≠ 0 ∧ decide (a.tmod b < 0) ≠ decide (b < 0) then a.tmod b + b else a.tmod b := by
  rw [Int.fmod_eq_tmod]
  obtain ⟨h1, h2⟩ := tmod_sign a b
  by_cases d : b ∣ a
  · have z : a.tmod b = 0 := Int.tmod_eq_zero_of_dvd d
    rw [if_pos d, if_neg (fun y => y.1 z)]
    omega
  · have z : a.tmod b ≠ 0 := fun z => d (Int.dvd_of_tmod_eq_zero z)
    rw [if_neg d]
    by_cases ha : 0 ≤ a <;> by_cases hb : 0 ≤ b
    · have t : ¬ a.tmod b < 0 := by have := h1 ha; omega
      have t2 : ¬ b < 0 := by omega
      simp [ha, hb, t, t2]
    · have t : ¬ a.tmod b < 0 := by have := h1 ha; omega
      have t2 : b < 0 := by omega
      simp [ha, hb, t, t2, z]
    · have t : a.tmod b < 0 := by have := h2 (by omega); omega
      have t2 : ¬ b < 0 := by omega
      simp [ha, hb, t, t2, z]
      omega
    · have t : a.tmod b < 0 := by have := h2 (by omega); omega
      have t2 : b < 0 := by omega
      simp [ha, hb, t, t2]
      omega
section
variable {P : Program} {w : World} {K : PySem.W.Frag} {mg : Str → Option Value} {base : Heap}
theorem ok_lvalue (T : Txt w K mg) : Def P w K mg base CX0 1 "_law_value" ["_law_frame", "_law_operand_here"] (spLVal K) := by
  refine D_law_value T (fun vs H Q E h => ?_) (fun cdv A outer s H vs Q E hr h => ?_)
  · obtain ⟨fa, u, par, ca, ra, v, x, rs, rfl, _⟩ := h
    rfl
  obtain ⟨fa, u, par, ca, ra, v, x, rs, rfl, hf, hr', ho, hx, q⟩ := h
  refine ⟨_, (pss_cons (ps_if (pt_cmpR op_eq (pe_ix ix_tup (pv 1) pe_int (fun _ _ => rfl)) pe_str (nomark _)) (pss_one (ps_ret (pe_ix ix_list (pe_dget (hu_of hr) (pv 0) pe_str (fun _ _ => rfl)) (pe_ix ix_tup (pv 1) pe_int (fun _ _ => rfl)) (fun _ _ => rfl)))) pss_nil) (pss_one (ps_ret (pe_ix ix_tup (pv 1) pe_int (fun _ _ => rfl))))), ?_⟩
  obtain ⟨a, rfl, ha⟩ := ho
  refine ⟨_, rfl, _, _, _, _, rfl, rfl, SqT.of ha, rfl, rfl, _, rfl, ?_⟩
  cases x with
  | reg i =>
    have hi : (rs.map V.int)[i]? = some (.int (rs.getD i 0)) := by
      have hx' : i < rs.length := hx
      rw [List.getElem?_map, List.getD_eq_getElem?_getD, List.getElem?_eq_getElem hx']
      rfl
    exact if_true_of (by show decide (V.str ("reg" : Str) = V.str "reg") = true; decide) ⟨_, rfl, _, _, rfl, DGet.k (k := .inr "registers") hf, _, rfl, _, _, _, _, rfl, rfl, SqT.of ha, rfl, ra, _, _, _, rfl, rfl, SqL.of hr', atI_nat hi, q⟩
  | int z => exact if_false_of (by show decide (V.str ("int" : Str) = V.str "reg") = false; decide) ⟨_, rfl, _, _, _, _, rfl, rfl, SqT.of ha, rfl, q⟩
theorem ok_louter (T : Txt w K mg) : Def P w K mg base CX0 1 "_law_outer" ["_law_frame", "_law_hops"] (spLOut K) := by
  refine D_law_outer T (fun vs H Q E h => ?_) (fun cdv A outer s H vs Q E hr h => ?_)
  · obtain ⟨cas, v, h, ch, rfl, _⟩ := h
    rfl
  obtain ⟨cas, v, h, ch, rfl, hc, hlt, hb, q⟩ := h
  refine ⟨_, (pss_cons (ps_for (L2.passes_of rfl) rfl (pi_range1 rfl (b_range T) (pa_cons (pv 1) pa_nil)) (pg_name (i := 2) sc_law_outer.nd rfl (Or.inl rfl)) (pss_one (ps_set (i := 0) sc_law_outer.nd rfl (Or.inl rfl) (pe_dget (hu_of hr) (pv 0) pe_str (fun _ _ => rfl))))) (pss_one (ps_ret (pv 0)))), ?_⟩
  refine ⟨_, rfl, (h : Int), rfl, by omega, by omega, for_range (lo := 0) (n := h) (fun i σ H' => ∃ v' o, σ = [some v', some (.int h), o] ∧ H' = H ∧ lchV H cas v' (ch.drop i)) ⟨v, none, rfl, rfl, by simpa using hc⟩ ?_ ?_⟩
  · rintro i σ H' hi ⟨v', o, rfl, rfl, hv⟩
    have hd : ch.drop i = ch[i] :: ch.drop (i + 1) := List.drop_eq_getElem_cons (by omega)
    rw [hd] at hv
    obtain ⟨fa, u, ra, ca, par, rfl, e1, e2, e3⟩ := hv
    exact ⟨_, rfl, _, _, rfl, DGet.k (k := .inr "parent") e1, par, some (.int (0 + i)), rfl, rfl, e3⟩
  · rintro σ H' ⟨v', o, rfl, rfl, hv⟩
    exact ⟨_, rfl, q v' hv⟩
theorem ok_lexact (T : Txt w K mg) : Def P w K mg base CX0 1 "_law_exact" ["_law_name", "_law_left", "_law_right"] (spLEx K) := by
  refine D_law_exact T (fun vs H Q E h => ?_) (fun cdv A outer s H vs Q E hr h => ?_)
  · obtain ⟨r, a, b, rfl, _⟩ := h
    rfl
  obtain ⟨r, a, b, rfl, hwa, hwb, q1, q2⟩ := h
  refine ⟨_, (pss_cons (ps_if (pt_cmpR op_in_seq (pv 0) (pe_lst (pa_cons pe_str (pa_cons pe_str (pa_cons pe_str pa_nil)))) (by rfl)) (pss_one (ps_ret (pe_ix ix_list (pe_lst (pa_cons (pe_op op_add (pv 1) (pv 2)) (pa_cons (pe_op op_sub (pv 1) (pv 2)) (pa_cons (pe_op op_mul (pv 1) (pv 2)) pa_nil)))) (pe_bm PySem.F.plainAttrs_list PySem.F.slot_list_index PySem.F.type_list_index mt_index (pe_lst (pa_cons pe_str (pa_cons pe_str (pa_cons pe_str pa_nil)))) (pa_cons (pv 0) pa_nil)) (fun _ _ => rfl)))) pss_nil) (pss_cons (ps_if (pt_cmpR op_eq (pv 2) pe_int (nomark _)) (pss_one (ps_ret pe_non)) pss_nil) (pss_cons (ps_set (i := 3) sc_law_exact.nd rfl (Or.inl rfl) (pe_op op_fdivL (pe_callB call_abs (by rfl) (b_abs T) (by decide +kernel) (pa_cons (pv 1) pa_nil)) (pe_callB call_abs (by rfl) (b_abs T) (by decide +kernel) (pa_cons (pv 2) pa_nil)))) (pss_cons (ps_if (pt_cmpR op_ne (pe_cmpR op_lt (pv 1) pe_int (nomark _)) (pe_cmpR op_lt (pv 2) pe_int (nomark _)) (nomark _)) (pss_one (ps_set (i := 3) sc_law_exact.nd rfl (Or.inl rfl) (pe_un un_neg (pv 3)))) pss_nil) (pss_cons (ps_set (i := 4) sc_law_exact.nd rfl (Or.inl rfl) (pe_op op_sub (pv 1) (pe_op op_mul (pv 3) (pv 2)))) (pss_cons (ps_if (pt_cmpR op_eq (pv 0) pe_str (nomark _)) (pss_one (ps_ret (pv 3))) pss_nil) (pss_cons (ps_if (PW.pt (pw_and (pt_cmpR op_eq (pv 0) pe_str (nomark _)) (pw_and (pt_cmpR op_ne (pv 4) pe_int (nomark _)) (pw_and1 (pt_cmpR op_ne (pe_cmpR op_lt (pv 4) pe_int (nomark _)) (pe_cmpR op_lt (pv 2) pe_int (nomark _)) (nomark _)))))) (pss_one (ps_ret (pe_op op_add (pv 4) (pv 2)))) pss_nil) (pss_one (ps_ret (pv 4)))))))))), ?_⟩
  refine ⟨_, rfl, by show 3 ≤ sizeLine; decide, ?_⟩
  walk_at "new"; rename_i l1 n1 H1 t1 h1
  refine ⟨l1, _, rfl, .inl (SqL.of h1), rfl, by decide, _, rfl, ?_⟩
  have many : ∀ {w : Int} {j : Nat} {r' : Ar}, r = r' → exact r a b = some w → ([V.int (a + b), V.int (a - b), V.int (a * b)] : List V)[j]? = some (.int w) → True := fun _ _ _ => trivial
  by_cases hr3 : r = .add ∨ r = .sub ∨ r = .mul
  · refine if_true_of (by rcases hr3 with rfl | rfl | rfl <;> rfl) ?_
    refine ⟨_, rfl, _, rfl, _, _, rfl, rfl, _, rfl, _, rfl, _, _, rfl, rfl, _, rfl, _, rfl, _, _, rfl, rfl, mul_in hwa, by show 3 ≤ sizeLine; decide, ?_⟩
    walk_at "new"; rename_i l2 n2 H2 t2 h2
    refine ⟨by show 3 ≤ sizeLine; decide, ?_⟩
    walk_at "new"; rename_i l3 n3 H3 t3 h3
    have t13 := t1.trans (t2.trans t3)
    have h23 := t3.at h2 fun z => z.elim
    rcases hr3 with rfl | rfl | rfl
    · exact ⟨.inl ⟨rfl, _, SqL.of h3⟩, _, rfl, l3, _, _, 0, _, rfl, rfl, SqL.of h3, rfl, by decide, rfl, rfl, (fun m z hm => absurd hm (Nat.not_lt_zero m)), l2, _, _, _, rfl, rfl, SqL.of h23, rfl, q1 _ H3 rfl t13⟩
    · exact ⟨.inl ⟨rfl, _, SqL.of h3⟩, _, rfl, l3, _, _, 1, _, rfl, rfl, SqL.of h3, rfl, by decide, rfl, rfl, (fun m z hm hz => by
      obtain rfl : m = 0 := by omega
      cases hz
      decide), l2, _, _, _, rfl, rfl, SqL.of h23, rfl, q1 _ H3 rfl t13⟩
    · exact ⟨.inl ⟨rfl, _, SqL.of h3⟩, _, rfl, l3, _, _, 2, _, rfl, rfl, SqL.of h3, rfl, by decide, rfl, rfl, (fun m z hm hz => by rcases (show m = 0 ∨ m = 1 by omega) with rfl | rfl <;> cases hz <;> decide), l2, _, _, _, rfl, rfl, SqL.of h23, rfl, q1 _ H3 rfl t13⟩
  · have hr3' : r = .div ∨ r = .mod ∨ r = .rem := by cases r <;> simp at hr3 ⊢
    refine if_false_of (by rcases hr3' with rfl | rfl | rfl <;> rfl) ?_
    refine ⟨_, rfl, rfl, _, rfl, ite2 (fun c => ?_) (fun c => ?_)⟩
    · have z : b = 0 := by simpa using c
      exact q2 H1 (by rcases hr3' with rfl | rfl | rfl <;> simp [exact, z]) t1
    have z : b ≠ 0 := by simpa using c
    refine ⟨_, rfl, _, rfl, _, rfl, _, rfl, _, _, rfl, rfl, ⟨?_, ?_⟩, ?_⟩
    · split <;> omega
    · have e : (if b < 0 then -b else b).natAbs = b.natAbs := by split <;> omega
      rw [e]
      exact fits_log hwb
    have e0 : ((if a < 0 then -a else a)).fdiv (if b < 0 then -b else b) = (if a < 0 then -a else a) / (if b < 0 then -b else b) := Int.fdiv_eq_ediv_of_nonneg _ (by split <;> omega)
    have e := tdiv_sign a b
    have cm : ∀ i : Int, CMul i b := fun i => .inr ⟨by have := hwb.1; omega, by have := hwb.2; omega⟩
    -- the rest
    have rest : ∀ {sz : Int}, sz = a.tdiv b → tSeq (tAsg (tOp (rI0 fun i j => .int (i - j)) (tVar 1) (tOp (rI CMul fun i j => .int (i * j)) (tVar 3) (tVar 2))) (gName 4))
        (tSeq (tIfS (tTest (tOp rEq (tVar 0) (tC (.str "div")))) (tRet (tVar 3)) tNext)
          (tSeq (tIfS (tAnd (tTest (tOp rEq (tVar 0) (tC (.str "mod")))) (tAnd (tTest (tOp rNe (tVar 4) (tC (.int 0)))) (tTest (tOp rNe (tOp (rI0 fun i j => .bl (decide (i < j))) (tVar 4) (tC (.int 0))) (tOp (rI0 fun i j => .bl (decide (i < j))) (tVar 2) (tC (.int 0))))))) (tRet (tOp (rI0 fun i j => .int (i + j)) (tVar 4) (tVar 2))) tNext) (tRet (tVar 4))))
        { nx := fun _ H' => Q .non H', rt := Q } [some (.str (arN r)), some (.int a), some (.int b), some (.int sz), none] H1 := by
      rintro sz rfl
      have er : a - a.tdiv b * b = a.tmod b := by rw [Int.tmod_def, Int.mul_comm]
      refine ⟨_, rfl, _, rfl, _, rfl, _, _, rfl, rfl, cm _, _, _, rfl, rfl, ?_⟩
      show tSeq _ _ _ [some (.str (arN r)), some (.int a), some (.int b), some (.int (a.tdiv b)), some (.int (a - a.tdiv b * b))] H1
      rw [er]
      refine ⟨_, rfl, rfl, _, rfl, ?_⟩
      rcases hr3' with rfl | rfl | rfl
      · exact if_true_of (by show decide (V.str ("div" : Str) = V.str "div") = true; decide) ⟨_, rfl, q1 _ H1 (by simp [exact, z]) t1⟩
      · refine if_false_of (by show decide (V.str ("mod" : Str) = V.str "div") = false; decide) ⟨_, rfl, rfl, _, rfl, if_true_of (by show decide (V.str ("mod" : Str) = V.str "mod") = true; decide) ⟨_, rfl, rfl, _, rfl, ?_⟩⟩
        have em := fmod_law a b
        by_cases z1 : a.tmod b = 0
        · rw [if_neg (fun y => y.1 z1)] at em
          refine if_false_of (by rw [z1]; decide) ⟨_, rfl, ?_⟩
          exact q1 _ H1 (by simp [exact, z, em]) t1
        · refine if_true_of (by rw [decide_eq_false (fun y => z1 (V.int.inj y))]; rfl) ⟨_, rfl, _, _, rfl, rfl, _, rfl, _, _, rfl, rfl, rfl, _, rfl, ?_⟩
          by_cases z2 : decide (a.tmod b < 0) = decide (b < 0)
          · rw [if_neg (fun y => y.2 z2)] at em
            refine if_false_of (by show (!decide (V.bl (decide (a.tmod b < 0)) = V.bl (decide (b < 0)))) = false; rw [decide_eq_true (congrArg V.bl z2)]; rfl) ⟨_, rfl, ?_⟩
            exact q1 _ H1 (by simp [exact, z, em]) t1
          · rw [if_pos ⟨z1, z2⟩] at em
            refine if_true_of (by show (!decide (V.bl (decide (a.tmod b < 0)) = V.bl (decide (b < 0)))) = true; rw [decide_eq_false (fun y => z2 (V.bl.inj y))]; rfl) ⟨_, rfl, _, rfl, _, _, rfl, rfl, ?_⟩
            exact q1 _ H1 (by simp [exact, z, em]) t1
      · refine if_false_of (by show decide (V.str ("rem" : Str) = V.str "div") = false; decide) ⟨_, rfl, rfl, _, rfl, if_false_of (by show decide (V.str ("rem" : Str) = V.str "mod") = false; decide) ⟨_, rfl, ?_⟩⟩
        exact q1 _ H1 (by simp [exact, z]) t1
    refine ⟨_, rfl, _, _, rfl, rfl, _, rfl, _, _, rfl, rfl, rfl, _, rfl, ?_⟩
    by_cases c1 : decide (a < 0) = decide (b < 0)
    · rw [if_pos c1] at e
      refine if_false_of (by show (!decide (V.bl (decide (a < 0)) = V.bl (decide (b < 0)))) = false; rw [decide_eq_true (congrArg V.bl c1)]; rfl) (rest ?_)
      rw [e0, e]
    · rw [if_neg c1] at e
      refine if_true_of (by show (!decide (V.bl (decide (a < 0)) = V.bl (decide (b < 0)))) = true; rw [decide_eq_false (fun y => c1 (V.bl.inj y))]; rfl) ⟨_, rfl, _, rfl, rest ?_⟩
      rw [e0, e]
end
end WX
/-! ## WL3 -/
set_option Elab.async false
set_option linter.all false
set_option maxRecDepth 100000
set_option maxHeartbeats 2000000
/-! The law's own machine: what an instruction computes. -/
namespace WX
open PySem PySem.Spec PyProof.Rows L2 He
open Wn (Op Ar Ins Rg Un Mod G Out Nx Word wordB exact val StOk EnvOk InsOk OpOk step1 ModOk UnOk comp mu setAll push pop back NxOk Pot Keeps)
local macro_rules | `(tactic| walk_at "new") => `(tactic| (intro p hp; generalize hG : upd _ p _ = H5; obtain ⟨s5, h5⟩ := gnew hG hp; clear hG))
def spLAct (K : PySem.W.Frag) (k : Ins → Prop) : Sp := fun vs H Q _ => ∃ (d : LDat) (ia : Addr) (ins : Ins) (i : Nat), vs = [.ref d.L.rh, .ref d.fa, .ref ia] ∧ LSit K H d ∧ insV H (.ref ia) ins ∧ InsOk d.e.m d.u d.U i ins ∧ k ins ∧ bigE d.g ∧
  LPost d.L d.e.ins d.cas d.ra H Q (step1 d.e (d.i0 :: d.r) i d.g d.rs ins)
theorem wB {w : Int} (h : wordB w = true) : ¬ w < -2147483648 ∧ ¬ 2147483647 < w := by
  obtain ⟨h1, h2⟩ := Wn.wordB_iff.mp h
  omega
theorem wB' {w : Int} (h : wordB w = false) : w < -2147483648 ∨ (¬ w < -2147483648 ∧ 2147483647 < w) := by
  by_cases c : w < -2147483648
  · exact .inl c
  · refine .inr ⟨c, ?_⟩
    by_cases c2 : 2147483647 < w
    · exact c2
    · have : wordB w = true := Wn.wordB_iff.mpr ⟨by omega, by omega⟩
      rw [h] at this
      cases this
section
variable {P : Program} {w : World} {K : PySem.W.Frag} {mg : Str → Option Value} {base : Heap}
theorem ok_lcompute (T : Txt w K mg) : Def P w K mg base CX0 2 "_law_compute" ["_law_run_here", "_law_frame", "_law_instruction_here"] (spLAct K isComp) := by
  have G_law_value := ok_lvalue (P := P) (base := base) T
  have G_law_exact := ok_lexact (P := P) (base := base) T
  refine D_law_compute T (fun vs H Q E h => ?_) (fun cdv A outer s H vs Q E hr h => ?_)
  · obtain ⟨d, ia, ins, i, rfl, _⟩ := h
    rfl
  obtain ⟨d, ia, ins, i, rfl, S, hi, ok, hk, hb, q⟩ := h
  refine ⟨_, (pss_cons (ps_set (i := 3) sc_law_compute.nd rfl (Or.inl rfl) (pe_ix ix_tup (pv 2) pe_int (fun _ _ => rfl))) (pss_cons (ps_set (i := 4) sc_law_compute.nd rfl (Or.inl rfl) (pe_callD G_law_value hr (by omega) rfl pass0 (pa_cons (pv 1) (pa_cons (pe_ix ix_tup (pv 2) pe_int (fun _ _ => rfl)) pa_nil)))) (pss_cons (ps_if (pt_cmpR op_eq (pv 3) pe_str (nomark _)) (pss_one (ps_set (i := 5) sc_law_compute.nd rfl (Or.inl rfl) (pv 4))) (pss_one (ps_if (pt_cmpR op_eq (pv 3) pe_str (nomark _)) (pss_one (ps_set (i := 5) sc_law_compute.nd rfl (Or.inl rfl) (pe_un un_neg (pv 4)))) (pss_one (ps_if (pt_cmpR op_eq (pv 3) pe_str (nomark _)) (pss_one (ps_set (i := 5) sc_law_compute.nd rfl (Or.inl rfl) (pe_callB call_abs (by rfl) (b_abs T) (by decide +kernel) (pa_cons (pv 4) pa_nil)))) (pss_cons (ps_set (i := 6) sc_law_compute.nd rfl (Or.inl rfl) (pe_callD G_law_value hr (by omega) rfl pass0 (pa_cons (pv 1) (pa_cons (pe_ix ix_tup (pv 2) pe_int (fun _ _ => rfl)) pa_nil)))) (pss_one (ps_if (pt_cmpR op_eq (pv 3) pe_str (nomark _)) (pss_one (ps_set (i := 5) sc_law_compute.nd rfl (Or.inl rfl) (pe_callTy call_int1 (by rfl) (b_int T) (by decide +kernel) (pa_cons (pe_cmpR op_lt (pv 4) (pv 6) (nomark _)) pa_nil)))) (pss_one (ps_if (pt_cmpR op_eq (pv 3) pe_str (nomark _)) (pss_one (ps_set (i := 5) sc_law_compute.nd rfl (Or.inl rfl) (pe_callTy call_int1 (by rfl) (b_int T) (by decide +kernel) (pa_cons (pe_cmpR op_eq (pv 4) (pv 6) (nomark _)) pa_nil)))) (pss_one (ps_set (i := 5) sc_law_compute.nd rfl (Or.inl rfl) (pe_callD G_law_exact hr (by omega) rfl pass0 (pa_cons (pv 3) (pa_cons (pv 4) (pa_cons (pv 6) pa_nil)))))))))))))))) (pss_cons (ps_if (PW.pt (pw_or (pt_cmpR op_isN (pv 5) pe_non (nomark _)) (pw_or (pt_cmpR op_lt (pv 5) (pe_un un_neg pe_int) (nomark _)) (pw_or1 (pt_cmpR op_gt (pv 5) pe_int (nomark _)))))) (pss_one (ps_ret (pe_lst (pa_cons pe_int (pa_cons (pe_ix ix_tup (pv 2) (pe_un un_neg pe_int) (fun _ _ => rfl)) pa_nil))))) pss_nil) (pss_cons (ps_set (i := 7) sc_law_compute.nd rfl (Or.inl rfl) (pe_dget (hu_of hr) (pv 1) pe_str (fun _ _ => rfl))) (pss_cons (ps_asg (pv 5) (pg_sub (pv 7) (pe_ix ix_tup (pv 2) pe_int (fun _ _ => rfl)) set_list)) (pss_one (ps_ret pe_non)))))))), ?_⟩
  have fin : ∀ {H1 : Hp} {dd : Nat} {w : Int}, Stp S0 H H1 → step1 d.e (d.i0 :: d.r) i d.g d.rs ins = .go (i + 1) d.g (d.rs.set dd w) → Q .non (upd H1 d.ra (.lst ((d.rs.map V.int).set dd (.int w)))) := fun {H1 dd w} t e => by
    rw [e] at q
    rw [map_set]
    obtain ⟨s1, s2⟩ := (S.s.st t).setR (d.rs.set dd w)
    exact q _ (t.z.trans s2) s1
  have exc : ∀ {H1 : Hp} {p : Nat}, Stp S0 H H1 → step1 d.e (d.i0 :: d.r) i d.g d.rs ins = .exc 0 p d.g d.rs → ∀ t, H1 t = none → Q (.ref t) (upd H1 t (.lst [.int 0, .int p])) := fun {H1 p} t e tt ht => by
    rw [e] at q
    have t2 := t.trans (Stp.new (o := .lst [.int 0, .int p]) ht)
    exact q _ tt t2.z (S.s.st t2) ((New.of ht).back t) upd_same
  cases ins <;> try exact hk.elim
  · -- move
    rename_i dd x
    obtain ⟨a, vs, e, ha, o, rfl, ho⟩ := hi
    cases e
    obtain ⟨hd, hx⟩ := ok
    have hw : wordB (Wn.val d.rs x) = true := Wn.wordB_iff.mpr (Wn.val_word S.ok.rw hx)
    obtain ⟨w1, w2⟩ := wB hw
    exact ⟨_, rfl, ia, _, _, _, rfl, rfl, SqT.of ha, rfl, _, rfl, _, rfl, ia, _, _, _, rfl, rfl, SqT.of ha, rfl, d.fa, _, _, _, d.ra, _, _, d.rs, rfl, S.f, S.s.r, ho, S.op hx, _, rfl, rfl, _, rfl, if_true_of (by show decide (V.str ("move" : Str) = V.str "move") = true; decide) ⟨_, rfl, _, rfl, rfl, _, rfl, if_false_of (decide_eq_false (fun z => by cases z)) ⟨_, rfl, _, rfl, _, _, rfl, rfl, _, rfl, if_false_of (decide_eq_false w1) ⟨_, rfl, _, _, rfl, rfl, _, rfl, if_false_of (decide_eq_false w2) ⟨_, rfl, _, _, rfl, DGet.k (k := .inr "registers") S.f, _, rfl, _, rfl, _, rfl, ia, _, _, _, rfl, rfl, SqT.of ha, rfl, d.ra, _, (dd : Int), dd, rfl, rfl, S.s.r, ixN_nat (by rw [List.length_map, S.len]; exact hd), fin Stp.refl (by simp [step1, comp, hw])⟩⟩⟩⟩⟩
  · -- neg
    rename_i dd x p
    obtain ⟨a, vs, e, ha, o, rfl, ho⟩ := hi
    cases e
    obtain ⟨hd, hx, hp⟩ := ok
    have st : step1 d.e (d.i0 :: d.r) i d.g d.rs (.neg dd x p) = if wordB (-(Wn.val d.rs x)) = true then .go (i + 1) d.g (d.rs.set dd (-(Wn.val d.rs x))) else .exc 0 p d.g d.rs := by rfl
    refine ⟨_, rfl, ia, _, _, _, rfl, rfl, SqT.of ha, rfl, _, rfl, _, rfl, ia, _, _, _, rfl, rfl, SqT.of ha, rfl, d.fa, _, _, _, d.ra, _, _, d.rs, rfl, S.f, S.s.r, ho, S.op hx, _, rfl, rfl, _, rfl, if_false_of (by show decide (V.str ("neg" : Str) = V.str "move") = false; decide) ⟨_, rfl, rfl, _, rfl, if_true_of (by show decide (V.str ("neg" : Str) = V.str "neg") = true; decide) ⟨_, rfl, _, rfl, ?_⟩⟩⟩
    cases hw : wordB (-(Wn.val d.rs x)) with
    | true =>
      rw [if_pos hw] at st
      obtain ⟨w1, w2⟩ := wB hw
      exact ⟨_, rfl, rfl, _, rfl, if_false_of (decide_eq_false (fun z => by cases z)) ⟨_, rfl, _, rfl, _, _, rfl, rfl, _, rfl, if_false_of (decide_eq_false w1) ⟨_, rfl, _, _, rfl, rfl, _, rfl, if_false_of (decide_eq_false w2) ⟨_, rfl, _, _, rfl, DGet.k (k := .inr "registers") S.f, _, rfl, _, rfl, _, rfl, ia, _, _, _, rfl, rfl, SqT.of ha, rfl, d.ra, _, (dd : Int), dd, rfl, rfl, S.s.r, ixN_nat (by rw [List.length_map, S.len]; exact hd), fin Stp.refl st⟩⟩⟩⟩
    | false =>
      rw [if_neg (by rw [hw]; decide)] at st
      rcases wB' hw with w1 | ⟨w1, w2⟩
      · exact ⟨_, rfl, rfl, _, rfl, if_false_of (decide_eq_false (fun z => by cases z)) ⟨_, rfl, _, rfl, _, _, rfl, rfl, _, rfl, if_true_of (decide_eq_true w1) (if_true_of rfl ⟨_, rfl, _, rfl, ia, _, _, _, rfl, rfl, SqT.of ha, rfl, by show 2 ≤ sizeLine; decide, exc Stp.refl st⟩)⟩⟩
      · exact ⟨_, rfl, rfl, _, rfl, if_false_of (decide_eq_false (fun z => by cases z)) ⟨_, rfl, _, rfl, _, _, rfl, rfl, _, rfl, if_false_of (decide_eq_false w1) ⟨_, rfl, _, _, rfl, rfl, _, rfl, if_true_of (decide_eq_true w2) ⟨_, rfl, _, rfl, ia, _, _, _, rfl, rfl, SqT.of ha, rfl, by show 2 ≤ sizeLine; decide, exc Stp.refl st⟩⟩⟩⟩
  · -- abs
    rename_i dd x p
    obtain ⟨a, vs, e, ha, o, rfl, ho⟩ := hi
    cases e
    obtain ⟨hd, hx, hp⟩ := ok
    have ea : (if Wn.val d.rs x < 0 then -Wn.val d.rs x else Wn.val d.rs x) = ((Wn.val d.rs x).natAbs : Int) := by split <;> omega
    have st : step1 d.e (d.i0 :: d.r) i d.g d.rs (.abs dd x p) = if wordB (if Wn.val d.rs x < 0 then -Wn.val d.rs x else Wn.val d.rs x) = true then .go (i + 1) d.g (d.rs.set dd (if Wn.val d.rs x < 0 then -Wn.val d.rs x else Wn.val d.rs x)) else .exc 0 p d.g d.rs := by rw [ea]; rfl
    refine ⟨_, rfl, ia, _, _, _, rfl, rfl, SqT.of ha, rfl, _, rfl, _, rfl, ia, _, _, _, rfl, rfl, SqT.of ha, rfl, d.fa, _, _, _, d.ra, _, _, d.rs, rfl, S.f, S.s.r, ho, S.op hx, _, rfl, rfl, _, rfl, if_false_of (by show decide (V.str ("abs" : Str) = V.str "move") = false; decide) ⟨_, rfl, rfl, _, rfl, if_false_of (by show decide (V.str ("abs" : Str) = V.str "neg") = false; decide) ⟨_, rfl, rfl, _, rfl, if_true_of (by show decide (V.str ("abs" : Str) = V.str "abs") = true; decide) ⟨_, rfl, _, rfl, ?_⟩⟩⟩⟩
    cases hw : wordB (if Wn.val d.rs x < 0 then -Wn.val d.rs x else Wn.val d.rs x) with
    | true =>
      rw [if_pos hw] at st
      obtain ⟨w1, w2⟩ := wB hw
      exact ⟨_, rfl, rfl, _, rfl, if_false_of (decide_eq_false (fun z => by cases z)) ⟨_, rfl, _, rfl, _, _, rfl, rfl, _, rfl, if_false_of (decide_eq_false w1) ⟨_, rfl, _, _, rfl, rfl, _, rfl, if_false_of (decide_eq_false w2) ⟨_, rfl, _, _, rfl, DGet.k (k := .inr "registers") S.f, _, rfl, _, rfl, _, rfl, ia, _, _, _, rfl, rfl, SqT.of ha, rfl, d.ra, _, (dd : Int), dd, rfl, rfl, S.s.r, ixN_nat (by rw [List.length_map, S.len]; exact hd), fin Stp.refl st⟩⟩⟩⟩
    | false =>
      rw [if_neg (by rw [hw]; decide)] at st
      rcases wB' hw with w1 | ⟨w1, w2⟩
      · exact ⟨_, rfl, rfl, _, rfl, if_false_of (decide_eq_false (fun z => by cases z)) ⟨_, rfl, _, rfl, _, _, rfl, rfl, _, rfl, if_true_of (decide_eq_true w1) (if_true_of rfl ⟨_, rfl, _, rfl, ia, _, _, _, rfl, rfl, SqT.of ha, rfl, by show 2 ≤ sizeLine; decide, exc Stp.refl st⟩)⟩⟩
      · exact ⟨_, rfl, rfl, _, rfl, if_false_of (decide_eq_false (fun z => by cases z)) ⟨_, rfl, _, rfl, _, _, rfl, rfl, _, rfl, if_false_of (decide_eq_false w1) ⟨_, rfl, _, _, rfl, rfl, _, rfl, if_true_of (decide_eq_true w2) ⟨_, rfl, _, rfl, ia, _, _, _, rfl, rfl, SqT.of ha, rfl, by show 2 ≤ sizeLine; decide, exc Stp.refl st⟩⟩⟩⟩
  · -- less
    rename_i dd x y
    obtain ⟨a, vs, e, ha, o, o2, rfl, ho, ho2⟩ := hi
    cases e
    obtain ⟨hd, hx, hy⟩ := ok
    refine ⟨_, rfl, ia, _, _, _, rfl, rfl, SqT.of ha, rfl, _, rfl, _, rfl, ia, _, _, _, rfl, rfl, SqT.of ha, rfl, d.fa, _, _, _, d.ra, _, _, d.rs, rfl, S.f, S.s.r, ho, S.op hx, _, rfl, rfl, _, rfl, if_false_of (by show decide (V.str ("less" : Str) = V.str "move") = false; decide) ⟨_, rfl, rfl, _, rfl, if_false_of (by show decide (V.str ("less" : Str) = V.str "neg") = false; decide) ⟨_, rfl, rfl, _, rfl, if_false_of (by show decide (V.str ("less" : Str) = V.str "abs") = false; decide) ⟨_, rfl, _, rfl, ia, _, _, _, rfl, rfl, SqT.of ha, rfl, d.fa, _, _, _, d.ra, _, _, d.rs, rfl, S.f, S.s.r, ho2, S.op hy, _, rfl, rfl, _, rfl, if_true_of (by show decide (V.str ("less" : Str) = V.str "less") = true; decide) ⟨_, rfl, _, rfl, _, _, rfl, rfl, .inr ⟨_, rfl, ?_⟩⟩⟩⟩⟩⟩
    have hb2 : ∀ b : Bool, ¬ (if b = true then (1 : Int) else 0) < -2147483648 ∧ ¬ 2147483647 < (if b = true then (1 : Int) else 0) := fun b => by cases b <;> decide
    obtain ⟨w1, w2⟩ := hb2 (decide (Wn.val d.rs x < Wn.val d.rs y))
    refine ⟨_, rfl, rfl, _, rfl, if_false_of (decide_eq_false (fun z => by cases z)) ⟨_, rfl, _, rfl, _, _, rfl, rfl, _, rfl, if_false_of (decide_eq_false w1) ⟨_, rfl, _, _, rfl, rfl, _, rfl, if_false_of (decide_eq_false w2) ⟨_, rfl, _, _, rfl, DGet.k (k := .inr "registers") S.f, _, rfl, _, rfl, _, rfl, ia, _, _, _, rfl, rfl, SqT.of ha, rfl, d.ra, _, (dd : Int), dd, rfl, rfl, S.s.r, ixN_nat (by rw [List.length_map, S.len]; exact hd), fin Stp.refl ?_⟩⟩⟩⟩
    by_cases c : Wn.val d.rs x < Wn.val d.rs y
    · simp [step1, comp, c, wordB]
    · simp [step1, comp, c, wordB]
  · -- equal
    rename_i dd x y
    obtain ⟨a, vs, e, ha, o, o2, rfl, ho, ho2⟩ := hi
    cases e
    obtain ⟨hd, hx, hy⟩ := ok
    refine ⟨_, rfl, ia, _, _, _, rfl, rfl, SqT.of ha, rfl, _, rfl, _, rfl, ia, _, _, _, rfl, rfl, SqT.of ha, rfl, d.fa, _, _, _, d.ra, _, _, d.rs, rfl, S.f, S.s.r, ho, S.op hx, _, rfl, rfl, _, rfl, if_false_of (by show decide (V.str ("equal" : Str) = V.str "move") = false; decide) ⟨_, rfl, rfl, _, rfl, if_false_of (by show decide (V.str ("equal" : Str) = V.str "neg") = false; decide) ⟨_, rfl, rfl, _, rfl, if_false_of (by show decide (V.str ("equal" : Str) = V.str "abs") = false; decide) ⟨_, rfl, _, rfl, ia, _, _, _, rfl, rfl, SqT.of ha, rfl, d.fa, _, _, _, d.ra, _, _, d.rs, rfl, S.f, S.s.r, ho2, S.op hy, _, rfl, rfl, _, rfl, if_false_of (by show decide (V.str ("equal" : Str) = V.str "less") = false; decide) ⟨_, rfl, rfl, _, rfl, if_true_of (by show decide (V.str ("equal" : Str) = V.str "equal") = true; decide) ⟨_, rfl, _, rfl, rfl, .inr ⟨_, rfl, ?_⟩⟩⟩⟩⟩⟩⟩
    have hb2 : ∀ b : Bool, ¬ (if b = true then (1 : Int) else 0) < -2147483648 ∧ ¬ 2147483647 < (if b = true then (1 : Int) else 0) := fun b => by cases b <;> decide
    obtain ⟨w1, w2⟩ := hb2 (decide (V.int (Wn.val d.rs x) = V.int (Wn.val d.rs y)))
    refine ⟨_, rfl, rfl, _, rfl, if_false_of (decide_eq_false (fun z => by cases z)) ⟨_, rfl, _, rfl, _, _, rfl, rfl, _, rfl, if_false_of (decide_eq_false w1) ⟨_, rfl, _, _, rfl, rfl, _, rfl, if_false_of (decide_eq_false w2) ⟨_, rfl, _, _, rfl, DGet.k (k := .inr "registers") S.f, _, rfl, _, rfl, _, rfl, ia, _, _, _, rfl, rfl, SqT.of ha, rfl, d.ra, _, (dd : Int), dd, rfl, rfl, S.s.r, ixN_nat (by rw [List.length_map, S.len]; exact hd), fin Stp.refl ?_⟩⟩⟩⟩
    by_cases c : Wn.val d.rs x = Wn.val d.rs y
    · simp [step1, comp, c, wordB]
    · simp [step1, comp, c, wordB]
  · -- ar
    rename_i r dd x y p
    obtain ⟨a, vs, e, ha, o, o2, rfl, ho, ho2⟩ := hi
    cases e
    obtain ⟨hd, hx, hy, hp⟩ := ok
    refine ⟨_, rfl, ia, _, _, _, rfl, rfl, SqT.of ha, rfl, _, rfl, _, rfl, ia, _, _, _, rfl, rfl, SqT.of ha, rfl, d.fa, _, _, _, d.ra, _, _, d.rs, rfl, S.f, S.s.r, ho, S.op hx, _, rfl, rfl, _, rfl, if_false_of (show decide (V.str (arN r) = V.str "move") = false by cases r <;> decide) ⟨_, rfl, rfl, _, rfl, if_false_of (show decide (V.str (arN r) = V.str "neg") = false by cases r <;> decide) ⟨_, rfl, rfl, _, rfl, if_false_of (show decide (V.str (arN r) = V.str "abs") = false by cases r <;> decide) ⟨_, rfl, _, rfl, ia, _, _, _, rfl, rfl, SqT.of ha, rfl, d.fa, _, _, _, d.ra, _, _, d.rs, rfl, S.f, S.s.r, ho2, S.op hy, _, rfl, rfl, _, rfl, if_false_of (show decide (V.str (arN r) = V.str "less") = false by cases r <;> decide) ⟨_, rfl, rfl, _, rfl, if_false_of (show decide (V.str (arN r) = V.str "equal") = false by cases r <;> decide) ⟨_, rfl, _, rfl, _, rfl, r, _, _, rfl, Wn.val_word S.ok.rw hx, Wn.val_word S.ok.rw hy, fun w H1 ex t1 => ?_, fun H1 ex t1 => ?_⟩⟩⟩⟩⟩⟩
    · have S1 := S.st t1
      have ha1 := t1.tup ha
      cases hw : wordB w with
      | true =>
        obtain ⟨w1, w2⟩ := wB hw
        exact ⟨_, rfl, rfl, _, rfl, if_false_of (decide_eq_false (fun z => by cases z)) ⟨_, rfl, _, rfl, _, _, rfl, rfl, _, rfl, if_false_of (decide_eq_false w1) ⟨_, rfl, _, _, rfl, rfl, _, rfl, if_false_of (decide_eq_false w2) ⟨_, rfl, _, _, rfl, DGet.k (k := .inr "registers") S1.f, _, rfl, _, rfl, _, rfl, ia, _, _, _, rfl, rfl, SqT.of ha1, rfl, d.ra, _, (dd : Int), dd, rfl, rfl, S1.s.r, ixN_nat (by rw [List.length_map, S.len]; exact hd), fin t1 (by simp [step1, comp, ex, hw])⟩⟩⟩⟩
      | false =>
        have st : step1 d.e (d.i0 :: d.r) i d.g d.rs (.ar r dd x y p) = .exc 0 p d.g d.rs := by simp [step1, comp, ex, hw]
        rcases wB' hw with w1 | ⟨w1, w2⟩
        · exact ⟨_, rfl, rfl, _, rfl, if_false_of (decide_eq_false (fun z => by cases z)) ⟨_, rfl, _, rfl, _, _, rfl, rfl, _, rfl, if_true_of (decide_eq_true w1) (if_true_of rfl ⟨_, rfl, _, rfl, ia, _, _, _, rfl, rfl, SqT.of ha1, rfl, by show 2 ≤ sizeLine; decide, exc t1 st⟩)⟩⟩
        · exact ⟨_, rfl, rfl, _, rfl, if_false_of (decide_eq_false (fun z => by cases z)) ⟨_, rfl, _, rfl, _, _, rfl, rfl, _, rfl, if_false_of (decide_eq_false w1) ⟨_, rfl, _, _, rfl, rfl, _, rfl, if_true_of (decide_eq_true w2) ⟨_, rfl, _, rfl, ia, _, _, _, rfl, rfl, SqT.of ha1, rfl, by show 2 ≤ sizeLine; decide, exc t1 st⟩⟩⟩⟩
    · have ha1 := t1.tup ha
      have st : step1 d.e (d.i0 :: d.r) i d.g d.rs (.ar r dd x y p) = .exc 0 p d.g d.rs := by simp [step1, comp, ex]
      exact ⟨_, rfl, rfl, _, rfl, if_true_of (decide_eq_true rfl) (if_true_of rfl ⟨_, rfl, _, rfl, ia, _, _, _, rfl, rfl, SqT.of ha1, rfl, by show 2 ≤ sizeLine; decide, exc t1 st⟩)⟩
end
end WX
/-! ## WL4 -/
set_option Elab.async false
set_option linter.all false
set_option maxRecDepth 100000
set_option maxHeartbeats 2000000
/-! The law's own machine: cells, again, the other instructions. -/
namespace WX
open PySem PySem.Spec PyProof.Rows L2 He
open Wn (Op Ar Ins Rg Un Mod G Out Nx Word wordB exact val StOk EnvOk InsOk OpOk step1 ModOk UnOk comp mu setAll push pop back NxOk Pot Keeps)
local macro_rules | `(tactic| walk_at "new") => `(tactic| (intro p hp; generalize hG : upd _ p _ = H5; obtain ⟨s5, h5⟩ := gnew hG hp; clear hG))
theorem LSit.flt {K : PySem.W.Frag} {H : Hp} {d : LDat} {Q : VK} (S : LSit K H d) {rs : List Int} (q : LPost d.L d.e.ins d.cas d.ra H Q (.fault d.g rs)) : ∀ t, H t = none → Q .non (upd (upd H t (.tup [.str "fault"])) d.L.rh (.dK (lrK d.L { gv d.g with en := .ref t }))) := fun t ht => by
  have t1 : Stp S0 H (upd H t (.tup [.str "fault"])) := Stp.new ht
  obtain ⟨l1, s1⟩ := (S.s.l.st t1).set { gv d.g with en := .ref t }
  refine q _ t _ (t1.z.trans (s1.mono fun a z => .inl z)) l1 ⟨rfl, rfl⟩ ?_
  rw [upd_ne (ne_of (t1.at S.s.l.run fun z => z.elim) upd_same (by intro z; cases z)).symm]
  exact upd_same
def isCells : Ins → Prop | .load .. => True | .store .. => True | _ => False
section
variable {P : Program} {w : World} {K : PySem.W.Frag} {mg : Str → Option Value} {base : Heap}
theorem ok_lcells (T : Txt w K mg) : Def P w K mg base CX0 2 "_law_cells" ["_law_run_here", "_law_frame", "_law_instruction_here"] (spLAct K isCells) := by
  have G_law_value := ok_lvalue (P := P) (base := base) T
  have G_law_outer := ok_louter (P := P) (base := base) T
  refine D_law_cells T (fun vs H Q E h => ?_) (fun cdv A outer s H vs Q E hr h => ?_)
  · obtain ⟨d, ia, ins, i, rfl, _⟩ := h
    rfl
  obtain ⟨d, ia, ins, i, rfl, S, hi, ok, hk, hb, q⟩ := h
  refine ⟨_, (pss_cons (ps_if (pt_cmpR op_eq (pe_ix ix_tup (pv 2) pe_int (fun _ _ => rfl)) pe_str (nomark _)) (pss_cons (ps_set (i := 3) sc_law_cells.nd rfl (Or.inl rfl) (pe_callD G_law_value hr (by omega) rfl pass0 (pa_cons (pv 1) (pa_cons (pe_ix ix_tup (pv 2) pe_int (fun _ _ => rfl)) pa_nil)))) (pss_cons (ps_if (PW.pt (pw_or (pt_cmpR op_lt (pv 3) pe_int (nomark _)) (pw_or1 (pt_cmpR op_ge (pv 3) (pe_ix ix_tup (pv 2) pe_int (fun _ _ => rfl)) (nomark _))))) (pss_cons (ps_dput (hu_of hr) (pv 0) pe_str (pe_tup (pa_cons pe_str pa_nil)) rfl) (pss_one (ps_ret pe_non))) pss_nil) (pss_cons (ps_set (i := 4) sc_law_cells.nd rfl (Or.inl rfl) (pe_dget (hu_of hr) (pv 1) pe_str (fun _ _ => rfl))) (pss_cons (ps_asg (pe_ix ix_list (pe_dget (hu_of hr) (pe_callD G_law_outer hr (by omega) rfl pass0 (pa_cons (pv 1) (pa_cons (pe_ix ix_tup (pv 2) pe_int (fun _ _ => rfl)) pa_nil))) pe_str (fun _ _ => rfl)) (pe_op op_add (pe_ix ix_tup (pv 2) pe_int (fun _ _ => rfl)) (pv 3)) (fun _ _ => rfl)) (pg_sub (pv 4) (pe_ix ix_tup (pv 2) pe_int (fun _ _ => rfl)) set_list)) (pss_one (ps_ret pe_non)))))) pss_nil) (pss_cons (ps_set (i := 3) sc_law_cells.nd rfl (Or.inl rfl) (pe_callD G_law_value hr (by omega) rfl pass0 (pa_cons (pv 1) (pa_cons (pe_ix ix_tup (pv 2) pe_int (fun _ _ => rfl)) pa_nil)))) (pss_cons (ps_if (PW.pt (pw_or (pt_cmpR op_lt (pv 3) pe_int (nomark _)) (pw_or1 (pt_cmpR op_ge (pv 3) (pe_ix ix_tup (pv 2) pe_int (fun _ _ => rfl)) (nomark _))))) (pss_cons (ps_dput (hu_of hr) (pv 0) pe_str (pe_tup (pa_cons pe_str pa_nil)) rfl) (pss_one (ps_ret pe_non))) pss_nil) (pss_cons (ps_set (i := 4) sc_law_cells.nd rfl (Or.inl rfl) (pe_dget (hu_of hr) (pe_callD G_law_outer hr (by omega) rfl pass0 (pa_cons (pv 1) (pa_cons (pe_ix ix_tup (pv 2) pe_int (fun _ _ => rfl)) pa_nil))) pe_str (fun _ _ => rfl))) (pss_cons (ps_asg (pe_callD G_law_value hr (by omega) rfl pass0 (pa_cons (pv 1) (pa_cons (pe_ix ix_tup (pv 2) pe_int (fun _ _ => rfl)) pa_nil))) (pg_sub (pv 4) (pe_op op_add (pe_ix ix_tup (pv 2) pe_int (fun _ _ => rfl)) (pv 3)) set_list)) (pss_one (ps_ret pe_non))))))), ?_⟩
  cases ins <;> try exact hk.elim
  · -- load
    rename_i dd hh c n x
    obtain ⟨a, vs, e, ha, o, rfl, ho⟩ := hi
    cases e
    obtain ⟨hd, hx, u', U', han, hU', hcn⟩ := ok
    refine ⟨_, rfl, ia, _, _, _, rfl, rfl, SqT.of ha, rfl, rfl, _, rfl, if_true_of (by show decide (V.str ("load" : Str) = V.str "load") = true; decide) ⟨_, rfl, _, rfl, ia, _, _, _, rfl, rfl, SqT.of ha, rfl, d.fa, _, _, _, d.ra, _, _, d.rs, rfl, S.f, S.s.r, ho, S.op hx, _, rfl, _, _, rfl, rfl, _, rfl, ?_⟩⟩
    simp only [step1] at q
    have bad : ¬(0 ≤ Wn.val d.rs x ∧ Wn.val d.rs x < n) → LPost d.L d.e.ins d.cas d.ra H Q (.fault d.g d.rs) := fun c => by rw [if_neg c] at q; exact q
    by_cases c1 : Wn.val d.rs x < 0
    · have q := bad (by omega)
      exact if_true_of (decide_eq_true c1) (if_true_of rfl ⟨by show 1 ≤ sizeLine; decide, fun t ht => ⟨_, rfl, d.L.rh, _, rfl, DPut.k (k := .inr "ending") ((Stp.new (S := S0) ht).at S.s.l.run fun z => z.elim) (by show 10 < sizeLine; decide), S.flt q t ht⟩⟩)
    refine if_false_of (decide_eq_false c1) ⟨_, rfl, _, rfl, ia, _, _, _, rfl, rfl, SqT.of ha, rfl, _, _, rfl, rfl, _, rfl, ?_⟩
    by_cases c2 : Wn.val d.rs x < (n : Int)
    · rw [if_pos ⟨by omega, c2⟩] at q
      obtain ⟨j, Uj, hj, hj2, hUj, hsj⟩ := Wn.ch_at S.ok.ch han
      obtain ⟨cl, hcl, hll, hgd⟩ := Wn.sh_at hsj
      have hU2 := hU'.symm.trans hUj
      cases hU2
      have hlt := (List.getElem?_eq_some_iff.mp hj).1
      refine if_false_of (decide_eq_false (by omega)) ⟨_, rfl, _, _, rfl, DGet.k (k := .inr "registers") S.f, ?_⟩
      refine ⟨_, rfl, _, rfl, ia, _, _, _, rfl, rfl, SqT.of ha, rfl, d.cas, _, hh, d.i0 :: d.r, rfl, S.chv, hlt, S.hop hlt, fun v' hv' => ?_⟩
      have hdr : (d.i0 :: d.r).drop hh = j :: (d.i0 :: d.r).drop (hh + 1) := by
        obtain ⟨h1, h2⟩ := List.getElem?_eq_some_iff.mp hj
        rw [List.drop_eq_getElem_cons h1, h2]
      rw [hdr] at hv'
      obtain ⟨fa', u2, ra2, ca2, par2, rfl, e1, e2, e3⟩ := hv'
      have hce := S.s.c.2 j ca2 cl e2 hcl
      have lt : c + (Wn.val d.rs x).toNat < cl.length := by omega
      have hcc : (cl.map V.int)[c + (Wn.val d.rs x).toNat]? = some (.int (cl.getD (c + (Wn.val d.rs x).toNat) 0)) := by
        rw [List.getElem?_map, List.getD_eq_getElem?_getD, List.getElem?_eq_getElem lt]
        rfl
      have ec : (c : Int) + Wn.val d.rs x = ((c + (Wn.val d.rs x).toNat : Nat) : Int) := by omega
      refine ⟨_, _, rfl, DGet.k (k := .inr "cells") e1, _, rfl, ia, _, _, _, rfl, rfl, SqT.of ha, rfl, _, rfl, _, _, rfl, rfl, ca2, _, _, .int (cl.getD (c + (Wn.val d.rs x).toNat) 0), rfl, rfl, SqL.of hce, ?_, ?_⟩
      · show atI _ ((c : Int) + Wn.val d.rs x) = _
        rw [ec]
        exact atI_nat hcc
      refine ⟨_, rfl, _, rfl, ia, _, _, _, rfl, rfl, SqT.of ha, rfl, d.ra, _, (dd : Int), dd, rfl, rfl, S.s.r, ixN_nat (by rw [List.length_map, S.len]; exact hd), ?_⟩
      have e5 : ((d.g.cs.getD ((d.i0 :: d.r).getD hh 0) []).getD (c + (Wn.val d.rs x).toNat) 0) = cl.getD (c + (Wn.val d.rs x).toNat) 0 := by rw [hj2, hgd]
      rw [e5] at q
      rw [map_set]
      obtain ⟨s1, s2⟩ := S.s.setR (d.rs.set dd (cl.getD (c + (Wn.val d.rs x).toNat) 0))
      exact q _ s2 s1
    · have q := bad (by omega)
      exact if_true_of (decide_eq_true (by omega)) ⟨by show 1 ≤ sizeLine; decide, fun t ht => ⟨_, rfl, d.L.rh, _, rfl, DPut.k (k := .inr "ending") ((Stp.new (S := S0) ht).at S.s.l.run fun z => z.elim) (by show 10 < sizeLine; decide), S.flt q t ht⟩⟩
  · -- store
    rename_i hh c n x y
    obtain ⟨a, vs, e, ha, o, o2, rfl, ho, ho2⟩ := hi
    cases e
    obtain ⟨hx, hy, u', U', han, hU', hcn⟩ := ok
    refine ⟨_, rfl, ia, _, _, _, rfl, rfl, SqT.of ha, rfl, rfl, _, rfl, if_false_of (by show decide (V.str ("store" : Str) = V.str "load") = false; decide) ⟨_, rfl, _, rfl, ia, _, _, _, rfl, rfl, SqT.of ha, rfl, d.fa, _, _, _, d.ra, _, _, d.rs, rfl, S.f, S.s.r, ho, S.op hx, _, rfl, _, _, rfl, rfl, _, rfl, ?_⟩⟩
    simp only [step1] at q
    have bad : ¬(0 ≤ Wn.val d.rs x ∧ Wn.val d.rs x < n) → LPost d.L d.e.ins d.cas d.ra H Q (.fault d.g d.rs) := fun c => by rw [if_neg c] at q; exact q
    by_cases c1 : Wn.val d.rs x < 0
    · have q := bad (by omega)
      exact if_true_of (decide_eq_true c1) (if_true_of rfl ⟨by show 1 ≤ sizeLine; decide, fun t ht => ⟨_, rfl, d.L.rh, _, rfl, DPut.k (k := .inr "ending") ((Stp.new (S := S0) ht).at S.s.l.run fun z => z.elim) (by show 10 < sizeLine; decide), S.flt q t ht⟩⟩)
    refine if_false_of (decide_eq_false c1) ⟨_, rfl, _, rfl, ia, _, _, _, rfl, rfl, SqT.of ha, rfl, _, _, rfl, rfl, _, rfl, ?_⟩
    by_cases c2 : Wn.val d.rs x < (n : Int)
    · rw [if_pos ⟨by omega, c2⟩] at q
      obtain ⟨j, Uj, hj, hj2, hUj, hsj⟩ := Wn.ch_at S.ok.ch han
      obtain ⟨cl, hcl, hll, hgd⟩ := Wn.sh_at hsj
      have hU2 := hU'.symm.trans hUj
      cases hU2
      have hlt := (List.getElem?_eq_some_iff.mp hj).1
      refine if_false_of (decide_eq_false (by omega)) ⟨_, rfl, _, rfl, ia, _, _, _, rfl, rfl, SqT.of ha, rfl, d.cas, _, hh, d.i0 :: d.r, rfl, S.chv, hlt, S.hop hlt, fun v' hv' => ?_⟩
      have hdr : (d.i0 :: d.r).drop hh = j :: (d.i0 :: d.r).drop (hh + 1) := by
        obtain ⟨h1, h2⟩ := List.getElem?_eq_some_iff.mp hj
        rw [List.drop_eq_getElem_cons h1, h2]
      rw [hdr] at hv'
      obtain ⟨fa', u2, ra2, ca2, par2, rfl, e1, e2, e3⟩ := hv'
      have hce := S.s.c.2 j ca2 cl e2 hcl
      have lt : c + (Wn.val d.rs x).toNat < cl.length := by omega
      have ec : (c : Int) + Wn.val d.rs x = ((c + (Wn.val d.rs x).toNat : Nat) : Int) := by omega
      refine ⟨_, _, rfl, DGet.k (k := .inr "cells") e1, ?_⟩
      refine ⟨_, rfl, _, rfl, ia, _, _, _, rfl, rfl, SqT.of ha, rfl, d.fa, _, _, _, d.ra, _, _, d.rs, rfl, S.f, S.s.r, ho2, S.op hy, _, rfl, _, rfl, ia, _, _, _, rfl, rfl, SqT.of ha, rfl, _, rfl, _, _, rfl, rfl, ca2, _, _, (c + (Wn.val d.rs x).toNat), rfl, rfl, hce, ?_, ?_⟩
      · show ixN _ ((c : Int) + Wn.val d.rs x) = _
        rw [ec]
        exact ixN_nat (by rw [List.length_map]; exact lt)
      rw [hj2, hgd] at q
      rw [map_set]
      obtain ⟨s1, s2⟩ := S.s.cell e2 hcl (cl.set (c + (Wn.val d.rs x).toNat) (Wn.val d.rs y))
      exact q _ s2 s1
    · have q := bad (by omega)
      exact if_true_of (decide_eq_true (by omega)) ⟨by show 1 ≤ sizeLine; decide, fun t ht => ⟨_, rfl, d.L.rh, _, rfl, DPut.k (k := .inr "ending") ((Stp.new (S := S0) ht).at S.s.l.run fun z => z.elim) (by show 10 < sizeLine; decide), S.flt q t ht⟩⟩
theorem ok_lagain (T : Txt w K mg) : Def P w K mg base CX0 2 "_law_again" ["_law_run_here", "_law_frame", "_law_instruction_here"] (spLAct K isAgain) := by
  have G_law_value := ok_lvalue (P := P) (base := base) T
  refine D_law_again T (fun vs H Q E h => ?_) (fun cdv A outer s H vs Q E hr h => ?_)
  · obtain ⟨d, ia, ins, i, rfl, _⟩ := h
    rfl
  obtain ⟨d, ia, ins, i, rfl, S, hi, ok, hk, hb, q⟩ := h
  refine ⟨_, (pss_cons (ps_set (i := 3) sc_law_again.nd rfl (Or.inl rfl) (pe_callD G_law_value hr (by omega) rfl pass0 (pa_cons (pv 1) (pa_cons (pe_ix ix_tup (pv 2) pe_int (fun _ _ => rfl)) pa_nil)))) (pss_cons (ps_set (i := 4) sc_law_again.nd rfl (Or.inl rfl) (pe_callD G_law_value hr (by omega) rfl pass0 (pa_cons (pv 1) (pa_cons (pe_ix ix_tup (pv 2) pe_int (fun _ _ => rfl)) pa_nil)))) (pss_cons (ps_set (i := 5) sc_law_again.nd rfl (Or.inl rfl) (pe_dget (hu_of hr) (pv 0) pe_str (fun _ _ => rfl))) (pss_cons (ps_if (PW.pt (pw_or (pt_cmpR op_lt (pv 3) pe_int (nomark _)) (pw_or (pt_cmpR op_ge (pv 3) (pe_callB call_len_seq (by rfl) (b_len T) PySem.boot_len (pa_cons (pe_fld (pv 5) rfl) pa_nil)) (nomark _)) (pw_or (pt_cmpR op_lt (pv 4) pe_int (nomark _)) (pw_or1 (pt_cmpR op_ge (pv 4) (pe_callB call_len_seq (by rfl) (b_len T) PySem.boot_len (pa_cons (pe_fld (pv 5) rfl) pa_nil)) (nomark _))))))) (pss_cons (ps_dput (hu_of hr) (pv 0) pe_str (pe_tup (pa_cons pe_str pa_nil)) rfl) (pss_one (ps_ret pe_non))) pss_nil) (pss_one (ps_ret (pe_lst (pa_cons (pv 3) (pa_cons (pv 4) pa_nil))))))))), ?_⟩
  cases ins <;> try exact hk.elim
  rename_i x y
  obtain ⟨a, vs, e, ha, o, o2, rfl, ho, ho2⟩ := hi
  cases e
  obtain ⟨hx, hy⟩ := ok
  obtain ⟨mx, mfs, mt, mn, mp, mus, mps, M⟩ := S.mo
  have ln : ((d.nms.map V.str).length : Int) = 5 := by rw [List.length_map, M.n5]; rfl
  have lp : (mps.length : Int) = 5 := by rw [M.pl.1, M.p5]; rfl
  refine ⟨_, rfl, _, rfl, ia, _, _, _, rfl, rfl, SqT.of ha, rfl, d.fa, _, _, _, d.ra, _, _, d.rs, rfl, S.f, S.s.r, ho, S.op hx, ?_⟩
  refine ⟨_, rfl, _, rfl, ia, _, _, _, rfl, rfl, SqT.of ha, rfl, d.fa, _, _, _, d.ra, _, _, d.rs, rfl, S.f, S.s.r, ho2, S.op hy, ?_⟩
  refine ⟨_, rfl, _, _, rfl, DGet.k (k := .inr "module") S.s.l.run, ?_⟩
  simp only [step1] at q
  have bad : ¬(0 ≤ Wn.val d.rs x ∧ Wn.val d.rs x < 5 ∧ 0 ≤ Wn.val d.rs y ∧ Wn.val d.rs y < 5) → LPost d.L d.e.ins d.cas d.ra H Q (.fault d.g d.rs) := fun c => by rw [if_neg c] at q; exact q
  refine ⟨_, rfl, _, _, rfl, rfl, _, rfl, ?_⟩
  by_cases c1 : Wn.val d.rs x < 0
  · have q := bad (by omega)
    exact if_true_of (decide_eq_true c1) (if_true_of rfl ⟨by show 1 ≤ sizeLine; decide, fun t ht => ⟨_, rfl, d.L.rh, _, rfl, DPut.k (k := .inr "ending") ((Stp.new (S := S0) ht).at S.s.l.run fun z => z.elim) (by show 10 < sizeLine; decide), S.flt q t ht⟩⟩)
  refine if_false_of (decide_eq_false c1) ⟨_, rfl, _, rfl, _, _, _, _, _, rfl, M.at_, cl_Module T, na_Module_names T, M.names, mn, _, rfl, .inr (SqT.of M.naA), _, _, rfl, rfl, _, rfl, ?_⟩
  by_cases c2 : Wn.val d.rs x < ((d.nms.map V.str).length : Int)
  · refine if_false_of (decide_eq_false (by omega)) ⟨_, rfl, _, _, rfl, rfl, _, rfl, ?_⟩
    by_cases c3 : Wn.val d.rs y < 0
    · have q := bad (by omega)
      exact if_true_of (decide_eq_true c3) (if_true_of rfl ⟨by show 1 ≤ sizeLine; decide, fun t ht => ⟨_, rfl, d.L.rh, _, rfl, DPut.k (k := .inr "ending") ((Stp.new (S := S0) ht).at S.s.l.run fun z => z.elim) (by show 10 < sizeLine; decide), S.flt q t ht⟩⟩)
    refine if_false_of (decide_eq_false c3) ⟨_, rfl, _, rfl, _, _, _, _, _, rfl, M.at_, cl_Module T, na_Module_places T, M.places, mp, _, rfl, .inr (SqT.of M.plA), _, _, rfl, rfl, _, rfl, ?_⟩
    by_cases c4 : Wn.val d.rs y < (mps.length : Int)
    · rw [ln] at c2
      refine if_false_of (decide_eq_false (by omega)) ⟨_, rfl, _, rfl, by show 2 ≤ sizeLine; decide, fun t ht => ?_⟩
      rw [lp] at c4
      rw [if_pos ⟨by omega, c2, by omega, c4⟩] at q
      have t2 : Stp S0 H (upd H t (.lst [.int (Wn.val d.rs x), .int (Wn.val d.rs y)])) := Stp.new ht
      refine q _ t t2.z (S.s.st t2) (.of ht) ?_
      rw [upd_same, Int.toNat_of_nonneg (by omega), Int.toNat_of_nonneg (by omega)]
    · have q := bad (by omega)
      exact if_true_of (decide_eq_true (by omega)) ⟨by show 1 ≤ sizeLine; decide, fun t ht => ⟨_, rfl, d.L.rh, _, rfl, DPut.k (k := .inr "ending") ((Stp.new (S := S0) ht).at S.s.l.run fun z => z.elim) (by show 10 < sizeLine; decide), S.flt q t ht⟩⟩
  · have q := bad (by omega)
    exact if_true_of (decide_eq_true (by omega)) (if_true_of rfl ⟨by show 1 ≤ sizeLine; decide, fun t ht => ⟨_, rfl, d.L.rh, _, rfl, DPut.k (k := .inr "ending") ((Stp.new (S := S0) ht).at S.s.l.run fun z => z.elim) (by show 10 < sizeLine; decide), S.flt q t ht⟩⟩)
end
end WX
/-! ## WL5 -/
set_option Elab.async false
set_option linter.all false
set_option maxRecDepth 100000
set_option maxHeartbeats 2000000
/-! The law's own machine: one instruction. -/
namespace WX
open PySem PySem.Spec PyProof.Rows L2 He
open Wn (Op Ar Ins Rg Un Mod G Out Nx Word wordB exact val StOk EnvOk InsOk OpOk step1 ModOk UnOk comp mu setAll push pop back NxOk Pot Keeps)
local macro_rules | `(tactic| walk_at "new") => `(tactic| (intro p hp; generalize hG : upd _ p _ = H5; obtain ⟨s5, h5⟩ := gnew hG hp; clear hG))
def isPlain : Ins → Prop | .jump _ => False | .branch _ _ => False | .call .. => False | .ret _ => False | _ => True
theorem LLite.g {H : Hp} {L : LD} {ins : List Int} {g g' : G} {v : LV} (l : LLite H L ins g v) (h1 : g'.evs = g.evs) (h2 : g'.seen = g.seen) : LLite H L ins g' v := ⟨l.run, l.inp, by rw [h1]; exact l.md, by rw [h2]; exact l.sn⟩
section
variable {P : Program} {w : World} {K : PySem.W.Frag} {mg : Str → Option Value} {base : Heap}
theorem ok_lstep (T : Txt w K mg) : Def P w K mg base CX0 3 "_law_step" ["_law_run_here", "_law_frame", "_law_instruction_here"] (spLAct K isPlain) := by
  have G_law_value := ok_lvalue (P := P) (base := base) T
  have G_law_again := ok_lagain (P := P) (base := base) T
  have G_law_cells := ok_lcells (P := P) (base := base) T
  have G_law_compute := ok_lcompute (P := P) (base := base) T
  refine D_law_step T (fun vs H Q E h => ?_) (fun cdv A outer s H vs Q E hr h => ?_)
  · obtain ⟨d, ia, ins, i, rfl, _⟩ := h
    rfl
  obtain ⟨d, ia, ins, i, rfl, S, hi, ok, hk, hb, q⟩ := h
  refine ⟨_, (pss_cons (ps_set (i := 3) sc_law_step.nd rfl (Or.inl rfl) (pe_ix ix_tup (pv 2) pe_int (fun _ _ => rfl))) (pss_cons (ps_if (pt_cmpR op_eq (pv 3) pe_str (nomark _)) (pss_cons (ps_if (pt_cmpR op_eq (pe_dget (hu_of hr) (pv 0) pe_str (fun _ _ => rfl)) pe_int (nomark _)) (pss_one (ps_dput (hu_of hr) (pv 0) pe_str (pe_tup (pa_cons pe_str pa_nil)) rfl)) pss_nil) (pss_one (ps_dput (hu_of hr) (pv 0) pe_str (pe_op op_sub (pe_dget (hu_of hr) (pv 0) pe_str (fun _ _ => rfl)) pe_int) rfl))) (pss_one (ps_if (pt_cmpR op_eq (pv 3) pe_str (nomark _)) (pss_one (ps_expr (pe_bm PySem.F.plainAttrs_list PySem.F.slot_list_append PySem.F.type_list_append mt_append (pe_dget (hu_of hr) (pv 0) pe_str (fun _ _ => rfl)) (pa_cons (pe_tup (pa_cons pe_str (pa_cons (pe_callD G_law_value hr (by omega) rfl pass0 (pa_cons (pv 1) (pa_cons (pe_ix ix_tup (pv 2) pe_int (fun _ _ => rfl)) pa_nil))) pa_nil))) pa_nil)))) (pss_one (ps_if (pt_cmpR op_eq (pv 3) pe_str (nomark _)) (pss_cons (ps_if (pt_cmpR op_eq (pe_dget (hu_of hr) (pv 0) pe_str (fun _ _ => rfl)) (pe_callB call_len_seq (by rfl) (b_len T) PySem.boot_len (pa_cons (pe_dget (hu_of hr) (pv 0) pe_str (fun _ _ => rfl)) pa_nil)) (nomark _)) (pss_one (ps_ret (pe_lst (pa_cons pe_int (pa_cons (pe_ix ix_tup (pv 2) pe_int (fun _ _ => rfl)) pa_nil))))) pss_nil) (pss_cons (ps_set (i := 4) sc_law_step.nd rfl (Or.inl rfl) (pe_dget (hu_of hr) (pv 1) pe_str (fun _ _ => rfl))) (pss_cons (ps_asg (pe_ix ix_list (pe_dget (hu_of hr) (pv 0) pe_str (fun _ _ => rfl)) (pe_dget (hu_of hr) (pv 0) pe_str (fun _ _ => rfl)) (fun _ _ => rfl)) (pg_sub (pv 4) (pe_ix ix_tup (pv 2) pe_int (fun _ _ => rfl)) set_list)) (pss_cons (ps_expr (pe_bm PySem.F.plainAttrs_list PySem.F.slot_list_append PySem.F.type_list_append mt_append (pe_dget (hu_of hr) (pv 0) pe_str (fun _ _ => rfl)) (pa_cons (pe_tup (pa_cons pe_str (pa_cons (pe_ix ix_list (pv 4) (pe_ix ix_tup (pv 2) pe_int (fun _ _ => rfl)) (fun _ _ => rfl)) pa_nil))) pa_nil))) (pss_one (ps_dput (hu_of hr) (pv 0) pe_str (pe_op op_add (pe_dget (hu_of hr) (pv 0) pe_str (fun _ _ => rfl)) pe_int) rfl)))))) (pss_one (ps_if (pt_cmpR op_eq (pv 3) pe_str (nomark _)) (pss_one (ps_ret (pe_lst (pa_cons (pe_ix ix_tup (pv 2) pe_int (fun _ _ => rfl)) (pa_cons (pe_ix ix_tup (pv 2) pe_int (fun _ _ => rfl)) pa_nil))))) (pss_one (ps_if (pt_cmpR op_eq (pv 3) pe_str (nomark _)) (pss_one (ps_ret (pe_callD G_law_again hr (by omega) rfl pass0 (pa_cons (pv 0) (pa_cons (pv 1) (pa_cons (pv 2) pa_nil)))))) (pss_one (ps_if (pt_cmpR op_eq (pv 3) pe_str (nomark _)) (pss_cons (ps_set (i := 5) sc_law_step.nd rfl (Or.inl rfl) (pe_callD G_law_value hr (by omega) rfl pass0 (pa_cons (pv 1) (pa_cons (pe_ix ix_tup (pv 2) pe_int (fun _ _ => rfl)) pa_nil)))) (pss_one (ps_if (PW.pt (pw_or (pt_cmpR op_lt (pv 5) (pe_ix ix_tup (pv 2) pe_int (fun _ _ => rfl)) (nomark _)) (pw_or1 (pt_cmpR op_gt (pv 5) (pe_ix ix_tup (pv 2) pe_int (fun _ _ => rfl)) (nomark _))))) (pss_one (ps_ret (pe_lst (pa_cons pe_int (pa_cons (pe_ix ix_tup (pv 2) pe_int (fun _ _ => rfl)) pa_nil))))) pss_nil))) (pss_one (ps_if (PW.pt (pw_or (pt_cmpR op_eq (pv 3) pe_str (nomark _)) (pw_or1 (pt_cmpR op_eq (pv 3) pe_str (nomark _))))) (pss_one (ps_ret (pe_callD G_law_cells hr (by omega) rfl pass0 (pa_cons (pv 0) (pa_cons (pv 1) (pa_cons (pv 2) pa_nil)))))) (pss_one (ps_ret (pe_callD G_law_compute hr (by omega) rfl pass0 (pa_cons (pv 0) (pa_cons (pv 1) (pa_cons (pv 2) pa_nil))))))))))))))))))) (pss_one (ps_ret pe_non)))), ?_⟩
  have hi' := hi
  have hrun := S.s.l.run
  obtain ⟨lm, hm1, hm2⟩ := S.s.l.md
  have hbl : lm.length < sizeLine := by rw [hm2.1]; exact hb
  cases ins with
  | jump t => exact hk.elim
  | branch x t => exact hk.elim
  | call a b c e f => exact hk.elim
  | ret vs => exact hk.elim
  | tick =>
    obtain ⟨a, vs, e, ha, rfl⟩ := hi'
    cases e
    simp only [step1] at q
    refine ⟨_, rfl, ia, _, _, _, rfl, rfl, SqT.of ha, rfl, _, rfl, rfl, _, rfl, if_true_of (by show decide (V.str ("tick" : Str) = V.str "tick") = true; decide) ⟨_, rfl, _, _, rfl, DGet.k (k := .inr "fuel") hrun, rfl, _, rfl, ?_⟩⟩
    by_cases c : d.g.fuel = 0
    · rw [if_pos c] at q
      refine if_true_of (decide_eq_true (by show V.int (d.g.fuel : Int) = V.int 0; rw [c]; rfl)) ⟨by show 1 ≤ sizeLine; decide, ?_⟩
      walk_at "new"; rename_i t ht H1 t1 h1
      obtain ⟨l1, s1⟩ := (S.s.l.st t1).set { gv d.g with en := .ref t }
      have e1 : (upd H1 d.L.rh (.dK (lrK d.L { gv d.g with en := .ref t }))) t = some (.tup [.str "exhausted"]) := by
        rw [upd_ne (ne_of (t1.at hrun fun z => z.elim) h1 (by intro z; cases z)).symm]
        exact h1
      obtain ⟨l2, s2⟩ := l1.set { gv d.g with en := .ref t, fu := (d.g.fuel : Int) - 1 }
      refine ⟨_, rfl, d.L.rh, _, rfl, DPut.k (k := .inr "ending") (t1.at hrun fun z => z.elim) (by show 10 < sizeLine; decide), ?_⟩
      refine ⟨_, rfl, _, _, rfl, DGet.k (k := .inr "fuel") l1.run, _, _, rfl, rfl, _, rfl, d.L.rh, _, rfl, DPut.k (k := .inr "fuel") l1.run (by show 10 < sizeLine; decide), ?_⟩
      refine q _ t _ (t1.z.trans ((s1.mono fun a z => .inl z).trans (s2.mono fun a z => .inl z))) l2 ⟨rfl, rfl⟩ ?_
      rw [upd_ne (ne_of l1.run e1 (by intro z; cases z)).symm]
      exact e1
    · rw [if_neg c] at q
      refine if_false_of (decide_eq_false fun z => c (by have : (d.g.fuel : Int) = 0 := V.int.inj z; omega)) ?_
      obtain ⟨l2, s2⟩ := S.s.l.set { gv d.g with fu := (d.g.fuel : Int) - 1 }
      refine ⟨_, rfl, _, _, rfl, DGet.k (k := .inr "fuel") hrun, _, _, rfl, rfl, _, rfl, d.L.rh, _, rfl, DPut.k (k := .inr "fuel") hrun (by show 10 < sizeLine; decide), ?_⟩
      have eg : ({ gv d.g with fu := (d.g.fuel : Int) - 1 } : LV) = gv { d.g with fuel := d.g.fuel - 1 } := by
        unfold gv
        dsimp only
        rw [show ((d.g.fuel - 1 : Nat) : Int) = (d.g.fuel : Int) - 1 by omega]
      have l3 : LLite (upd H d.L.rh (.dK (lrK d.L { gv d.g with fu := (d.g.fuel : Int) - 1 }))) d.L d.e.ins { d.g with fuel := d.g.fuel - 1 } (gv { d.g with fuel := d.g.fuel - 1 }) := eg ▸ l2.g rfl rfl
      exact q _ (s2.mono fun a z => .inl z) (S.s.upto s2 l3 rfl S.s.tk)
  | put x =>
    obtain ⟨a, vs, e, ha, o, rfl, ho⟩ := hi'
    cases e
    have hx : OpOk d.U.regs x := ok
    refine ⟨_, rfl, ia, _, _, _, rfl, rfl, SqT.of ha, rfl, _, rfl, rfl, _, rfl, if_false_of (by show decide (V.str ("put" : Str) = V.str "tick") = false; decide) ⟨_, rfl, rfl, _, rfl, if_true_of (by show decide (V.str ("put" : Str) = V.str "put") = true; decide) ⟨_, rfl, _, _, rfl, DGet.k (k := .inr "events") hrun, .inl ⟨rfl, _, SqL.of hm1⟩, _, rfl, _, rfl, ia, _, _, _, rfl, rfl, SqT.of ha, rfl, d.fa, _, _, _, d.ra, _, _, d.rs, rfl, S.f, S.s.r, ho, S.op hx, by show 2 ≤ sizeLine; decide, fun t ht => ?_⟩⟩⟩
    have tm : d.L.md ≠ t := ne_of_none hm1 ht
    obtain ⟨s1, s2⟩ := S.s.ev hm1 true (Wn.val d.rs x) ht
    exact ⟨d.L.md, lm, _, rfl, rfl, (upd_ne tm).trans hm1, hbl, q _ s2 s1⟩
  | get dd p =>
    obtain ⟨a, vs, e, ha, rfl⟩ := hi'
    cases e
    obtain ⟨hd, hp⟩ := ok
    refine ⟨_, rfl, ia, _, _, _, rfl, rfl, SqT.of ha, rfl, _, rfl, rfl, _, rfl, if_false_of (by show decide (V.str ("get" : Str) = V.str "tick") = false; decide) ⟨_, rfl, rfl, _, rfl, if_false_of (by show decide (V.str ("get" : Str) = V.str "put") = false; decide) ⟨_, rfl, rfl, _, rfl, if_true_of (by show decide (V.str ("get" : Str) = V.str "get") = true; decide) ⟨_, rfl, _, _, rfl, DGet.k (k := .inr "taken") hrun, _, rfl, _, _, rfl, DGet.k (k := .inr "inputs") hrun, d.L.inp, _, rfl, .inl (SqL.of S.s.l.inp), rfl, _, rfl, ?_⟩⟩⟩⟩
    have hl : (d.e.ins.map V.int).length = d.e.ins.length := List.length_map _
    by_cases c : d.g.taken = d.e.ins.length
    · have hn : d.e.ins[d.g.taken]? = none := List.getElem?_eq_none_iff.mpr (by omega)
      simp only [step1, hn] at q
      refine if_true_of (decide_eq_true (by show V.int (d.g.taken : Int) = V.int ((d.e.ins.map V.int).length : Int); rw [hl, c])) ⟨_, rfl, ia, _, _, _, rfl, rfl, SqT.of ha, rfl, by show 2 ≤ sizeLine; decide, fun t ht => ?_⟩
      have t2 : Stp S0 H (upd H t (.lst [.int 3, .int p])) := Stp.new ht
      exact q _ t t2.z (S.s.st t2) (.of ht) upd_same
    · have lt : d.g.taken < d.e.ins.length := Nat.lt_of_le_of_ne S.s.tk c
      have hx : d.e.ins[d.g.taken]? = some d.e.ins[d.g.taken] := List.getElem?_eq_getElem lt
      have hx2 : (d.e.ins.map V.int)[d.g.taken]? = some (.int d.e.ins[d.g.taken]) := by rw [List.getElem?_map, hx]; rfl
      simp only [step1, hx] at q
      generalize d.e.ins[d.g.taken] = wv at hx hx2 q
      refine if_false_of (decide_eq_false fun z => c (by have : (d.g.taken : Int) = ((d.e.ins.map V.int).length : Int) := V.int.inj z; rw [hl] at this; omega)) ⟨_, rfl, _, _, rfl, DGet.k (k := .inr "registers") S.f, ?_⟩
      refine ⟨_, rfl, _, _, rfl, DGet.k (k := .inr "inputs") hrun, _, rfl, _, _, rfl, DGet.k (k := .inr "taken") hrun, d.L.inp, _, _, _, rfl, rfl, SqL.of S.s.l.inp, atI_nat hx2, ?_⟩
      refine ⟨_, rfl, _, rfl, ia, _, _, _, rfl, rfl, SqT.of ha, rfl, d.ra, _, (dd : Int), dd, rfl, rfl, S.s.r, ixN_nat (by rw [List.length_map, S.len]; exact hd), ?_⟩
      obtain ⟨s1, t1⟩ := S.s.setR (d.rs.set dd wv)
      rw [map_set]
      generalize (upd H d.ra (.lst ((d.rs.set dd wv).map V.int))) = H1 at s1 t1
      obtain ⟨lm1, hq1, hq2⟩ := s1.l.md
      have ha1 := t1.tup ha
      have hget : ((d.rs.set dd wv).map V.int)[dd]? = some (.int wv) := by
        rw [List.getElem?_map, List.getElem?_set_self (by rw [S.len]; exact hd)]
        rfl
      refine ⟨_, rfl, _, _, rfl, DGet.k (k := .inr "events") s1.l.run, .inl ⟨rfl, _, SqL.of hq1⟩, _, rfl, _, rfl, ia, _, _, _, rfl, rfl, SqT.of ha1, rfl, d.ra, _, (dd : Int), _, rfl, rfl, SqL.of s1.r, atI_nat hget, by show 2 ≤ sizeLine; decide, fun t ht => ?_⟩
      have tm : d.L.md ≠ t := ne_of_none hq1 ht
      obtain ⟨s2, t2⟩ := s1.ev hq1 false wv ht
      refine ⟨d.L.md, lm1, _, rfl, rfl, (upd_ne tm).trans hq1, by rw [hq2.1]; exact hb, ?_⟩
      obtain ⟨l3, s3⟩ := s2.l.set { gv { d.g with evs := d.g.evs ++ [(false, wv)] } with tk := d.g.taken + 1 }
      refine ⟨_, rfl, _, _, rfl, DGet.k (k := .inr "taken") s2.l.run, _, _, rfl, rfl, _, rfl, d.L.rh, _, rfl, DPut.k (k := .inr "taken") s2.l.run (by show 10 < sizeLine; decide), ?_⟩
      have s4 := s2.upto (g' := { d.g with taken := d.g.taken + 1, evs := d.g.evs ++ [(false, wv)] }) s3 (l3.g rfl rfl) rfl (by show d.g.taken + 1 ≤ d.e.ins.length; omega)
      exact q _ (t1.trans (t2.trans (s3.mono fun a z => .inl z))) s4
  | raise k p =>
    obtain ⟨a, vs, e, ha, rfl⟩ := hi'
    cases e
    refine ⟨_, rfl, ia, _, _, _, rfl, rfl, SqT.of ha, rfl, _, rfl, rfl, _, rfl, if_false_of (by show decide (V.str ("raise" : Str) = V.str "tick") = false; decide) ⟨_, rfl, rfl, _, rfl, if_false_of (by show decide (V.str ("raise" : Str) = V.str "put") = false; decide) ⟨_, rfl, rfl, _, rfl, if_false_of (by show decide (V.str ("raise" : Str) = V.str "get") = false; decide) ⟨_, rfl, rfl, _, rfl, if_true_of (by show decide (V.str ("raise" : Str) = V.str "raise") = true; decide) ⟨_, rfl, ia, _, _, _, rfl, rfl, SqT.of ha, rfl, _, rfl, ia, _, _, _, rfl, rfl, SqT.of ha, rfl, by show 2 ≤ sizeLine; decide, fun t ht => ?_⟩⟩⟩⟩⟩
    have t2 : Stp S0 H (upd H t (.lst [.int k, .int p])) := Stp.new ht
    exact q _ t t2.z (S.s.st t2) (.of ht) upd_same
  | again x y =>
    obtain ⟨a, vs, e, ha, o, o2, rfl, ho, ho2⟩ := hi'
    cases e
    exact ⟨_, rfl, ia, _, _, _, rfl, rfl, SqT.of ha, rfl, _, rfl, rfl, _, rfl, if_false_of (by show decide (V.str ("again" : Str) = V.str "tick") = false; decide) ⟨_, rfl, rfl, _, rfl, if_false_of (by show decide (V.str ("again" : Str) = V.str "put") = false; decide) ⟨_, rfl, rfl, _, rfl, if_false_of (by show decide (V.str ("again" : Str) = V.str "get") = false; decide) ⟨_, rfl, rfl, _, rfl, if_false_of (by show decide (V.str ("again" : Str) = V.str "raise") = false; decide) ⟨_, rfl, rfl, _, rfl, if_true_of (by show decide (V.str ("again" : Str) = V.str "again") = true; decide) ⟨_, rfl, _, rfl, _, rfl, d, ia, _, i, rfl, S, hi, ok, trivial, hb, q⟩⟩⟩⟩⟩⟩
  | check x lo hi2 p =>
    obtain ⟨a, vs, e, ha, o, rfl, ho⟩ := hi'
    cases e
    obtain ⟨hx, hp⟩ := ok
    refine ⟨_, rfl, ia, _, _, _, rfl, rfl, SqT.of ha, rfl, _, rfl, rfl, _, rfl, if_false_of (by show decide (V.str ("check" : Str) = V.str "tick") = false; decide) ⟨_, rfl, rfl, _, rfl, if_false_of (by show decide (V.str ("check" : Str) = V.str "put") = false; decide) ⟨_, rfl, rfl, _, rfl, if_false_of (by show decide (V.str ("check" : Str) = V.str "get") = false; decide) ⟨_, rfl, rfl, _, rfl, if_false_of (by show decide (V.str ("check" : Str) = V.str "raise") = false; decide) ⟨_, rfl, rfl, _, rfl, if_false_of (by show decide (V.str ("check" : Str) = V.str "again") = false; decide) ⟨_, rfl, rfl, _, rfl, if_true_of (by show decide (V.str ("check" : Str) = V.str "check") = true; decide) ⟨_, rfl, _, rfl, ia, _, _, _, rfl, rfl, SqT.of ha, rfl, d.fa, _, _, _, d.ra, _, _, d.rs, rfl, S.f, S.s.r, ho, S.op hx, _, rfl, _, rfl, ia, _, _, _, rfl, rfl, SqT.of ha, rfl, _, _, rfl, rfl, _, rfl, ?_⟩⟩⟩⟩⟩⟩⟩
    simp only [step1] at q
    have bad : ¬(lo ≤ Wn.val d.rs x ∧ Wn.val d.rs x ≤ hi2) → ∀ t, H t = none → Q (.ref t) (upd H t (.lst [.int 0, .int p])) := fun c t ht => by
      rw [if_neg c] at q
      have t2 : Stp S0 H (upd H t (.lst [.int 0, .int p])) := Stp.new ht
      exact q _ t t2.z (S.s.st t2) (.of ht) upd_same
    by_cases c1 : Wn.val d.rs x < lo
    · exact if_true_of (decide_eq_true c1) (if_true_of rfl ⟨_, rfl, ia, _, _, _, rfl, rfl, SqT.of ha, rfl, by show 2 ≤ sizeLine; decide, bad (by omega)⟩)
    refine if_false_of (decide_eq_false c1) ⟨_, rfl, _, rfl, ia, _, _, _, rfl, rfl, SqT.of ha, rfl, _, _, rfl, rfl, _, rfl, ?_⟩
    by_cases c2 : Wn.val d.rs x ≤ hi2
    · rw [if_pos ⟨by omega, c2⟩] at q
      exact if_false_of (decide_eq_false (by omega)) (q H Stp.refl S.s)
    · exact if_true_of (decide_eq_true (by omega)) ⟨_, rfl, ia, _, _, _, rfl, rfl, SqT.of ha, rfl, by show 2 ≤ sizeLine; decide, bad (fun z => c2 z.2)⟩
  | load dd hh c n x =>
    obtain ⟨a, vs, e, ha, o, rfl, ho⟩ := hi'
    cases e
    exact ⟨_, rfl, ia, _, _, _, rfl, rfl, SqT.of ha, rfl, _, rfl, rfl, _, rfl, if_false_of (by show decide (V.str ("load" : Str) = V.str "tick") = false; decide) ⟨_, rfl, rfl, _, rfl, if_false_of (by show decide (V.str ("load" : Str) = V.str "put") = false; decide) ⟨_, rfl, rfl, _, rfl, if_false_of (by show decide (V.str ("load" : Str) = V.str "get") = false; decide) ⟨_, rfl, rfl, _, rfl, if_false_of (by show decide (V.str ("load" : Str) = V.str "raise") = false; decide) ⟨_, rfl, rfl, _, rfl, if_false_of (by show decide (V.str ("load" : Str) = V.str "again") = false; decide) ⟨_, rfl, rfl, _, rfl, if_false_of (by show decide (V.str ("load" : Str) = V.str "check") = false; decide) ⟨_, rfl, rfl, _, rfl, if_true_of (by show decide (V.str ("load" : Str) = V.str "load") = true; decide) (if_true_of rfl ⟨_, rfl, _, rfl, _, rfl, d, ia, _, i, rfl, S, hi, ok, trivial, hb, q⟩)⟩⟩⟩⟩⟩⟩⟩
  | store hh c n x y =>
    obtain ⟨a, vs, e, ha, o, o2, rfl, ho, ho2⟩ := hi'
    cases e
    exact ⟨_, rfl, ia, _, _, _, rfl, rfl, SqT.of ha, rfl, _, rfl, rfl, _, rfl, if_false_of (by show decide (V.str ("store" : Str) = V.str "tick") = false; decide) ⟨_, rfl, rfl, _, rfl, if_false_of (by show decide (V.str ("store" : Str) = V.str "put") = false; decide) ⟨_, rfl, rfl, _, rfl, if_false_of (by show decide (V.str ("store" : Str) = V.str "get") = false; decide) ⟨_, rfl, rfl, _, rfl, if_false_of (by show decide (V.str ("store" : Str) = V.str "raise") = false; decide) ⟨_, rfl, rfl, _, rfl, if_false_of (by show decide (V.str ("store" : Str) = V.str "again") = false; decide) ⟨_, rfl, rfl, _, rfl, if_false_of (by show decide (V.str ("store" : Str) = V.str "check") = false; decide) ⟨_, rfl, rfl, _, rfl, if_false_of (by show decide (V.str ("store" : Str) = V.str "load") = false; decide) ⟨_, rfl, rfl, _, rfl, if_true_of (by show decide (V.str ("store" : Str) = V.str "store") = true; decide) ⟨_, rfl, _, rfl, _, rfl, d, ia, _, i, rfl, S, hi, ok, trivial, hb, q⟩⟩⟩⟩⟩⟩⟩⟩⟩
  | move dd x =>
    obtain ⟨a, vs, e, ha, o, rfl, ho⟩ := hi'
    cases e
    exact ⟨_, rfl, ia, _, _, _, rfl, rfl, SqT.of ha, rfl, _, rfl, rfl, _, rfl, if_false_of (by show decide (V.str ("move" : Str) = V.str "tick") = false; decide) ⟨_, rfl, rfl, _, rfl, if_false_of (by show decide (V.str ("move" : Str) = V.str "put") = false; decide) ⟨_, rfl, rfl, _, rfl, if_false_of (by show decide (V.str ("move" : Str) = V.str "get") = false; decide) ⟨_, rfl, rfl, _, rfl, if_false_of (by show decide (V.str ("move" : Str) = V.str "raise") = false; decide) ⟨_, rfl, rfl, _, rfl, if_false_of (by show decide (V.str ("move" : Str) = V.str "again") = false; decide) ⟨_, rfl, rfl, _, rfl, if_false_of (by show decide (V.str ("move" : Str) = V.str "check") = false; decide) ⟨_, rfl, rfl, _, rfl, if_false_of (by show decide (V.str ("move" : Str) = V.str "load") = false; decide) ⟨_, rfl, rfl, _, rfl, if_false_of (by show decide (V.str ("move" : Str) = V.str "store") = false; decide) ⟨_, rfl, _, rfl, _, rfl, d, ia, _, i, rfl, S, hi, ok, trivial, hb, q⟩⟩⟩⟩⟩⟩⟩⟩⟩
  | neg dd x p =>
    obtain ⟨a, vs, e, ha, o, rfl, ho⟩ := hi'
    cases e
    exact ⟨_, rfl, ia, _, _, _, rfl, rfl, SqT.of ha, rfl, _, rfl, rfl, _, rfl, if_false_of (by show decide (V.str ("neg" : Str) = V.str "tick") = false; decide) ⟨_, rfl, rfl, _, rfl, if_false_of (by show decide (V.str ("neg" : Str) = V.str "put") = false; decide) ⟨_, rfl, rfl, _, rfl, if_false_of (by show decide (V.str ("neg" : Str) = V.str "get") = false; decide) ⟨_, rfl, rfl, _, rfl, if_false_of (by show decide (V.str ("neg" : Str) = V.str "raise") = false; decide) ⟨_, rfl, rfl, _, rfl, if_false_of (by show decide (V.str ("neg" : Str) = V.str "again") = false; decide) ⟨_, rfl, rfl, _, rfl, if_false_of (by show decide (V.str ("neg" : Str) = V.str "check") = false; decide) ⟨_, rfl, rfl, _, rfl, if_false_of (by show decide (V.str ("neg" : Str) = V.str "load") = false; decide) ⟨_, rfl, rfl, _, rfl, if_false_of (by show decide (V.str ("neg" : Str) = V.str "store") = false; decide) ⟨_, rfl, _, rfl, _, rfl, d, ia, _, i, rfl, S, hi, ok, trivial, hb, q⟩⟩⟩⟩⟩⟩⟩⟩⟩
  | abs dd x p =>
    obtain ⟨a, vs, e, ha, o, rfl, ho⟩ := hi'
    cases e
    exact ⟨_, rfl, ia, _, _, _, rfl, rfl, SqT.of ha, rfl, _, rfl, rfl, _, rfl, if_false_of (by show decide (V.str ("abs" : Str) = V.str "tick") = false; decide) ⟨_, rfl, rfl, _, rfl, if_false_of (by show decide (V.str ("abs" : Str) = V.str "put") = false; decide) ⟨_, rfl, rfl, _, rfl, if_false_of (by show decide (V.str ("abs" : Str) = V.str "get") = false; decide) ⟨_, rfl, rfl, _, rfl, if_false_of (by show decide (V.str ("abs" : Str) = V.str "raise") = false; decide) ⟨_, rfl, rfl, _, rfl, if_false_of (by show decide (V.str ("abs" : Str) = V.str "again") = false; decide) ⟨_, rfl, rfl, _, rfl, if_false_of (by show decide (V.str ("abs" : Str) = V.str "check") = false; decide) ⟨_, rfl, rfl, _, rfl, if_false_of (by show decide (V.str ("abs" : Str) = V.str "load") = false; decide) ⟨_, rfl, rfl, _, rfl, if_false_of (by show decide (V.str ("abs" : Str) = V.str "store") = false; decide) ⟨_, rfl, _, rfl, _, rfl, d, ia, _, i, rfl, S, hi, ok, trivial, hb, q⟩⟩⟩⟩⟩⟩⟩⟩⟩
  | less dd x y =>
    obtain ⟨a, vs, e, ha, o, o2, rfl, ho, ho2⟩ := hi'
    cases e
    exact ⟨_, rfl, ia, _, _, _, rfl, rfl, SqT.of ha, rfl, _, rfl, rfl, _, rfl, if_false_of (by show decide (V.str ("less" : Str) = V.str "tick") = false; decide) ⟨_, rfl, rfl, _, rfl, if_false_of (by show decide (V.str ("less" : Str) = V.str "put") = false; decide) ⟨_, rfl, rfl, _, rfl, if_false_of (by show decide (V.str ("less" : Str) = V.str "get") = false; decide) ⟨_, rfl, rfl, _, rfl, if_false_of (by show decide (V.str ("less" : Str) = V.str "raise") = false; decide) ⟨_, rfl, rfl, _, rfl, if_false_of (by show decide (V.str ("less" : Str) = V.str "again") = false; decide) ⟨_, rfl, rfl, _, rfl, if_false_of (by show decide (V.str ("less" : Str) = V.str "check") = false; decide) ⟨_, rfl, rfl, _, rfl, if_false_of (by show decide (V.str ("less" : Str) = V.str "load") = false; decide) ⟨_, rfl, rfl, _, rfl, if_false_of (by show decide (V.str ("less" : Str) = V.str "store") = false; decide) ⟨_, rfl, _, rfl, _, rfl, d, ia, _, i, rfl, S, hi, ok, trivial, hb, q⟩⟩⟩⟩⟩⟩⟩⟩⟩
  | equal dd x y =>
    obtain ⟨a, vs, e, ha, o, o2, rfl, ho, ho2⟩ := hi'
    cases e
    exact ⟨_, rfl, ia, _, _, _, rfl, rfl, SqT.of ha, rfl, _, rfl, rfl, _, rfl, if_false_of (by show decide (V.str ("equal" : Str) = V.str "tick") = false; decide) ⟨_, rfl, rfl, _, rfl, if_false_of (by show decide (V.str ("equal" : Str) = V.str "put") = false; decide) ⟨_, rfl, rfl, _, rfl, if_false_of (by show decide (V.str ("equal" : Str) = V.str "get") = false; decide) ⟨_, rfl, rfl, _, rfl, if_false_of (by show decide (V.str ("equal" : Str) = V.str "raise") = false; decide) ⟨_, rfl, rfl, _, rfl, if_false_of (by show decide (V.str ("equal" : Str) = V.str "again") = false; decide) ⟨_, rfl, rfl, _, rfl, if_false_of (by show decide (V.str ("equal" : Str) = V.str "check") = false; decide) ⟨_, rfl, rfl, _, rfl, if_false_of (by show decide (V.str ("equal" : Str) = V.str "load") = false; decide) ⟨_, rfl, rfl, _, rfl, if_false_of (by show decide (V.str ("equal" : Str) = V.str "store") = false; decide) ⟨_, rfl, _, rfl, _, rfl, d, ia, _, i, rfl, S, hi, ok, trivial, hb, q⟩⟩⟩⟩⟩⟩⟩⟩⟩
  | ar r2 dd x y p =>
    obtain ⟨a, vs, e, ha, o, o2, rfl, ho, ho2⟩ := hi'
    cases e
    exact ⟨_, rfl, ia, _, _, _, rfl, rfl, SqT.of ha, rfl, _, rfl, rfl, _, rfl, if_false_of (show decide (V.str (arN r2) = V.str "tick") = false by cases r2 <;> decide) ⟨_, rfl, rfl, _, rfl, if_false_of (show decide (V.str (arN r2) = V.str "put") = false by cases r2 <;> decide) ⟨_, rfl, rfl, _, rfl, if_false_of (show decide (V.str (arN r2) = V.str "get") = false by cases r2 <;> decide) ⟨_, rfl, rfl, _, rfl, if_false_of (show decide (V.str (arN r2) = V.str "raise") = false by cases r2 <;> decide) ⟨_, rfl, rfl, _, rfl, if_false_of (show decide (V.str (arN r2) = V.str "again") = false by cases r2 <;> decide) ⟨_, rfl, rfl, _, rfl, if_false_of (show decide (V.str (arN r2) = V.str "check") = false by cases r2 <;> decide) ⟨_, rfl, rfl, _, rfl, if_false_of (show decide (V.str (arN r2) = V.str "load") = false by cases r2 <;> decide) ⟨_, rfl, rfl, _, rfl, if_false_of (show decide (V.str (arN r2) = V.str "store") = false by cases r2 <;> decide) ⟨_, rfl, _, rfl, _, rfl, d, ia, _, i, rfl, S, hi, ok, trivial, hb, q⟩⟩⟩⟩⟩⟩⟩⟩⟩
end
end WX
/-! ## WL6 -/
set_option Elab.async false
set_option linter.all false
set_option maxRecDepth 100000
set_option maxHeartbeats 2000000
/-! The law's own machine: a call. -/
namespace WX
open PySem PySem.Spec PyProof.Rows L2 He
open Wn (Op Ar Ins Rg Un Mod G Out Nx Word wordB exact val StOk EnvOk InsOk OpOk step1 ModOk UnOk comp mu setAll push pop back NxOk Pot Keeps)
local macro_rules | `(tactic| walk_at "new") => `(tactic| (intro p hp; generalize hG : upd _ p _ = H5; obtain ⟨s5, h5⟩ := gnew hG hp; clear hG))
def LDat.dat (d : LDat) : Dat := { e := d.e, D := ⟨0, 0, 0, 0, 0, 0, 0, 0, 0, 0, 0⟩, g := d.g, cas := d.cas, ra := d.ra, rs := d.rs, fa := d.fa, fx := 0, ua := 0, ca := d.ca, par := d.par, u := d.u, i0 := d.i0, r := d.r, U := d.U, nms := d.nms, pls := d.pls }
theorem lc_lvals {K : PySem.W.Frag} {H : Hp} {d : LDat} (S : LSit K H d) {o : Addr} {vs : List V} {xs : List Op} (hA : H o = some (.tup vs)) (h2 : All2 (opV H) vs xs) (hx : ∀ x ∈ xs, OpOk d.U.regs x) (hlen : xs.length ≤ 1000) {σ : L2.St} {i f : Nat}
    (hf : σ[f]? = some (some (.ref d.fa))) (hi : i < σ.length) (hfi : f ≠ i) {D : Addr} (hD : H D = none) {Qd : Hp → Prop} (k : ∀ H', Stp S0 H H' → H' D = some (.lst ((xs.map (Wn.val d.rs)).map V.int)) → Qd H') :
    ∃ W : Nat → Nat → Hp → Prop, (∃ m, W 0 m (upd H D (.lst []))) ∧ ∀ j m H, W j m H →
      ((Itt K o).stop j H ∧ Qd H) ∨ ((Itt K o).go j H ∧ ∃ Nx : Hp → Prop, (∀ H', Nx H' → ∃ m', m' < m ∧ W (j + 1) m' H') ∧ ∀ x H', (Itt K o).yld j H x H' → gName i x (wipe σ [i]) H' fun σ2 H2 => wipe σ2 [i] = wipe σ [i] ∧ tYes σ2 H2 fun b H3 =>
        if b = true then tCall (spLVal K) [] E0 (tCons (tVar f) (tCons (tVar i) tNil)) σ2 H3 fun y H4 => ∃ acc, H4 D = some (.lst acc) ∧ acc.length < sizeLine ∧ Nx (upd H4 D (.lst (acc ++ [y]))) else Nx H3) := by
  refine lc_tup (xs := vs) (fun j H' => Stp S0 H H' ∧ H' D = some (.lst (((xs.map (Wn.val d.rs)).take j).map V.int))) ⟨Stp.new hD, upd_same⟩ (fun j H' _ p => SqT.of (p.1.tup hA)) (fun j v H' hv p => ?_) fun H' p => ?_
  · obtain ⟨st, hl⟩ := p
    obtain ⟨x, hxj, ho⟩ := h2.get' hv
    have hxm := List.mem_of_getElem? hxj
    have S' := S.st st
    have lenw : (wipe σ [i]).length = σ.length := wipe_length σ [i]
    have ew : wipe σ [i] = σ.set i none := rfl
    have e1 : ((wipe σ [i]).set i (some v))[f]? = some (some (.ref d.fa)) := by
      rw [ew, List.getElem?_set_ne (Ne.symm hfi), List.getElem?_set_ne (Ne.symm hfi)]
      exact hf
    have e2 : ((wipe σ [i]).set i (some v))[i]? = some (some v) := by
      rw [List.getElem?_set_self (by rw [lenw]; exact hi)]
    refine ⟨?_, _, e1, _, e2, d.fa, _, _, _, d.ra, _, x, d.rs, rfl, S'.f, S'.s.r, ho.st st, S.op (hx x hxm), _, hl, ?_, st.over (.of hD), ?_⟩
    · show ((σ.set i none).set i (some v)).set i none = σ.set i none
      rw [List.set_set, List.set_set]
    · refine Nat.lt_of_le_of_lt ?_ (small1000 hlen)
      rw [List.length_map, List.length_take, List.length_map]
      omega
    · rw [upd_same]
      have e3 : (xs.map (Wn.val d.rs))[j]? = some (Wn.val d.rs x) := by rw [List.getElem?_map, hxj]; rfl
      obtain ⟨lt, ee⟩ := List.getElem?_eq_some_iff.mp e3
      rw [List.take_succ_eq_append_getElem lt, ee, List.map_append]
      rfl
  · obtain ⟨st, hl⟩ := p
    rw [h2.1, ← List.length_map (f := Wn.val d.rs) (as := xs), List.take_length] at hl
    exact k H' st hl
/-- how an activation ends -/
def LPostF (L : LD) (ins : List Int) (cas : List Addr) (ra : Addr) (H : Hp) (Q : VK) : Out × G → Prop
  | (.ret ws, g) => ∀ H' t, Stp (LChg L cas ra) H H' → LLite H' L ins g (gv g) → All2 (cellV H') cas g.cs → g.taken ≤ ins.length → New H t → H' t = some (.lst (ws.map V.int)) → Q (.ref t) H'
  | (.exc k p, g) => ∀ H' t x, Stp (LChg L cas ra) H H' → LLite H' L ins g { gv g with ra := .ref x } → All2 (cellV H') cas g.cs → g.taken ≤ ins.length → New H x → H' x = some (.lst [.int k, .int p]) → Q (.ref t) H'
  | (.exh, g) => ∀ H' t e v, Stp (LChg L cas ra) H H' → LLite H' L ins g v → v.en = .ref e ∧ v.ra = .non → H' e = some (.tup [.str "exhausted"]) → Q (.ref t) H'
  | (.fault, g) => ∀ H' t e v, Stp (LChg L cas ra) H H' → LLite H' L ins g v → v.en = .ref e ∧ v.ra = .non → H' e = some (.tup [.str "fault"]) → Q (.ref t) H'
def spLRun (K : PySem.W.Frag) (r : Nat) : Sp := fun vs H Q _ => ∃ (d : LDat) (n : Nat) (o : Out × G), vs = [.ref d.L.rh, .ref d.fa] ∧ LSit K H d ∧ 10 ≤ d.g.cs.length + r ∧ d.g.evs.length + 256 * d.g.fuel ≤ 100000 ∧ 256 * d.g.fuel < n ∧ n ≤ 900000 ∧
  Wn.run d.e n d.u (d.i0 :: d.r) 0 d.g d.rs = some o ∧ LPostF d.L d.e.ins d.cas d.ra H Q o
def spLRunp (K : PySem.W.Frag) : Nat → Sp
  | 0 => fun _ _ _ _ => False
  | r + 1 => spLRun K r
def spLEnter (K : PySem.W.Frag) (r : Nat) : Sp := fun vs H Q _ => ∃ (d : LDat) (ia : Addr) (u' h : Nat) (as : List Op) (ds : List Nat) (p i n : Nat) (x : Nx), vs = [.ref d.L.rh, .ref d.fa, .ref ia] ∧ LSit K H d ∧ insV H (.ref ia) (.call u' h as ds p) ∧ InsOk d.e.m d.u d.U i (.call u' h as ds p) ∧
  10 ≤ d.g.cs.length + r ∧ d.g.evs.length + 256 * d.g.fuel ≤ 100000 ∧ 256 * d.g.fuel < n ∧ n ≤ 900000 ∧ callX d.dat n u' h as ds p i = some x ∧ LPost d.L d.e.ins d.cas d.ra H Q x
def lcallee (d : LDat) (U' : Un) (u' h : Nat) (as : List Op) (fa ra ca : Addr) (par : V) : LDat :=
  { d with g := push d.g U'.cells, cas := d.cas ++ [ca], ra := ra, rs := as.map (Wn.val d.rs) ++ List.replicate (U'.regs - as.length) 0, fa := fa, ca := ca, par := par, u := u', i0 := d.i0 + 1, r := (d.i0 :: d.r).drop h, U := U' }
section
variable {P : Program} {w : World} {K : PySem.W.Frag} {mg : Str → Option Value} {base : Heap}
theorem ok_lregion (T : Txt w K mg) : Def P w K mg base CX0 1 "_law_region" ["_law_unit_here", "_law_index"] (spReg K) := by
  refine D_law_region T (fun vs H Q E h => ?_) (fun cdv A outer s H vs Q E hr h => ?_)
  · obtain ⟨ua, i, U, dx, fs, c, rg, cs, rs, rfl, _⟩ := h
    rfl
  obtain ⟨ua, i, U, dx, fs, c, rg, cs, rs, rfl, un, q1, q2⟩ := h
  refine ⟨_, (pss_cons (ps_for (L2.passes_of rfl) rfl (pi_tup (pe_fld (pv 0) rfl)) (pg_name (i := 2) sc_law_region.nd rfl (Or.inl rfl)) (pss_one (ps_if (PW.pt (pw_and (pt_cmpR op_le (pe_ix ix_tup (pv 2) pe_int (fun _ _ => rfl)) (pv 1) (nomark _)) (pw_and1 (pt_cmpR op_lt (pv 1) (pe_ix ix_tup (pv 2) pe_int (fun _ _ => rfl)) (nomark _))))) (pss_one (ps_ret (pv 2))) pss_nil))) (pss_one (ps_ret pe_non))), ?_⟩
  refine ⟨_, rfl, ua, _, _, _, _, rfl, un.at_, cl_Unit T, na_Unit_regions T, un.regions, rg, rfl, ⟨_, SqT.of un.rgA⟩, for_reg un.rgA un.rgs (fun h o => q1 h) (fun r a h1 h2 => q2 r a h1 h2) (fun D a r ha c hD => ?_) (fun D a r ha c hD => ?_)⟩
  · obtain ⟨c1, c2⟩ := Bool.and_eq_true_iff.mp c
    have c1' := of_decide_eq_true c1
    have c2' := of_decide_eq_true c2
    exact ⟨_, rfl, a, _, _, _, rfl, rfl, SqT.of ha, rfl, _, rfl, _, _, rfl, rfl, _, rfl, if_true_of (decide_eq_true (by omega)) ⟨_, rfl, _, rfl, a, _, _, _, rfl, rfl, SqT.of ha, rfl, _, _, rfl, rfl, _, rfl, if_true_of (decide_eq_true (by omega)) ⟨_, rfl, hD⟩⟩⟩
  · refine ⟨_, rfl, a, _, _, _, rfl, rfl, SqT.of ha, rfl, _, rfl, _, _, rfl, rfl, _, rfl, ?_⟩
    by_cases c1 : r.start ≤ i
    · refine if_true_of (decide_eq_true (by omega)) ⟨_, rfl, _, rfl, a, _, _, _, rfl, rfl, SqT.of ha, rfl, _, _, rfl, rfl, _, rfl, if_false_of (decide_eq_false fun z => ?_) hD⟩
      have c2 : i < r.stop := by omega
      simp [c1, c2] at c
    · exact if_false_of (decide_eq_false (by omega)) (if_false_of rfl hD)
theorem ok_lenter (T : Txt w K mg) (r : Nat) (G_law_run : Def P w K mg base CX0 (10 + 2 * r) "_law_run" ["_law_run_here", "_law_frame"] (spLRunp K r)) : Def P w K mg base CX0 (10 + 2 * r + 1) "_law_enter" ["_law_run_here", "_law_frame", "_law_instruction_here"] (spLEnter K r) := by
  have G_law_value := ok_lvalue (P := P) (base := base) T
  have G_law_outer := ok_louter (P := P) (base := base) T
  refine D_law_enter T (k := 10 + 2 * r) (fun vs H Q E h => ?_) (fun cdv A outer s H vs Q E hr h => ?_)
  · obtain ⟨d, ia, u', h, as, ds, p, i, n, x, rfl, _⟩ := h
    rfl
  obtain ⟨d, ia, u', h, as, ds, p, i, n, x, rfl, S, hi, ok, h10, hev, hmu, hn9, hx, q⟩ := h
  refine ⟨_, (pss_cons (ps_if (pt_cmpR op_eq (pe_dget (hu_of hr) (pv 0) pe_str (fun _ _ => rfl)) pe_int (nomark _)) (pss_one (ps_ret (pe_lst (pa_cons pe_int (pa_cons (pe_ix ix_tup (pv 2) pe_int (fun _ _ => rfl)) pa_nil))))) pss_nil) (pss_cons (ps_set (i := 3) sc_law_enter.nd rfl (Or.inl rfl) (pe_ix ix_tup (pe_fld (pe_dget (hu_of hr) (pv 0) pe_str (fun _ _ => rfl)) rfl) (pe_ix ix_tup (pv 2) pe_int (fun _ _ => rfl)) (fun _ _ => rfl))) (pss_cons (ps_setLc (te := tCall (spLVal K) [] E0 (tCons (tVar 1) (tCons (tVar 5) tNil))) (i := 4) (own := [("_law_operand_here", 5)]) (g := gName 5) (tt := tYes) rfl sc_law_enter.nd rfl rfl (sw_true rfl rfl rfl (by decide +kernel)) (pi_tup (pe_ix ix_tup (pv 2) pe_int (fun _ _ => rfl))) (blkOk_by (own := [("_law_operand_here", 5)]) (N := ["_law_run_here", "_law_frame", "_law_instruction_here", "_law_unit_here", "_law_given", "_law_operand_here", "_law_callee", "_law_values", "_law_raised", "_law_row", "_law_k"]) (sc := defScope st_law_enter) (by decide +kernel)) (fun _ _ _ _ _ => pg_name (i := 5) sc_law_enter.nd rfl (Or.inl rfl)) (fun _ _ _ _ _ => pts_nil) (fun _ _ _ _ _ => (pe_callD G_law_value hr (by omega) rfl pass0 (pa_cons (pv 1) (pa_cons (pv 5) pa_nil))))) (pss_cons (ps_set (i := 6) sc_law_enter.nd rfl (Or.inl rfl) (pe_disp (pps_cons pe_str (pe_ix ix_tup (pv 2) pe_int (fun _ _ => rfl)) (pps_cons pe_str (pe_callD G_law_outer hr (by omega) rfl pass0 (pa_cons (pv 1) (pa_cons (pe_ix ix_tup (pv 2) pe_int (fun _ _ => rfl)) pa_nil))) (pps_cons pe_str (pe_op op_rep (pe_lst (pa_cons pe_int pa_nil)) (pe_fld (pv 3) rfl)) pps_nil))) (by rfl) (by rfl) (fun z => by cases z) (by decide))) (pss_cons (ps_dput (hu_of hr) (pv 6) pe_str (pe_op op_cat (pv 4) (pe_op op_rep (pe_lst (pa_cons pe_int pa_nil)) (pe_op op_sub (pe_fld (pv 3) rfl) (pe_callB call_len_seq (by rfl) (b_len T) PySem.boot_len (pa_cons (pv 4) pa_nil))))) rfl) (pss_cons (ps_dput (hu_of hr) (pv 0) pe_str (pe_op op_add (pe_dget (hu_of hr) (pv 0) pe_str (fun _ _ => rfl)) pe_int) rfl) (pss_cons (ps_set (i := 7) sc_law_enter.nd rfl (Or.inl rfl) (pe_callD G_law_run hr (by omega) rfl pass0 (pa_cons (pv 0) (pa_cons (pv 6) pa_nil)))) (pss_cons (ps_dput (hu_of hr) (pv 0) pe_str (pe_op op_sub (pe_dget (hu_of hr) (pv 0) pe_str (fun _ _ => rfl)) pe_int) rfl) (pss_cons (ps_set (i := 8) sc_law_enter.nd rfl (Or.inl rfl) (pe_dget (hu_of hr) (pv 0) pe_str (fun _ _ => rfl))) (pss_cons (ps_dput (hu_of hr) (pv 0) pe_str pe_non rfl) (pss_cons (ps_if (PW.pt (pw_and (pt_cmpR op_isN (pv 8) pe_non (nomark _)) (pw_and1 (pt_cmpR op_isN (pe_dget (hu_of hr) (pv 0) pe_str (fun _ _ => rfl)) pe_non (nomark _))))) (pss_cons (ps_set (i := 9) sc_law_enter.nd rfl (Or.inl rfl) (pe_dget (hu_of hr) (pv 1) pe_str (fun _ _ => rfl))) (pss_one (ps_for (L2.passes_of rfl) rfl (pi_range1 rfl (b_range T) (pa_cons (pe_callB call_len_seq (by rfl) (b_len T) PySem.boot_len (pa_cons (pv 7) pa_nil)) pa_nil)) (pg_name (i := 10) sc_law_enter.nd rfl (Or.inl rfl)) (pss_one (ps_asg (pe_ix ix_list (pv 7) (pv 10) (fun _ _ => rfl)) (pg_sub (pv 9) (pe_ix ix_tup (pe_ix ix_tup (pv 2) pe_int (fun _ _ => rfl)) (pv 10) (fun _ _ => rfl)) set_list)))))) pss_nil) (pss_one (ps_ret (pv 8)))))))))))))), ?_⟩
  obtain ⟨a, vs, e, ha, oa, oq, rfl, ⟨avs, hoa, h2⟩, hoq⟩ := hi
  cases e
  obtain ⟨⟨U', hU', hp0, han, hla, hld⟩, hax, hdsx, hp⟩ := ok
  have hrun := S.s.l.run
  have top := S.top
  refine ⟨_, rfl, _, _, rfl, DGet.k (k := .inr "depth") hrun, rfl, _, rfl, ?_⟩
  by_cases c10 : d.g.cs.length = 10
  · have e10 : callX d.dat n u' h as ds p i = some (.exc 2 p d.g d.rs) := if_pos c10
    rw [e10] at hx
    cases hx
    refine if_true_of (decide_eq_true (by show V.int (d.g.cs.length : Int) = V.int 10; rw [c10]; rfl)) ⟨_, rfl, ia, _, _, _, rfl, rfl, SqT.of ha, rfl, by show 2 ≤ sizeLine; decide, fun t ht => ?_⟩
    have t2 : Stp S0 H (upd H t (.lst [.int 2, .int p])) := Stp.new ht
    exact q _ t t2.z (S.s.st t2) (.of ht) upd_same
  refine if_false_of (decide_eq_false fun z => c10 (by have : (d.g.cs.length : Int) = 10 := V.int.inj z; omega)) ?_
  have eX : callX d.dat n u' h as ds p i = (Wn.run d.e n u' (d.g.cs.length :: (d.i0 :: d.r).drop h) 0 (push d.g U'.cells) (as.map (Wn.val d.rs) ++ List.replicate (U'.regs - as.length) 0)).map (back i d.rs ds) := by
    unfold callX
    rw [if_neg (show ¬ d.dat.g.cs.length = 10 from c10), show d.dat.e.m[u']? = some U' from hU']
    rfl
  rw [eX] at hx
  have UO' := S.E.m.un u' U' hU'
  have hr100 := UO'.regs
  have hc100 := UO'.cells
  have hna := UO'.na
  obtain ⟨o, hrunm, rfl⟩ := Option.map_eq_some_iff.mp hx
  obtain ⟨mx, mfs, mt, mn, mp, mus, mps, M⟩ := S.mo
  obtain ⟨vU, hvU, hU2⟩ := M.un.get hU'
  obtain ⟨ua, ux, ufs, uc, urg, ucs, urs, rfl, un⟩ := hU2
  refine ⟨_, rfl, _, _, rfl, DGet.k (k := .inr "module") hrun, _, _, _, _, _, rfl, M.at_, cl_Module T, na_Module_units T, M.units, _, rfl, ia, _, _, _, rfl, rfl, SqT.of ha, rfl, mt, _, _, _, rfl, rfl, SqT.of M.unA, atI_nat hvU, ?_⟩
  refine ⟨_, rfl, ia, _, _, _, rfl, rfl, SqT.of ha, rfl, oa, rfl, ⟨_, SqT.of hoa⟩, fun DL hDL => lc_lvals S hoa h2 hax (by omega) (i := 5) rfl (by show 5 < 11; decide) (by decide) hDL fun H1 t1 hl1 => ?_⟩
  have S1 := S.st t1
  have ha1 := t1.tup ha
  have un1 := un.st t1
  -- the callee's dict
  walk_at "new"; rename_i fa' nfa H2 t2 hfa
  have ha2 := t2.tup ha1
  have un2 := un1.st t2
  have S2 := S1.st t2
  obtain ⟨j0, Uj, hj, hj2, hUj, hsj⟩ := Wn.ch_at S.ok.ch han
  have hlt := (List.getElem?_eq_some_iff.mp hj).1
  refine ⟨_, rfl, ia, _, _, _, rfl, rfl, SqT.of ha2, rfl, ?_⟩
  refine ⟨_, rfl, _, rfl, ia, _, _, _, rfl, rfl, SqT.of ha2, rfl, d.cas, _, h, d.i0 :: d.r, rfl, S2.chv, hlt, S.hop hlt, fun v' hv' => ?_⟩
  refine ⟨by show 1 ≤ sizeLine; decide, ?_⟩
  walk_at "new"; rename_i l1 nl1 H3 t3 hl3
  have un3 := un2.st t3
  refine ⟨_, rfl, ua, _, _, _, _, rfl, un3.at_, cl_Unit T, na_Unit_cells T, un3.cells, l1, _, _, rfl, rfl, hl3, by omega, by omega, ?_, ?_⟩
  · rw [Int.toNat_natCast]
    exact big1000 (by simp only [List.length_singleton]; omega)
  walk_at "new"; rename_i ca nca H4 t4 hca
  rw [rep_flat] at hca
  have hfa4 := t4.at (t3.at hfa fun z => z.elim) fun z => z.elim
  refine ⟨hfa4, [(.inr "number", .int (u' : Nat)), (.inr "parent", v'), (.inr "cells", .ref ca)], rfl, by show 3 ≤ 15; decide, ?_⟩
  have nfa1 : New H1 fa' := .of nfa
  have t14 : Stp S0 H1 H4 := t2.trans (t3.trans t4)
  have t15 : Stp S0 H1 (upd H4 fa' (.dK [(.inr "number", .int (u' : Nat)), (.inr "parent", v'), (.inr "cells", .ref ca)])) := t14.over nfa1
  have hfa5 : (upd H4 fa' (.dK [(.inr "number", .int (u' : Nat)), (.inr "parent", v'), (.inr "cells", .ref ca)])) fa' = some (.dK [(.inr "number", .int (u' : Nat)), (.inr "parent", v'), (.inr "cells", .ref ca)]) := upd_same
  have ncaf : ca ≠ fa' := ne_of hca hfa4 (by intro z; cases z)
  have hca5 : (upd H4 fa' (.dK [(.inr "number", .int (u' : Nat)), (.inr "parent", v'), (.inr "cells", .ref ca)])) ca = some (.lst ((List.replicate U'.cells (0 : Int)).map V.int)) := by rw [upd_ne ncaf]; exact hca
  have nca1 : New H1 ca := (New.of nca).back (t2.trans t3)
  have hv5 : lchV (upd H4 fa' (.dK [(.inr "number", .int (u' : Nat)), (.inr "parent", v'), (.inr "cells", .ref ca)])) d.cas v' ((d.i0 :: d.r).drop h) := by
    refine lchV.st (S := fun b => b = fa') ((t3.trans t4).z.trans (Stp.put (S := fun b => b = fa') hfa4 rfl (fun z => ?_))) hv'
    have z' : (0 : Nat) = 4 := z
    omega
  show tSeq _ _ _ _ (upd H4 fa' (.dK [(.inr "number", .int (u' : Nat)), (.inr "parent", v'), (.inr "cells", .ref ca)]))
  generalize (upd H4 fa' (.dK [(.inr "number", .int (u' : Nat)), (.inr "parent", v'), (.inr "cells", .ref ca)])) = H5 at t15 hfa5 hca5 hv5 ⊢
  -- its registers
  have lv : (as.map (Wn.val d.rs)).length = as.length := List.length_map _
  have un5 := un1.st t15
  have hl5 := t15.at hl1 fun z => z.elim
  refine ⟨_, rfl, by show 1 ≤ sizeLine; decide, ?_⟩
  walk_at "new"; rename_i l2 nl2 H6 t6 hl6
  have un6 := un5.st t6
  have hDL6 := t6.at hl5 fun z => z.elim
  refine ⟨_, rfl, ua, _, _, _, _, rfl, un6.at_, cl_Unit T, na_Unit_registers T, un6.regs, _, rfl, DL, _, rfl, .inl (SqL.of hDL6), _, _, rfl, rfl, ?_⟩
  have esub : (U'.regs : Int) - ((((as.map (Wn.val d.rs)).map V.int).length : Nat) : Int) = ((U'.regs - as.length : Nat) : Int) := by rw [List.length_map, lv]; omega
  show ∃ l k xs, V.ref l2 = .ref l ∧ V.int ((U'.regs : Int) - ((((as.map (Wn.val d.rs)).map V.int).length : Nat) : Int)) = .int k ∧ _
  rw [esub]
  refine ⟨l2, _, _, rfl, rfl, hl6, by omega, by omega, ?_, ?_⟩
  · rw [Int.toNat_natCast]
    exact big1000 (by simp only [List.length_singleton]; omega)
  walk_at "new"; rename_i r2 nr2 H7 t7 hr7
  rw [rep_flat] at hr7
  refine ⟨DL, r2, _, _, rfl, rfl, t7.at hDL6 fun z => z.elim, hr7, big1000 (by rw [List.length_map, lv, List.length_map, List.length_replicate]; omega), ?_⟩
  walk_at "new"; rename_i ra nra H8 t8 hra
  rw [← List.map_append] at hra
  have t58 : Stp S0 H5 H8 := t6.trans (t7.trans t8)
  have hfa8 := t58.at hfa5 fun z => z.elim
  refine ⟨_, rfl, fa', _, rfl, DPut.k (k := .inr "registers") hfa8 (by show 3 < sizeLine; decide), ?_⟩
  have hca8 := t58.at hca5 fun z => z.elim
  have nra1 : New H1 ra := (New.of nra).back (t15.trans (t6.trans t7))
  have naf : ra ≠ fa' := ne_of hra hfa8 (by intro z; cases z)
  have nrc : ra ≠ ca := Ne.symm (ne_of_none ((t6.trans t7).at hca5 fun z => z.elim) nra)
  have t19 : Stp S0 H1 (upd H8 fa' (.dK (lfK u' v' ca ra))) := (t15.trans t58).over nfa1
  have hfa9 : (upd H8 fa' (.dK (lfK u' v' ca ra))) fa' = some (.dK (lfK u' v' ca ra)) := upd_same
  have hca9 : (upd H8 fa' (.dK (lfK u' v' ca ra))) ca = some (.lst ((List.replicate U'.cells (0 : Int)).map V.int)) := by rw [upd_ne ncaf]; exact hca8
  have hra9 : (upd H8 fa' (.dK (lfK u' v' ca ra))) ra = some (.lst ((as.map (Wn.val d.rs) ++ List.replicate (U'.regs - as.length) (0 : Int)).map V.int)) := by rw [upd_ne naf]; exact hra
  have hv9 : lchV (upd H8 fa' (.dK (lfK u' v' ca ra))) d.cas v' ((d.i0 :: d.r).drop h) := by
    refine lchV.st (S := fun b => b = fa') (t58.z.trans (Stp.put (S := fun b => b = fa') hfa8 rfl (fun z => ?_))) hv5
    have z' : (3 : Nat) = 4 := z
    omega
  show tSeq _ _ _ _ (upd H8 fa' (.dK (lfK u' v' ca ra)))
  generalize (upd H8 fa' (.dK (lfK u' v' ca ra))) = H9 at t19 hfa9 hca9 hra9 hv9 ⊢
  have t09 := t1.trans t19
  have S9 := S.st t09
  -- one deeper
  refine ⟨_, rfl, _, _, rfl, DGet.k (k := .inr "depth") S9.s.l.run, _, _, rfl, rfl, _, rfl, d.L.rh, _, rfl, DPut.k (k := .inr "depth") S9.s.l.run (by show 10 < sizeLine; decide), ?_⟩
  obtain ⟨l10, s10⟩ := S9.s.l.set { gv d.g with dp := (d.g.cs.length : Int) + 1 }
  show tSeq _ _ _ _ (upd H9 d.L.rh (.dK (lrK d.L { gv d.g with dp := (d.g.cs.length : Int) + 1 })))
  generalize (upd H9 d.L.rh (.dK (lrK d.L { gv d.g with dp := (d.g.cs.length : Int) + 1 }))) = HA at l10 s10 ⊢
  have lstA : ∀ {b : Addr} {xs : List V}, H9 b = some (.lst xs) → HA b = some (.lst xs) := fun {b xs} e => s10.at e fun z => absurd z (ne_of e S9.s.l.run (by intro z; cases z))
  have N := S.s.nds
  have nraH : New H ra := nra1.back t1
  have ncaH : New H ca := nca1.back t1
  have nrh : d.L.rh ≠ fa' := (nfa1.back t1).ne S.s.l.run
  obtain ⟨r, rfl⟩ : ∃ r', r = r' + 1 := ⟨r - 1, by have := S.ok.dp; omega⟩
  obtain ⟨md0, hmd, _⟩ := S.s.l.md
  obtain ⟨sn0, hsn, _⟩ := S.s.l.sn
  have cne : ∀ c ∈ d.cas, ∃ xs, H c = some (.lst xs) := fun c hc => by
    obtain ⟨i, e⟩ := List.getElem?_of_mem hc
    obtain ⟨l, h1, h2⟩ := S.s.c.get' e
    exact ⟨_, h2⟩
  have egv : ({ gv d.g with dp := (d.g.cs.length : Int) + 1 } : LV) = gv (push d.g U'.cells) := by
    show (⟨_, _, _, _, (d.g.cs.length : Int) + 1⟩ : LV) = ⟨_, _, _, _, ((d.g.cs ++ [List.replicate U'.cells 0]).length : Int)⟩
    rw [List.length_append]
    rfl
  have stA : LStA HA d.L d.e.ins (push d.g U'.cells) (d.cas ++ [ca]) ra (as.map (Wn.val d.rs) ++ List.replicate (U'.regs - as.length) 0) := by
    refine ⟨egv ▸ l10.g rfl rfl, (S9.s.c.mono fun _ _ z => lstA z).snoc (lstA hca9), lstA hra9, ?_, S.s.tk⟩
    have nd := S.s.nd
    simp only [List.nodup_cons, List.mem_cons, not_or] at nd ⊢
    obtain ⟨⟨n1, n2, n3, n4⟩, ⟨n5, n6, n7⟩, ⟨n8, n9⟩, n10, n11⟩ := nd
    have mm : ∀ {b : Addr}, b ∉ d.cas → b ≠ ca → b ∉ d.cas ++ [ca] := fun h1 h2 h3 => by
      rcases List.mem_append.mp h3 with z | z
      · exact h1 z
      · exact h2 (List.mem_singleton.mp z)
    refine ⟨⟨n1, n2, nraH.ne hmd, mm n4 (ncaH.ne hmd)⟩, ⟨n5, nraH.ne hsn, mm n7 (ncaH.ne hsn)⟩, ⟨nraH.ne S.s.l.inp, mm n9 (ncaH.ne S.s.l.inp)⟩, mm (fun z => ?_) nrc, ?_⟩
    · obtain ⟨xs, e⟩ := cne ra z
      exact absurd rfl (nraH.ne e)
    · refine List.nodup_append.mpr ⟨n11, by simp, fun a h1 b h2 => ?_⟩
      rw [List.mem_singleton.mp h2]
      obtain ⟨xs, e⟩ := cne a h1
      exact ncaH.ne e
  have C := Wn.callee_ok S.E S.ok c10 hU' hp0 han hla hax
  rw [top] at C hrunm
  have hchl : ((d.i0 :: d.r).drop h).length ≤ d.i0 + 1 := by
    rw [List.length_drop, List.length_cons]
    have := S.chl
    omega
  have SC : LSit K HA (lcallee d U' u' h as fa' ra ca v') := by
    refine ⟨stA, s10.at hfa9 fun _ => frz_lf, ?_, (hv9.st s10).more _, C, hU', S9.mo.st s10, S.E, ?_, S.lim, hchl⟩
    · show (d.cas ++ [ca])[d.i0 + 1]? = some ca
      have : d.cas.length = d.i0 + 1 := by rw [S.s.c.1]; exact top
      rw [List.getElem?_append_right (by omega), this]
      simp
    · show (d.g.cs ++ [_]).length = d.i0 + 1 + 1
      rw [List.length_append, List.length_singleton, top]
  refine ⟨_, rfl, _, rfl, lcallee d U' u' h as fa' ra ca v', n, o, rfl, SC, ?_, hev, hmu, hn9, hrunm, ?_⟩
  · show 10 ≤ (d.g.cs ++ [_]).length + r
    rw [List.length_append, List.length_singleton]
    omega
  have cross : ∀ {HB : Hp}, Stp (LChg d.L (d.cas ++ [ca]) ra) HA HB → Stp (LChg d.L d.cas d.ra) H HB ∧ HB d.ra = some (.lst (d.rs.map V.int)) := fun {HB} st => by
    refine ⟨(t09.z.trans ((s10.mono fun a z => .inl z).trans st)).less fun a o w z e => ?_, st.at (lstA S9.s.r) fun z => ?_⟩
    · rcases z with z | z | z | z | z
      · exact .inl z
      · exact .inr (.inl z)
      · exact .inr (.inr (.inl z))
      · exact absurd e (by rw [z]; exact nraH o w)
      · rcases List.mem_append.mp z with y | y
        · exact .inr (.inr (.inr (.inr y)))
        · exact absurd e (by rw [List.mem_singleton.mp y]; exact ncaH o w)
    · rcases z with z | z | z | z | z
      · exact absurd z (ne_of S.s.r S.s.l.run (by intro z; cases z))
      · exact absurd z.symm N.mr
      · exact absurd z.symm N.sr
      · exact absurd z (nraH.ne S.s.r)
      · rcases List.mem_append.mp z with y | y
        · exact absurd rfl (N.rc _ y)
        · exact absurd (List.mem_singleton.mp y) (ncaH.ne S.s.r)
  have popc : ∀ {HB : Hp} {g' : G}, All2 (cellV HB) (d.cas ++ [ca]) g'.cs → All2 (cellV HB) d.cas (pop g').cs := fun {HB g'} h => by
    have := h.dropLast
    rw [List.dropLast_concat] at this
    exact this
  have newH : ∀ {b : Addr}, New HA b → New H b := fun {b} nb o w e => by
    by_cases z : b = d.L.rh
    · exact nb (.dK (lrK d.L { gv d.g with dp := (d.g.cs.length : Int) + 1 })) trivial (z ▸ l10.run)
    · exact nb o w (s10.to b o (t09.to b o e (fun y => y.elim) w) (fun y => absurd y z) w)
  have mst := Wn.mu_start UO' d.g.fuel
  obtain ⟨o2, hrun2, OO⟩ := Wn.run_ok S.E n u' 0 _ _ _ U' C hU' (List.getElem?_eq_some_iff.mp UO'.tick).1 (by show mu U' d.g.fuel 0 < n; rw [mst]; exact hmu)
  rw [hrunm] at hrun2
  cases hrun2
  -- back in the caller
  have after : ∀ {HB : Hp} {g' : G} {v : LV} {x : V}, LLite HB d.L d.e.ins g' v → Stp (LChg d.L (d.cas ++ [ca]) ra) HA HB → ∃ HC HD, HC = upd HB d.L.rh (.dK (lrK d.L { v with dp := v.dp - 1 })) ∧ HD = upd HC d.L.rh (.dK (lrK d.L { v with dp := v.dp - 1, ra := .non })) ∧
      LLite HC d.L d.e.ins g' { v with dp := v.dp - 1 } ∧ LLite HD d.L d.e.ins g' { v with dp := v.dp - 1, ra := .non } ∧ Stp (fun a => a = d.L.rh) HB HD := fun {HB g' v x} ll st => by
    obtain ⟨lC, sC⟩ := ll.set { v with dp := v.dp - 1 }
    obtain ⟨lD, sD⟩ := lC.set { v with dp := v.dp - 1, ra := .non }
    exact ⟨_, _, rfl, rfl, lC, lD, sC.trans sD⟩
  have stD : ∀ {HB HD : Hp} {g' : G} {rs : List Int}, Stp (LChg d.L (d.cas ++ [ca]) ra) HA HB → Stp (fun a => a = d.L.rh) HB HD → LLite HD d.L d.e.ins g' { gv g' with dp := (gv g').dp - 1, ra := .non } → All2 (cellV HB) (d.cas ++ [ca]) g'.cs → g'.taken ≤ d.e.ins.length → LLite HB d.L d.e.ins g' (gv g') ∨ (∃ x, LLite HB d.L d.e.ins g' { gv g' with ra := .ref x }) → LStA HD d.L d.e.ins (pop g') d.cas d.ra d.rs := fun {HB HD g' rs} st sD lD cl tk hB => by
    obtain ⟨st', hr5⟩ := cross st
    have rhB : ∃ v, HB d.L.rh = some (.dK (lrK d.L v)) := by
      rcases hB with h | ⟨x, h⟩
      · exact ⟨_, h.run⟩
      · exact ⟨_, h.run⟩
    obtain ⟨vB, hvB⟩ := rhB
    have f : ∀ {b : Addr} {xs : List V}, HB b = some (.lst xs) → HD b = some (.lst xs) := fun {b xs} e => sD.at e fun z => absurd z (ne_of e hvB (by intro z; cases z))
    have hlen : g'.cs.length = d.cas.length + 1 := by rw [← cl.1, List.length_append]; rfl
    have eg : ({ gv g' with dp := (gv g').dp - 1, ra := .non } : LV) = gv (pop g') := by
      show (⟨_, _, _, _, (g'.cs.length : Int) - 1⟩ : LV) = ⟨_, _, _, _, ((g'.cs.dropLast.length : Nat) : Int)⟩
      rw [List.length_dropLast, hlen]
      congr 1
      omega
    exact ⟨eg ▸ lD.g rfl rfl, (popc cl).mono fun _ _ z => f z, f hr5, S.s.nd, tk⟩
  obtain ⟨o, g'⟩ := o
  cases o with
  | exc k pl =>
    intro HB t x st ll cl tk nx hxx
    obtain ⟨HC, HD, eC, eD, lC, lD, sBD⟩ := after (x := .non) ll st
    have hf := (cross st).1
    refine ⟨_, rfl, _, _, rfl, DGet.k (k := .inr "depth") ll.run, _, _, rfl, rfl, _, rfl, d.L.rh, HC, rfl, eC ▸ DPut.k (k := .inr "depth") ll.run (by show 10 < sizeLine; decide), ?_⟩
    refine ⟨_, rfl, _, _, rfl, DGet.k (k := .inr "raised") lC.run, ?_⟩
    refine ⟨_, rfl, d.L.rh, HD, rfl, eD ▸ DPut.k (k := .inr "raised") lC.run (by show 10 < sizeLine; decide), ?_⟩
    refine ⟨_, rfl, rfl, _, rfl, if_false_of (decide_eq_false fun z => by cases z) (if_false_of rfl ⟨_, rfl, ?_⟩)⟩
    refine q HD x (hf.trans (sBD.mono fun a z => .inl z)) (stD (rs := d.rs) st sBD lD cl tk (.inr ⟨x, ll⟩)) (newH nx) (sBD.at hxx fun z => absurd z (ne_of hxx ll.run (by intro z; cases z)))
  | exh =>
    intro HB t e v st ll hv he
    obtain ⟨HC, HD, eC, eD, lC, lD, sBD⟩ := after (x := .non) ll st
    have hf := (cross st).1
    refine ⟨_, rfl, _, _, rfl, DGet.k (k := .inr "depth") ll.run, _, _, rfl, rfl, _, rfl, d.L.rh, HC, rfl, eC ▸ DPut.k (k := .inr "depth") ll.run (by show 10 < sizeLine; decide), ?_⟩
    refine ⟨_, rfl, _, _, rfl, DGet.k (k := .inr "raised") lC.run, ?_⟩
    refine ⟨_, rfl, d.L.rh, HD, rfl, eD ▸ DPut.k (k := .inr "raised") lC.run (by show 10 < sizeLine; decide), ?_⟩
    refine ⟨_, rfl, rfl, _, rfl, if_true_of (decide_eq_true hv.2) ⟨_, rfl, _, _, rfl, DGet.k (k := .inr "ending") lD.run, rfl, _, rfl, if_false_of (decide_eq_false fun z => ?_) ⟨_, rfl, ?_⟩⟩⟩
    · have z' : v.en = .non := z
      rw [hv.1] at z'
      cases z'
    · show Q v.ra HD
      rw [hv.2]
      exact q HD e _ (hf.trans (sBD.mono fun a z => .inl z)) lD ⟨hv.1, rfl⟩ (sBD.tup he)
  | fault =>
    intro HB t e v st ll hv he
    obtain ⟨HC, HD, eC, eD, lC, lD, sBD⟩ := after (x := .non) ll st
    have hf := (cross st).1
    refine ⟨_, rfl, _, _, rfl, DGet.k (k := .inr "depth") ll.run, _, _, rfl, rfl, _, rfl, d.L.rh, HC, rfl, eC ▸ DPut.k (k := .inr "depth") ll.run (by show 10 < sizeLine; decide), ?_⟩
    refine ⟨_, rfl, _, _, rfl, DGet.k (k := .inr "raised") lC.run, ?_⟩
    refine ⟨_, rfl, d.L.rh, HD, rfl, eD ▸ DPut.k (k := .inr "raised") lC.run (by show 10 < sizeLine; decide), ?_⟩
    refine ⟨_, rfl, rfl, _, rfl, if_true_of (decide_eq_true hv.2) ⟨_, rfl, _, _, rfl, DGet.k (k := .inr "ending") lD.run, rfl, _, rfl, if_false_of (decide_eq_false fun z => ?_) ⟨_, rfl, ?_⟩⟩⟩
    · have z' : v.en = .non := z
      rw [hv.1] at z'
      cases z'
    · show Q v.ra HD
      rw [hv.2]
      exact q HD e _ (hf.trans (sBD.mono fun a z => .inl z)) lD ⟨hv.1, rfl⟩ (sBD.tup he)
  | ret ws =>
    intro HB t st ll cl tk nt ht
    obtain ⟨HC, HD, eC, eD, lC, lD, sBD⟩ := after (x := .non) ll st
    have hf := (cross st).1
    have hD0 := hf.trans (sBD.mono fun a z => .inl z)
    have sA := stD (rs := d.rs) st sBD lD cl tk (.inl ll)
    have htD := sBD.at ht fun z => absurd z (ne_of ht ll.run (by intro z; cases z))
    have ntr : d.ra ≠ t := (newH nt).ne S.s.r
    have hlen : ds.length = ws.length := by rw [hld]; exact OO.1.symm
    refine ⟨_, rfl, _, _, rfl, DGet.k (k := .inr "depth") ll.run, _, _, rfl, rfl, _, rfl, d.L.rh, HC, rfl, eC ▸ DPut.k (k := .inr "depth") ll.run (by show 10 < sizeLine; decide), ?_⟩
    refine ⟨_, rfl, _, _, rfl, DGet.k (k := .inr "raised") lC.run, ?_⟩
    refine ⟨_, rfl, d.L.rh, HD, rfl, eD ▸ DPut.k (k := .inr "raised") lC.run (by show 10 < sizeLine; decide), ?_⟩
    refine ⟨_, rfl, rfl, _, rfl, if_true_of (decide_eq_true rfl) ⟨_, rfl, _, _, rfl, DGet.k (k := .inr "ending") lD.run, rfl, _, rfl, if_true_of (decide_eq_true rfl) ⟨_, rfl, _, _, rfl, DGet.k (k := .inr "registers") (hD0.at S.f fun _ => frz_lf), ?_⟩⟩⟩
    have lw : (ws.map V.int).length = ws.length := List.length_map _
    have w100 : ws.length ≤ 100 := by rw [OO.1]; exact UO'.nr
    refine ⟨_, rfl, t, _, rfl, .inl (SqL.of htD), (((ws.map V.int).length : Nat) : Int), rfl, by omega, by omega, for_range (lo := 0) (n := (((ws.map V.int).length : Nat) : Int).toNat)
      (fun j σ H' => (∃ o10, σ = [some (.ref d.L.rh), some (.ref d.fa), some (.ref ia), some (.ref ua), some (.ref DL), none, some (.ref fa'), some (.ref t), some .non, some (.ref d.ra), o10]) ∧ Stp (fun b => b = d.ra) HD H' ∧ H' d.ra = some (.lst ((setAll d.rs (ds.take j) (ws.take j)).map V.int)))
      ⟨⟨none, rfl⟩, Stp.refl, by rw [List.take_zero, List.take_zero, setAll_nil]; exact sA.r⟩ ?_ ?_⟩
    · rintro j σ H' hj ⟨⟨o10, rfl⟩, st6, hl6⟩
      rw [Int.toNat_natCast, lw] at hj
      have hwv : ws[j]? = some ws[j] := List.getElem?_eq_getElem hj
      have hdv : ds[j]? = some (ds[j]'(by omega)) := List.getElem?_eq_getElem (by omega)
      have hwv2 : (ws.map V.int)[j]? = some (.int ws[j]) := by rw [List.getElem?_map, hwv]; rfl
      have hdv2 : (ns ds)[j]? = some (.int ((ds[j]'(by omega) : Nat) : Int)) := by unfold ns; rw [List.getElem?_map, hdv]; rfl
      have st06 := hD0.trans (st6.mono fun a z => (.inr (.inr (.inr (.inl z))) : LChg d.L d.cas d.ra a))
      have ez : (0 : Int) + (j : Int) = (j : Int) := Int.zero_add _
      rw [ez]
      refine ⟨_, rfl, _, rfl, t, _, _, _, rfl, rfl, SqL.of (st6.at htD fun z => absurd (show t = d.ra from z) (Ne.symm ntr)), atI_nat hwv2, ?_⟩
      refine ⟨_, rfl, _, rfl, ia, _, _, _, rfl, rfl, SqT.of (st06.tup ha), rfl, _, rfl, oq, _, _, _, rfl, rfl, SqT.of (st06.tup hoq), atI_nat hdv2, d.ra, _, _, (ds[j]'(by omega)), rfl, rfl, hl6, ixN_nat ?_, ⟨_, rfl⟩, st6.trans (Stp.put hl6 rfl nfrz_lst), ?_⟩
      · rw [List.length_map, Wn.setAll_len, S.len]
        exact hdsx _ (List.getElem_mem _)
      · rw [upd_same, map_set, setAll_snoc _ _ _ _ _ _ hdv hwv]
    · rintro σ HE ⟨⟨o10, rfl⟩, st6, hl6⟩
      rw [Int.toNat_natCast, lw, List.take_length, ← hlen, List.take_length] at hl6
      exact ⟨_, rfl, q HE (hD0.trans (st6.mono fun a z => .inr (.inr (.inr (.inl z))))) (sA.regs st6 hl6)⟩
end
end WX
/-! ## WL7 -/
set_option Elab.async false
set_option linter.all false
set_option maxRecDepth 100000
set_option maxHeartbeats 2000000
/-! The law's own machine: an activation. -/
namespace WX
open PySem PySem.Spec PyProof.Rows L2 He
open Wn (Op Ar Ins Rg Un Mod G Out Nx Word wordB exact val StOk EnvOk InsOk OpOk step1 ModOk UnOk comp mu setAll push pop back NxOk Pot Keeps)
local macro_rules | `(tactic| walk_at "new") => `(tactic| (intro p hp; generalize hG : upd _ p _ = H5; obtain ⟨s5, h5⟩ := gnew hG hp; clear hG))
def LDat.to (d : LDat) (g : G) (rs : List Int) : LDat := { d with g := g, rs := rs }
theorem LSit.to {K : PySem.W.Frag} {H H' : Hp} {d : LDat} (s : LSit K H d) {g : G} {rs : List Int} (st : Stp (LChg d.L d.cas d.ra) H H') (sA : LStA H' d.L d.e.ins g d.cas d.ra rs) (ok : StOk d.e d.u (d.i0 :: d.r) g rs) (hc : g.cs.length = d.g.cs.length) : LSit K H' (d.to g rs) :=
  ⟨sA, st.at s.f fun _ => frz_lf, s.hc, s.ch.st st, ok, s.hU, s.mo.st st, s.E, hc.trans s.top, s.lim, s.chl⟩
theorem LStA.fresh {H : Hp} {L : LD} {ins : List Int} {g : G} {cas : List Addr} {ra : Addr} {rs : List Int} (s : LStA H L ins g cas ra rs) {t : Addr} (h : H t = none) : ¬ LChg L cas ra t := fun z => by
  rcases z with z | z | z | z | z
  · rw [z, s.l.run] at h; cases h
  · obtain ⟨l, h1, _⟩ := s.l.md
    rw [z, h1] at h; cases h
  · obtain ⟨l, h1, _⟩ := s.l.sn
    rw [z, h1] at h; cases h
  · rw [z, s.r] at h; cases h
  · obtain ⟨j, hj⟩ := List.getElem?_of_mem z
    obtain ⟨c, _, h1⟩ := s.c.get' hj
    rw [show H t = _ from h1] at h; cases h
def rNN : R2 := fun x y H Q => y = .non ∧ Q (.bl (!decide (x = .non))) H
def rIN : R2 := fun x y H Q => y = .non ∧ Q (.bl (decide (x = .non))) H
def forBody : Stmt → List Stmt
  | .For _ _ b _ _ => b
  | _ => []
/-- what stands behind an instruction -/
def tRestR (K : PySem.W.Frag) : TS :=
  tSeq (tIfS (tTest (tOp rNN (tDGet (tVar 0) (tC (.str "ending"))) (tC .non))) (tRet (tLst tNil)) tNext)
    (tSeq (tIfS (tTest (tOp rNN (tVar 8) (tC .non)))
      (tSeq (tAsg (tCall (spReg K) [] E0 (tCons (tVar 2) (tCons (tVar 4) tNil))) (gName 10))
        (tSeq (tIfS (tTest (tOp rIN (tVar 10) (tC .non))) (tSeq (sDPut (tVar 0) (tC (.str "raised")) (tVar 8)) (tRet (tLst tNil))) tNext)
          (tSeq (tAsg (tOp (rIxL K) (tVar 8) (tC (.int 0))) (gSub (tVar 3) (tOp (rIxT K) (tVar 10) (tC (.int 3))) rSetL))
            (tSeq (tAsg (tOp (rIxL K) (tVar 8) (tC (.int 1))) (gSub (tVar 3) (tOp (rIxT K) (tVar 10) (tC (.int 4))) rSetL))
              (tAsg (tOp (rIxT K) (tVar 10) (tC (.int 2))) (gName 9)))))) tNext)
      (tAsg (tVar 9) (gName 4)))
section
variable {K : PySem.W.Frag} {H : Hp} {L : LD} {v : LV} {D : Ends} {fa ua ra : Addr} {i : V} {o5 o6 o7 o9 o10 : Option V}
theorem cont_end {o8 : Option V} {e : Addr} (hrun : H L.rh = some (.dK (lrK L v))) (he : v.en = .ref e) (k : ∀ t, H t = none → D.rt (.ref t) (upd H t (.lst []))) :
    tRestR K D [some (.ref L.rh), some (.ref fa), some (.ref ua), some (.ref ra), some i, o5, o6, o7, o8, o9, o10] H := by
  refine ⟨_, rfl, _, _, rfl, DGet.k (k := .inr "ending") hrun, rfl, _, rfl, if_true_of ?_ ⟨by show 0 ≤ sizeLine; decide, fun t ht => k t ht⟩⟩
  show (!decide (v.en = .non)) = true
  rw [he, decide_eq_false (fun z => by cases z)]
  rfl
theorem cont_go {x : V} (hrun : H L.rh = some (.dK (lrK L v))) (he : v.en = .non) (k : D.nx [some (.ref L.rh), some (.ref fa), some (.ref ua), some (.ref ra), some x, o5, o6, o7, some .non, some x, o10] H) :
    tRestR K D [some (.ref L.rh), some (.ref fa), some (.ref ua), some (.ref ra), some i, o5, o6, o7, some .non, some x, o10] H := by
  refine ⟨_, rfl, _, _, rfl, DGet.k (k := .inr "ending") hrun, rfl, _, rfl, if_false_of ?_ ⟨_, rfl, rfl, _, rfl, if_false_of rfl ⟨_, rfl, k⟩⟩⟩
  show (!decide (v.en = .non)) = false
  rw [decide_eq_true he]
  rfl
theorem cont_exc {x : V} {t : Addr} {j k p : Nat} {U : Un} {ux : Addr} {ufs : List (Str × V)} {uc urg : Addr} {ucs urs : List V} {rs : List Int} (hrun : H L.rh = some (.dK (lrK L v))) (he : v.en = .non) (ht : H t = some (.lst [.int k, .int p])) (un : UnAt K H ua U ux ufs uc urg ucs urs)
    (hr : H ra = some (.lst (rs.map V.int))) (ntr : ra ≠ t) (h1 : ∀ r, Wn.region U j = some r → r.r1 < rs.length ∧ r.r2 < rs.length)
    (kn : Wn.region U j = none → ∀ t2, (upd H L.rh (.dK (lrK L { v with ra := .ref t }))) t2 = none → D.rt (.ref t2) (upd (upd H L.rh (.dK (lrK L { v with ra := .ref t }))) t2 (.lst [])))
    (ks : ∀ r a, Wn.region U j = some r → D.nx [some (.ref L.rh), some (.ref fa), some (.ref ua), some (.ref ra), some (.int r.entry), o5, o6, o7, some (.ref t), some (.int r.entry), some (.ref a)] (upd (upd H ra (.lst ((rs.set r.r1 (k : Int)).map V.int))) ra (.lst (((rs.set r.r1 (k : Int)).set r.r2 (p : Int)).map V.int)))) :
    tRestR K D [some (.ref L.rh), some (.ref fa), some (.ref ua), some (.ref ra), some (.int j), o5, o6, o7, some (.ref t), some x, o10] H := by
  refine ⟨_, rfl, _, _, rfl, DGet.k (k := .inr "ending") hrun, rfl, _, rfl, if_false_of ?_ ⟨_, rfl, rfl, _, rfl, if_true_of (by rw [decide_eq_false (fun z => by cases z)]; rfl) ?_⟩⟩
  · show (!decide (v.en = .non)) = false
    rw [decide_eq_true he]
    rfl
  refine ⟨_, rfl, _, rfl, ua, j, U, ux, ufs, uc, urg, ucs, urs, rfl, un, fun hn => ?_, fun r a hrg ha => ?_⟩
  · exact ⟨_, rfl, rfl, _, rfl, if_true_of rfl ⟨_, rfl, _, rfl, L.rh, _, rfl, DPut.k (k := .inr "raised") hrun (by show 10 < sizeLine; decide), by show 0 ≤ sizeLine; decide, fun t2 ht2 => kn hn t2 ht2⟩⟩
  · obtain ⟨hr1, hr2⟩ := h1 r hrg
    have kk := ks r a hrg
    have st1 : Stp (fun b => b = ra) H (upd H ra (.lst ((rs.set r.r1 (k : Int)).map V.int))) := Stp.put hr rfl nfrz_lst
    have ht1 := st1.at ht fun z => absurd (show t = ra from z) (Ne.symm ntr)
    have ha1 := st1.tup ha
    have hra1 : (upd H ra (.lst ((rs.set r.r1 (k : Int)).map V.int))) ra = some (.lst ((rs.set r.r1 (k : Int)).map V.int)) := upd_same
    have st2 : Stp (fun b => b = ra) (upd H ra (.lst ((rs.set r.r1 (k : Int)).map V.int))) (upd (upd H ra (.lst ((rs.set r.r1 (k : Int)).map V.int))) ra (.lst (((rs.set r.r1 (k : Int)).set r.r2 (p : Int)).map V.int))) := Stp.put hra1 rfl nfrz_lst
    have ha2 := st2.tup ha1
    refine ⟨_, rfl, rfl, _, rfl, if_false_of rfl ⟨_, rfl, t, _, _, _, rfl, rfl, SqL.of ht, rfl, _, rfl, _, rfl, a, _, _, _, rfl, rfl, SqT.of ha, rfl, ra, _, (r.r1 : Int), r.r1, rfl, rfl, hr, ixN_nat (by rw [List.length_map]; exact hr1), ?_⟩⟩
    rw [map_set]
    refine ⟨_, rfl, t, _, _, _, rfl, rfl, SqL.of ht1, rfl, _, rfl, _, rfl, a, _, _, _, rfl, rfl, SqT.of ha1, rfl, ra, _, (r.r2 : Int), r.r2, rfl, rfl, hra1, ixN_nat (by rw [List.length_map, List.length_set]; exact hr2), ?_⟩
    rw [map_set]
    exact ⟨_, rfl, a, _, _, _, rfl, rfl, SqT.of ha2, rfl, _, rfl, kk⟩
end
section
variable {P : Program} {w : World} {K : PySem.W.Frag} {mg : Str → Option Value} {base : Heap}
theorem ok_lrun (T : Txt w K mg) (r : Nat) (G_law_enter : Def P w K mg base CX0 (10 + 2 * r + 1) "_law_enter" ["_law_run_here", "_law_frame", "_law_instruction_here"] (spLEnter K r)) : Def P w K mg base CX0 (10 + 2 * r + 1 + 1) "_law_run" ["_law_run_here", "_law_frame"] (spLRun K r) := by
  have G_law_value := ok_lvalue (P := P) (base := base) T
  have G_law_step := ok_lstep (P := P) (base := base) T
  have G_law_region := ok_lregion (P := P) (base := base) T
  refine D_law_run T (k := 10 + 2 * r + 1) (fun vs H Q E h => ?_) (fun cdv A outer s H vs Q E hr h => ?_)
  · obtain ⟨d, n, o, rfl, _⟩ := h
    rfl
  obtain ⟨d, n, o, rfl, S, h10, hev, hmu, hn9, hrunm, q⟩ := h
  have UO := S.unOk
  -- the note
  obtain ⟨tN, pN, kN⟩ : ∃ t, PS (cxOf CX0 P w K mg base ["_law_run_here", "_law_frame", "_law_unit_here", "_law_row", "_law_index", "_law_step_here", "_law_instruction_here", "_law_operand_here", "_law_raised", "_law_following", "_law_region_here"] "_law_run" (defScope st_law_run) (ga K "_law_run") cdv A outer s H E) ((forBody ((defBody st_law_run).getD 3 (.Pass ⟨0, 0, 0, 0⟩))).getD 1 (.Pass ⟨0, 0, 0, 0⟩)) t ∧
      ∀ (D : Ends) (g : G) (rs : List Int) (i : Nat) (ua : Addr) (o5 o6 o7 o8 o9 o10 : Option V) (H1 : Hp), LSit K H1 (d.to g rs) → (∀ H2, Stp (LChg d.L d.cas d.ra) H1 H2 → LStA H2 d.L d.e.ins (Wn.note g d.u i rs) d.cas d.ra rs → D.nx [some (.ref d.L.rh), some (.ref d.fa), some (.ref ua), some (.ref d.ra), some (.int i), o5, o6, o7, o8, o9, o10] H2) →
        t D [some (.ref d.L.rh), some (.ref d.fa), some (.ref ua), some (.ref d.ra), some (.int i), o5, o6, o7, o8, o9, o10] H1 := by
    refine ⟨_, (ps_if (pt_cmpR op_lt (pe_callB call_len_seq (by rfl) (b_len T) PySem.boot_len (pa_cons (pe_dget (hu_of hr) (pv 0) pe_str (fun _ _ => rfl)) pa_nil)) (pe_dget (hu_of hr) (pv 0) pe_str (fun _ _ => rfl)) (nomark _)) (pss_one (ps_expr (pe_bm PySem.F.plainAttrs_list PySem.F.slot_list_append PySem.F.type_list_append mt_append (pe_dget (hu_of hr) (pv 0) pe_str (fun _ _ => rfl)) (pa_cons (pe_tup (pa_cons (pe_dget (hu_of hr) (pv 1) pe_str (fun _ _ => rfl)) (pa_cons (pv 4) (pa_cons (pe_callTy call_tuple_of (by rfl) (b_tuple T) (by decide +kernel) (pa_cons (pv 3) pa_nil)) pa_nil)))) pa_nil)))) pss_nil), fun D g rs i ua o5 o6 o7 o8 o9 o10 H1 S1 kN => ?_⟩
    obtain ⟨ls, hs1, hs2⟩ := S1.s.l.sn
    have hrunH := S1.s.l.run
    refine ⟨_, rfl, _, _, rfl, DGet.k (k := .inr "seen") hrunH, d.L.sn, _, rfl, .inl (SqL.of hs1), _, rfl, _, _, rfl, DGet.k (k := .inr "limit") hrunH, _, _, rfl, rfl, _, rfl, ite2 (fun c => ?_) (fun c => ?_)⟩
    · have c' : (ls.length : Int) < (d.L.lim : Int) := of_decide_eq_true c
      refine ⟨_, rfl, _, _, rfl, DGet.k (k := .inr "seen") hrunH, .inl ⟨rfl, _, SqL.of hs1⟩, _, rfl, _, _, rfl, DGet.k (k := .inr "number") S1.f, _, rfl, _, rfl, d.ra, _, rfl, .inl ⟨SqL.of S1.s.r, fun b hb => ?_⟩⟩
      refine ⟨by show 3 ≤ sizeLine; decide, fun t ht => ?_⟩
      obtain ⟨sA2, st2⟩ := S1.s.see hs1 d.u i hb ht (show ls.length < d.L.lim by omega)
      have nb : d.L.sn ≠ b := ne_of_none hs1 hb
      have hq1 : upd H1 b (.tup (rs.map V.int)) d.L.sn = some (.lst ls) := by rw [upd_ne nb]; exact hs1
      exact ⟨d.L.sn, ls, _, rfl, rfl, by rw [upd_ne (ne_of_none hq1 ht)]; exact hq1, Nat.lt_of_lt_of_le (show ls.length < 1000 by have := S.lim; omega) (Nat.le_of_lt (small1000 (Nat.le_refl _))), kN _ st2 sA2⟩
    · have c' : ¬ (ls.length : Int) < (d.L.lim : Int) := of_decide_eq_false (Bool.eq_false_iff.mpr c)
      exact kN H1 Stp.refl (S1.s.see0 hs1 d.u i (show ¬ ls.length < d.L.lim by omega))
  refine ⟨_, (pss_cons (ps_set (i := 2) sc_law_run.nd rfl (Or.inl rfl) (pe_ix ix_tup (pe_fld (pe_dget (hu_of hr) (pv 0) pe_str (fun _ _ => rfl)) rfl) (pe_dget (hu_of hr) (pv 1) pe_str (fun _ _ => rfl)) (fun _ _ => rfl))) (pss_cons (ps_set (i := 3) sc_law_run.nd rfl (Or.inl rfl) (pe_dget (hu_of hr) (pv 1) pe_str (fun _ _ => rfl))) (pss_cons (ps_set (i := 4) sc_law_run.nd rfl (Or.inl rfl) pe_int) (pss_cons (ps_for (L2.passes_of rfl) rfl (pi_range1 rfl (b_range T) (pa_cons pe_int pa_nil)) (pg_name (i := 5) sc_law_run.nd rfl (Or.inl rfl)) (pss_cons (ps_set (i := 6) sc_law_run.nd rfl (Or.inl rfl) (pe_ix ix_tup (pe_fld (pv 2) rfl) (pv 4) (fun _ _ => rfl))) (pss_cons pN (pss_cons (ps_if (pt_cmpR op_eq (pe_ix ix_tup (pv 6) pe_int (fun _ _ => rfl)) pe_str (nomark _)) (pss_one (ps_ret (pe_lc (te := tCall (spLVal K) [] E0 (tCons (tVar 1) (tCons (tVar 7) tNil))) (own := [("_law_operand_here", 7)]) (g := gName 7) (tt := tYes) rfl sc_law_run.nd (pi_tup (pe_ix ix_tup (pv 6) pe_int (fun _ _ => rfl))) (blkOk_by (own := [("_law_operand_here", 7)]) (N := ["_law_run_here", "_law_frame", "_law_unit_here", "_law_row", "_law_index", "_law_step_here", "_law_instruction_here", "_law_operand_here", "_law_raised", "_law_following", "_law_region_here"]) (sc := defScope st_law_run) (by decide +kernel)) (fun _ _ _ _ _ => pg_name (i := 7) sc_law_run.nd rfl (Or.inl rfl)) (fun _ _ _ _ _ => pts_nil) (fun _ _ _ _ _ => (pe_callD G_law_value hr (by omega) rfl pass0 (pa_cons (pv 1) (pa_cons (pv 7) pa_nil))))))) pss_nil) (pss_cons (ps_set (i := 8) sc_law_run.nd rfl (Or.inl rfl) pe_non) (pss_cons (ps_set (i := 9) sc_law_run.nd rfl (Or.inl rfl) (pe_op op_add (pv 4) pe_int)) (pss_cons (ps_if (pt_cmpR op_eq (pe_ix ix_tup (pv 6) pe_int (fun _ _ => rfl)) pe_str (nomark _)) (pss_one (ps_set (i := 9) sc_law_run.nd rfl (Or.inl rfl) (pe_ix ix_tup (pv 6) pe_int (fun _ _ => rfl)))) (pss_one (ps_if (pt_cmpR op_eq (pe_ix ix_tup (pv 6) pe_int (fun _ _ => rfl)) pe_str (nomark _)) (pss_one (ps_if (pt_cmpR op_ne (pe_callD G_law_value hr (by omega) rfl pass0 (pa_cons (pv 1) (pa_cons (pe_ix ix_tup (pv 6) pe_int (fun _ _ => rfl)) pa_nil))) pe_int (nomark _)) (pss_one (ps_set (i := 9) sc_law_run.nd rfl (Or.inl rfl) (pe_ix ix_tup (pv 6) pe_int (fun _ _ => rfl)))) pss_nil)) (pss_one (ps_if (pt_cmpR op_eq (pe_ix ix_tup (pv 6) pe_int (fun _ _ => rfl)) pe_str (nomark _)) (pss_one (ps_set (i := 8) sc_law_run.nd rfl (Or.inl rfl) (pe_callD G_law_enter hr (by omega) rfl pass0 (pa_cons (pv 0) (pa_cons (pv 1) (pa_cons (pv 6) pa_nil)))))) (pss_one (ps_set (i := 8) sc_law_run.nd rfl (Or.inl rfl) (pe_callD G_law_step hr (by omega) rfl pass0 (pa_cons (pv 0) (pa_cons (pv 1) (pa_cons (pv 6) pa_nil))))))))))) (pss_cons (ps_if (pt_cmpR op_notN (pe_dget (hu_of hr) (pv 0) pe_str (fun _ _ => rfl)) pe_non (nomark _)) (pss_one (ps_ret (pe_lst pa_nil))) pss_nil) (pss_cons (ps_if (pt_cmpR op_notN (pv 8) pe_non (nomark _)) (pss_cons (ps_set (i := 10) sc_law_run.nd rfl (Or.inl rfl) (pe_callD G_law_region hr (by omega) rfl pass0 (pa_cons (pv 2) (pa_cons (pv 4) pa_nil)))) (pss_cons (ps_if (pt_cmpR op_isN (pv 10) pe_non (nomark _)) (pss_cons (ps_dput (hu_of hr) (pv 0) pe_str (pv 8) rfl) (pss_one (ps_ret (pe_lst pa_nil)))) pss_nil) (pss_cons (ps_asg (pe_ix ix_list (pv 8) pe_int (fun _ _ => rfl)) (pg_sub (pv 3) (pe_ix ix_tup (pv 10) pe_int (fun _ _ => rfl)) set_list)) (pss_cons (ps_asg (pe_ix ix_list (pv 8) pe_int (fun _ _ => rfl)) (pg_sub (pv 3) (pe_ix ix_tup (pv 10) pe_int (fun _ _ => rfl)) set_list)) (pss_one (ps_set (i := 9) sc_law_run.nd rfl (Or.inl rfl) (pe_ix ix_tup (pv 10) pe_int (fun _ _ => rfl)))))))) pss_nil) (pss_one (ps_set (i := 4) sc_law_run.nd rfl (Or.inl rfl) (pv 9)))))))))))) (pss_one (ps_ret (pe_lst pa_nil))))))), ?_⟩
  obtain ⟨mx, mfs, mt, mn, mp, mus, mps, M⟩ := S.mo
  obtain ⟨vU, hvU, hU2⟩ := M.un.get S.hU
  obtain ⟨ua, ux, ufs, uc, urg, ucs, urs, rfl, un0⟩ := hU2
  refine ⟨_, rfl, _, _, rfl, DGet.k (k := .inr "module") S.s.l.run, _, _, _, _, _, rfl, M.at_, cl_Module T, na_Module_units T, M.units, _, rfl, _, _, rfl, DGet.k (k := .inr "number") S.f, mt, _, _, _, rfl, rfl, SqT.of M.unA, atI_nat hvU, ?_⟩
  refine ⟨_, rfl, _, _, rfl, DGet.k (k := .inr "registers") S.f, ?_⟩
  have m0 := Wn.mu_start UO d.g.fuel
  have lt0 := (List.getElem?_eq_some_iff.mp UO.tick).1
  refine ⟨1000000, rfl, by decide, by decide, for_range (lo := 0) (n := 1000000)
    (fun k σ H' => ∃ (g : G) (rs : List Int) (i n1 : Nat) (o5 o6 o8 o9 o10 : Option V), σ = [some (.ref d.L.rh), some (.ref d.fa), some (.ref ua), some (.ref d.ra), some (.int i), o5, o6, none, o8, o9, o10] ∧ LSit K H' (d.to g rs) ∧ Stp (LChg d.L d.cas d.ra) H H' ∧
      Wn.run d.e n1 d.u (d.i0 :: d.r) i g rs = some o ∧ mu d.U g.fuel i < n1 ∧ i < d.U.code.length ∧ g.evs.length + mu d.U g.fuel i ≤ 100000 ∧ n1 + k = n)
    ⟨d.g, d.rs, 0, n, none, none, none, none, none, rfl, S, Stp.refl, hrunm, by rw [m0]; exact hmu, lt0, by rw [m0]; exact hev, rfl⟩ ?turn ?fin⟩
  case fin =>
    rintro σ H' ⟨g, rs, i, n1, o5, o6, o8, o9, o10, rfl, S1, st1, hrun1, hmu1, hi1, hev1, hn1⟩
    omega
  rintro k σ H1 hk ⟨g, rs, i, n1, o5, o6, o8, o9, o10, rfl, S1, st1, hrun1, hmu1, hi1, hev1, hn1⟩
  obtain ⟨n', rfl⟩ : ∃ n', n1 = n' + 1 := ⟨n1 - 1, by omega⟩
  have un := un0.st st1
  obtain ⟨ins, hins⟩ : ∃ ins, d.U.code[i]? = some ins := ⟨_, List.getElem?_eq_getElem hi1⟩
  obtain ⟨v, hv, ia, ivs, rfl, hia, hif⟩ := un.ins.get hins
  refine ⟨_, rfl, _, _, _, _, _, rfl, un.at_, cl_Unit T, na_Unit_code T, un.code, _, rfl, uc, _, _, _, rfl, rfl, SqT.of un.codeA, atI_nat hv, kN _ g rs i ua _ _ _ _ _ _ H1 S1 fun H2 st2 sA2 => ?_⟩
  have S2 : LSit K H2 (d.to (Wn.note g d.u i rs) rs) := S1.to (g := Wn.note g d.u i rs) (rs := rs) st2 sA2 S1.ok.note rfl
  have hia2 := st2.tup hia
  have hif2 := hif.st st2
  have un2 := un.st st2
  have st02 := st1.trans st2
  have IO := UO.ins i ins hins
  refine ⟨_, rfl, ia, _, _, _, rfl, rfl, SqT.of hia2, atI_hd, rfl, _, rfl, ?_⟩
  by_cases hret : ∃ vs, ins = .ret vs
  · obtain ⟨vs, rfl⟩ := hret
    obtain ⟨oo, rfl, avs, hoo, h2⟩ := hif2
    have hrr := Wn.run_ret (e := d.e) (n := n') (ch := d.i0 :: d.r) (g := g) (rs := rs) S.hU hins
    rw [hrun1] at hrr
    cases hrr
    have lnr : vs.length ≤ 1000 := by
      have := IO.1
      have := UO.nr
      omega
    refine if_true_of (by show decide (V.str ("return" : Str) = V.str "return") = true; decide) ⟨_, rfl, ia, _, _, _, rfl, rfl, SqT.of hia2, rfl, oo, rfl, ⟨_, SqT.of hoo⟩, fun DL hDL => lc_lvals S2 hoo h2 IO.2 lnr (i := 7) rfl (by show 7 < 11; decide) (by decide) hDL fun H3 t3 h3 => ?_⟩
    have S3 := S2.st t3
    refine q H3 DL (st02.trans t3.z) S3.s.l S3.s.c S3.s.tk (fun o w e => ?_) h3
    have := st02.to DL o e (fun y => absurd y (sA2.fresh hDL)) w
    rw [hDL] at this
    cases this
  have hret' : ∀ vs, ins ≠ .ret vs := fun vs z => hret ⟨vs, z⟩
  obtain ⟨x, hone, hnx, hpot⟩ := Wn.one_ok (n := n') S.E S1.ok S.hU hins hmu1 hret'
  have hthen := Wn.run_one (e := d.e) (n := n') (ch := d.i0 :: d.r) (g := g) (rs := rs) S.hU hins hret'
  have hone' : Wn.one d.e n' d.u (d.i0 :: d.r) i g rs ins = some x := hone
  rw [hrun1, hone'] at hthen
  have hstep : stepX (d.to (Wn.note g d.u i rs) rs).dat n' i ins = some x := (one_stepX (d.to g rs).dat n' i ins hret').symm.trans hone
  have ml := Wn.mu_low (U := d.U) (f := g.fuel) (i := i)
  have nret : insN ins ≠ "return" := by
    cases ins with
    | ret vs => exact absurd rfl (hret' vs)
    | ar r2 _ _ _ _ => cases r2 <;> simp only [insN, arN] <;> decide
    | _ => simp only [insN]; decide
  refine if_false_of (decide_eq_false fun z => nret (V.str.inj z)) ⟨_, rfl, _, _, rfl, rfl, _, rfl, ia, _, _, _, rfl, rfl, SqT.of hia2, atI_hd, rfl, _, rfl, ?_⟩
  have h10' : 10 ≤ g.cs.length + r := by
    have h1 : g.cs.length = d.i0 + 1 := S1.top
    have h2 := S.top
    omega
  have hev' : g.evs.length + 256 * g.fuel ≤ 100000 := by omega
  have big : bigE (Wn.note g d.u i rs) := Nat.lt_of_le_of_lt (Nat.le_trans (Nat.le_add_right _ _) hev') (by decide : 100000 < sizeLine)
  have hi2 : insV H2 (.ref ia) ins := ⟨ia, ivs, rfl, hia2, hif2⟩
  -- what follows
  have step : ∀ (i' : Nat) (g' : G) (rs' : List Int) (H3 : Hp) (o8 o9 o10 : Option V), x = .go i' g' rs' → Stp (LChg d.L d.cas d.ra) H2 H3 → LStA H3 d.L d.e.ins g' d.cas d.ra rs' →
      ∃ (g1 : G) (rs1 : List Int) (i1 n1 : Nat) (p5 p6 p8 p9 p10 : Option V), [some (V.ref d.L.rh), some (.ref d.fa), some (.ref ua), some (.ref d.ra), some (.int i'), some (.int (0 + (k : Int))), some (.ref ia), none, o8, o9, o10] = [some (.ref d.L.rh), some (.ref d.fa), some (.ref ua), some (.ref d.ra), some (.int i1), p5, p6, none, p8, p9, p10] ∧ LSit K H3 (d.to g1 rs1) ∧ Stp (LChg d.L d.cas d.ra) H H3 ∧
        Wn.run d.e n1 d.u (d.i0 :: d.r) i1 g1 rs1 = some o ∧ mu d.U g1.fuel i1 < n1 ∧ i1 < d.U.code.length ∧ g1.evs.length + mu d.U g1.fuel i1 ≤ 100000 ∧ n1 + (k + 1) = n := by
    rintro i' g' rs' H3 o8 o9 o10 rfl st3 sA3
    obtain ⟨kp, hi', hm'⟩ := hnx
    have hp' : g'.evs.length + mu d.U g'.fuel i' ≤ g.evs.length + mu d.U g.fuel i := hpot
    have hm2 : mu d.U g'.fuel i' < mu d.U g.fuel i := hm'
    exact ⟨g', rs', i', n', _, _, _, _, _, rfl, S2.to st3 sA3 kp.st (show g'.cs.length = g.cs.length from csl kp), st02.trans st3, hthen.symm, by omega, hi', by omega, by omega⟩
  have post : ∀ (Dk : Ends) (o10 : Option V), (∀ σ H3, (∃ (g1 : G) (rs1 : List Int) (i1 n1 : Nat) (p5 p6 p8 p9 p10 : Option V), σ = [some (V.ref d.L.rh), some (.ref d.fa), some (.ref ua), some (.ref d.ra), some (.int i1), p5, p6, none, p8, p9, p10] ∧ LSit K H3 (d.to g1 rs1) ∧ Stp (LChg d.L d.cas d.ra) H H3 ∧
        Wn.run d.e n1 d.u (d.i0 :: d.r) i1 g1 rs1 = some o ∧ mu d.U g1.fuel i1 < n1 ∧ i1 < d.U.code.length ∧ g1.evs.length + mu d.U g1.fuel i1 ≤ 100000 ∧ n1 + (k + 1) = n) → Dk.nx σ H3) → (∀ v H3, Q v H3 → Dk.rt v H3) → (∀ i' g' rs', x = .go i' g' rs' → i' = i + 1) →
      LPost d.L d.e.ins d.cas d.ra H2 (fun v H3 => tRestR K Dk [some (.ref d.L.rh), some (.ref d.fa), some (.ref ua), some (.ref d.ra), some (.int i), some (.int (0 + (k : Int))), some (.ref ia), none, some v, some (.int ((i : Int) + 1)), o10] H3) x := by
    intro Dk o10 hnx2 hrt hgo
    cases x with
    | go i' g' rs' =>
      have ei := hgo i' g' rs' rfl
      subst ei
      intro H3 st3 sA3
      exact cont_go sA3.l.run rfl (hnx2 _ _ (step (i + 1) g' rs' H3 _ _ _ rfl st3 sA3))
    | exh g' rs' =>
      simp only [Wn.thenX] at hthen
      cases hthen
      intro H3 e v st3 l3 hv he
      refine cont_end l3.run hv.1 fun t ht => hrt _ _ ?_
      have tn : Stp S0 H3 (upd H3 t (.lst [])) := Stp.new ht
      exact q _ t e v ((st02.trans st3).trans tn.z) (l3.st tn) hv (tn.tup he)
    | fault g' rs' =>
      simp only [Wn.thenX] at hthen
      cases hthen
      intro H3 e v st3 l3 hv he
      refine cont_end l3.run hv.1 fun t ht => hrt _ _ ?_
      have tn : Stp S0 H3 (upd H3 t (.lst [])) := Stp.new ht
      exact q _ t e v ((st02.trans st3).trans tn.z) (l3.st tn) hv (tn.tup he)
    | exc kx px g' rs' =>
      obtain ⟨kp, hk5, hp5, nt⟩ := hnx
      have hp' : g'.evs.length + 256 * g'.fuel ≤ g.evs.length + 256 * g.fuel := hpot
      simp only [Wn.thenX] at hthen
      intro H3 t st3 sA3 nwt ht
      have S3 : LSit K H3 (d.to g' rs') := S2.to st3 sA3 kp.st (show g'.cs.length = g.cs.length from csl kp)
      have lr : rs'.length = d.U.regs := S3.len
      have ntr : d.ra ≠ t := nwt.ne S2.s.r
      have nwtH : New H t := fun o w e => by
        by_cases z : LChg d.L d.cas d.ra t
        · rcases z with z | z | z | z | z
          · exact absurd z.symm (nwt.ne S2.s.l.run)
          · obtain ⟨l, h1, _⟩ := S2.s.l.md
            exact absurd z.symm (nwt.ne h1)
          · obtain ⟨l, h1, _⟩ := S2.s.l.sn
            exact absurd z.symm (nwt.ne h1)
          · exact absurd z.symm (nwt.ne S2.s.r)
          · obtain ⟨j, hj⟩ := List.getElem?_of_mem z
            obtain ⟨c, _, h1⟩ := S2.s.c.get' hj
            exact absurd rfl (nwt.ne (o := .lst (c.map V.int)) h1)
        · exact nwt o w (st02.to t o e (fun y => absurd y z) w)
      refine cont_exc sA3.l.run rfl ht (un2.st st3) S3.s.r ntr (fun r hr => ?_) (fun hn t2 ht2 => hrt _ _ ?_) (fun rg a hr => hnx2 _ _ ?_)
      · obtain ⟨RO, _⟩ := Wn.region_ok UO hr
        show r.r1 < rs'.length ∧ r.r2 < rs'.length
        rw [lr]
        exact ⟨RO.r1, RO.r2⟩
      · rw [hn] at hthen
        cases hthen
        obtain ⟨l4, s4⟩ := sA3.l.set { gv g' with ra := .ref t }
        have tn := Stp.new (S := S0) (o := .lst []) ht2
        have f : ∀ {b : Addr} {xs : List V}, H3 b = some (.lst xs) → upd (upd H3 d.L.rh (.dK (lrK d.L { gv g' with ra := .ref t }))) t2 (.lst []) b = some (.lst xs) := fun {b xs} e => tn.at (s4.at e fun z => absurd z (ne_of e sA3.l.run (by intro z; cases z))) fun z => z.elim
        exact q _ t2 t ((st02.trans st3).trans ((s4.mono fun a z => .inl z).trans tn.z)) (l4.st tn) (sA3.c.mono fun _ _ z => f z) sA3.tk nwtH (f ht)
      · rw [hr] at hthen
        obtain ⟨K2, hlt, hm2⟩ := Wn.entry_ok UO kp hr hk5 hp5 nt
        have hp2 : g'.evs.length + mu d.U g'.fuel rg.entry ≤ g.evs.length + mu d.U g.fuel i := Wn.exc_pot UO hr nt hp'
        have hm3 : mu d.U g'.fuel rg.entry < mu d.U g.fuel i := hm2
        obtain ⟨s5, t5⟩ := S3.s.setR ((d.to g' rs').rs.set rg.r1 (kx : Int))
        obtain ⟨s6, t6⟩ := s5.setR (((d.to g' rs').rs.set rg.r1 (kx : Int)).set rg.r2 (px : Int))
        exact ⟨g', _, rg.entry, n', _, _, _, _, _, rfl, S3.to (t5.trans t6) s6 K2.st rfl, (st02.trans st3).trans (t5.trans t6), hthen.symm, by omega, hlt, by omega, by omega⟩
  have idle : ∀ (y : Nx), noJump ins → (∀ a b c e5 f, ins ≠ .call a b c e5 f) → some y = stepX (d.to (Wn.note g d.u i rs) rs).dat n' i ins → ∀ i' g' rs', y = .go i' g' rs' → i' = i + 1 := fun y h1 h2 e i' g' rs' e2 => by
    have : stepX (d.to (Wn.note g d.u i rs) rs).dat n' i ins = some (step1 d.e (d.i0 :: d.r) i (Wn.note g d.u i rs) rs ins) := by
      cases ins with
      | call a b c e5 f => exact absurd rfl (h2 a b c e5 f)
      | _ => rfl
    rw [this] at e
    cases e
    exact step1_idx h1 e2
  cases ins with
  | ret vs => exact absurd rfl (hret' vs)
  | jump t =>
    cases hstep
    obtain rfl : ivs = [.int (t : Nat)] := hif2
    exact if_true_of (by show decide (V.str ("jump" : Str) = V.str "jump") = true; decide) ⟨_, rfl, ia, _, _, _, rfl, rfl, SqT.of hia2, rfl, cont_go S2.s.l.run rfl (step t _ rs H2 _ _ _ rfl Stp.refl sA2)⟩
  | branch x t =>
    cases hstep
    obtain ⟨o', rfl, ho⟩ := hif2
    have hx : OpOk d.U.regs x := IO.1
    refine if_false_of (by show decide (V.str ("branch" : Str) = V.str "jump") = false; decide) ⟨_, rfl, ia, _, _, _, rfl, rfl, SqT.of hia2, atI_hd, rfl, _, rfl, if_true_of (by show decide (V.str ("branch" : Str) = V.str "branch") = true; decide) ⟨_, rfl, _, rfl, ia, _, _, _, rfl, rfl, SqT.of hia2, rfl, d.fa, _, _, _, d.ra, _, _, rs, rfl, S2.f, S2.s.r, ho, S2.op hx, rfl, _, rfl, ?_⟩⟩
    by_cases c : Wn.val rs x = 0
    · refine if_false_of (by show (!decide (V.int (Wn.val rs x) = V.int 0)) = false; rw [c]; decide) ?_
      exact cont_go S2.s.l.run rfl (step (i + 1) (Wn.note g d.u i rs) rs H2 _ _ _ (by show Nx.go (if Wn.val rs x ≠ 0 then t else i + 1) (Wn.note g d.u i rs) rs = Nx.go (i + 1) (Wn.note g d.u i rs) rs; rw [if_neg (fun y => y c)]) Stp.refl sA2)
    · refine if_true_of (by show (!decide (V.int (Wn.val rs x) = V.int 0)) = true; rw [decide_eq_false (fun z => c (V.int.inj z))]; rfl) ⟨_, rfl, ia, _, _, _, rfl, rfl, SqT.of hia2, rfl, ?_⟩
      exact cont_go S2.s.l.run rfl (step t (Wn.note g d.u i rs) rs H2 _ _ _ (by show Nx.go (if Wn.val rs x ≠ 0 then t else i + 1) (Wn.note g d.u i rs) rs = Nx.go t (Wn.note g d.u i rs) rs; rw [if_pos c]) Stp.refl sA2)
  | call u2 hh as ds p =>
    obtain ⟨o', o2, rfl, ho, ho2⟩ := hif2
    have hm5 : 256 * g.fuel < n' := by
      have := Wn.mu_no (f := g.fuel) (show d.U.code[i]? ≠ some .tick by rw [hins]; simp)
      omega
    refine if_false_of (by show decide (V.str ("call" : Str) = V.str "jump") = false; decide) ⟨_, rfl, ia, _, _, _, rfl, rfl, SqT.of hia2, atI_hd, rfl, _, rfl, if_false_of (by show decide (V.str ("call" : Str) = V.str "branch") = false; decide) ⟨_, rfl, ia, _, _, _, rfl, rfl, SqT.of hia2, atI_hd, rfl, _, rfl, if_true_of (by show decide (V.str ("call" : Str) = V.str "call") = true; decide) ⟨_, rfl, _, rfl, _, rfl, d.to (Wn.note g d.u i rs) rs, ia, u2, hh, as, ds, p, i, n', x, rfl, S2, hi2, IO, h10', hev', hm5, by omega, hstep, post _ _ (fun σ H3 h => h) (fun v H3 h => h) (fun i' g' rs' e => callX_idx hstep e)⟩⟩⟩
  | tick =>
    refine if_false_of (by show decide (V.str ("tick" : Str) = V.str "jump") = false; decide) ⟨_, rfl, ia, _, _, _, rfl, rfl, SqT.of hia2, atI_hd, rfl, _, rfl, if_false_of (by show decide (V.str ("tick" : Str) = V.str "branch") = false; decide) ⟨_, rfl, ia, _, _, _, rfl, rfl, SqT.of hia2, atI_hd, rfl, _, rfl, if_false_of (by show decide (V.str ("tick" : Str) = V.str "call") = false; decide) ⟨_, rfl, _, rfl, _, rfl, d.to (Wn.note g d.u i rs) rs, ia, .tick, i, rfl, S2, hi2, IO, trivial, big, ?_⟩⟩⟩
    have ey : x = step1 d.e (d.i0 :: d.r) i (Wn.note g d.u i rs) rs (.tick) := (Option.some.inj hstep).symm
    rw [← show x = step1 (d.to (Wn.note g d.u i rs) rs).e ((d.to (Wn.note g d.u i rs) rs).i0 :: (d.to (Wn.note g d.u i rs) rs).r) i (d.to (Wn.note g d.u i rs) rs).g (d.to (Wn.note g d.u i rs) rs).rs (.tick) from ey]
    exact post _ _ (fun σ H3 h => h) (fun v H3 h => h) (idle x trivial (fun a b c e f z => by cases z) hstep.symm)
  | put x1 =>
    refine if_false_of (by show decide (V.str ("put" : Str) = V.str "jump") = false; decide) ⟨_, rfl, ia, _, _, _, rfl, rfl, SqT.of hia2, atI_hd, rfl, _, rfl, if_false_of (by show decide (V.str ("put" : Str) = V.str "branch") = false; decide) ⟨_, rfl, ia, _, _, _, rfl, rfl, SqT.of hia2, atI_hd, rfl, _, rfl, if_false_of (by show decide (V.str ("put" : Str) = V.str "call") = false; decide) ⟨_, rfl, _, rfl, _, rfl, d.to (Wn.note g d.u i rs) rs, ia, .put x1, i, rfl, S2, hi2, IO, trivial, big, ?_⟩⟩⟩
    have ey : x = step1 d.e (d.i0 :: d.r) i (Wn.note g d.u i rs) rs (.put x1) := (Option.some.inj hstep).symm
    rw [← show x = step1 (d.to (Wn.note g d.u i rs) rs).e ((d.to (Wn.note g d.u i rs) rs).i0 :: (d.to (Wn.note g d.u i rs) rs).r) i (d.to (Wn.note g d.u i rs) rs).g (d.to (Wn.note g d.u i rs) rs).rs (.put x1) from ey]
    exact post _ _ (fun σ H3 h => h) (fun v H3 h => h) (idle x trivial (fun a b c e f z => by cases z) hstep.symm)
  | raise kk p =>
    refine if_false_of (by show decide (V.str ("raise" : Str) = V.str "jump") = false; decide) ⟨_, rfl, ia, _, _, _, rfl, rfl, SqT.of hia2, atI_hd, rfl, _, rfl, if_false_of (by show decide (V.str ("raise" : Str) = V.str "branch") = false; decide) ⟨_, rfl, ia, _, _, _, rfl, rfl, SqT.of hia2, atI_hd, rfl, _, rfl, if_false_of (by show decide (V.str ("raise" : Str) = V.str "call") = false; decide) ⟨_, rfl, _, rfl, _, rfl, d.to (Wn.note g d.u i rs) rs, ia, .raise kk p, i, rfl, S2, hi2, IO, trivial, big, ?_⟩⟩⟩
    have ey : x = step1 d.e (d.i0 :: d.r) i (Wn.note g d.u i rs) rs (.raise kk p) := (Option.some.inj hstep).symm
    rw [← show x = step1 (d.to (Wn.note g d.u i rs) rs).e ((d.to (Wn.note g d.u i rs) rs).i0 :: (d.to (Wn.note g d.u i rs) rs).r) i (d.to (Wn.note g d.u i rs) rs).g (d.to (Wn.note g d.u i rs) rs).rs (.raise kk p) from ey]
    exact post _ _ (fun σ H3 h => h) (fun v H3 h => h) (idle x trivial (fun a b c e f z => by cases z) hstep.symm)
  | again x1 y =>
    refine if_false_of (by show decide (V.str ("again" : Str) = V.str "jump") = false; decide) ⟨_, rfl, ia, _, _, _, rfl, rfl, SqT.of hia2, atI_hd, rfl, _, rfl, if_false_of (by show decide (V.str ("again" : Str) = V.str "branch") = false; decide) ⟨_, rfl, ia, _, _, _, rfl, rfl, SqT.of hia2, atI_hd, rfl, _, rfl, if_false_of (by show decide (V.str ("again" : Str) = V.str "call") = false; decide) ⟨_, rfl, _, rfl, _, rfl, d.to (Wn.note g d.u i rs) rs, ia, .again x1 y, i, rfl, S2, hi2, IO, trivial, big, ?_⟩⟩⟩
    have ey : x = step1 d.e (d.i0 :: d.r) i (Wn.note g d.u i rs) rs (.again x1 y) := (Option.some.inj hstep).symm
    rw [← show x = step1 (d.to (Wn.note g d.u i rs) rs).e ((d.to (Wn.note g d.u i rs) rs).i0 :: (d.to (Wn.note g d.u i rs) rs).r) i (d.to (Wn.note g d.u i rs) rs).g (d.to (Wn.note g d.u i rs) rs).rs (.again x1 y) from ey]
    exact post _ _ (fun σ H3 h => h) (fun v H3 h => h) (idle x trivial (fun a b c e f z => by cases z) hstep.symm)
  | get dd p =>
    refine if_false_of (by show decide (V.str ("get" : Str) = V.str "jump") = false; decide) ⟨_, rfl, ia, _, _, _, rfl, rfl, SqT.of hia2, atI_hd, rfl, _, rfl, if_false_of (by show decide (V.str ("get" : Str) = V.str "branch") = false; decide) ⟨_, rfl, ia, _, _, _, rfl, rfl, SqT.of hia2, atI_hd, rfl, _, rfl, if_false_of (by show decide (V.str ("get" : Str) = V.str "call") = false; decide) ⟨_, rfl, _, rfl, _, rfl, d.to (Wn.note g d.u i rs) rs, ia, .get dd p, i, rfl, S2, hi2, IO, trivial, big, ?_⟩⟩⟩
    have ey : x = step1 d.e (d.i0 :: d.r) i (Wn.note g d.u i rs) rs (.get dd p) := (Option.some.inj hstep).symm
    rw [← show x = step1 (d.to (Wn.note g d.u i rs) rs).e ((d.to (Wn.note g d.u i rs) rs).i0 :: (d.to (Wn.note g d.u i rs) rs).r) i (d.to (Wn.note g d.u i rs) rs).g (d.to (Wn.note g d.u i rs) rs).rs (.get dd p) from ey]
    exact post _ _ (fun σ H3 h => h) (fun v H3 h => h) (idle x trivial (fun a b c e f z => by cases z) hstep.symm)
  | check x1 lo hi3 p =>
    refine if_false_of (by show decide (V.str ("check" : Str) = V.str "jump") = false; decide) ⟨_, rfl, ia, _, _, _, rfl, rfl, SqT.of hia2, atI_hd, rfl, _, rfl, if_false_of (by show decide (V.str ("check" : Str) = V.str "branch") = false; decide) ⟨_, rfl, ia, _, _, _, rfl, rfl, SqT.of hia2, atI_hd, rfl, _, rfl, if_false_of (by show decide (V.str ("check" : Str) = V.str "call") = false; decide) ⟨_, rfl, _, rfl, _, rfl, d.to (Wn.note g d.u i rs) rs, ia, .check x1 lo hi3 p, i, rfl, S2, hi2, IO, trivial, big, ?_⟩⟩⟩
    have ey : x = step1 d.e (d.i0 :: d.r) i (Wn.note g d.u i rs) rs (.check x1 lo hi3 p) := (Option.some.inj hstep).symm
    rw [← show x = step1 (d.to (Wn.note g d.u i rs) rs).e ((d.to (Wn.note g d.u i rs) rs).i0 :: (d.to (Wn.note g d.u i rs) rs).r) i (d.to (Wn.note g d.u i rs) rs).g (d.to (Wn.note g d.u i rs) rs).rs (.check x1 lo hi3 p) from ey]
    exact post _ _ (fun σ H3 h => h) (fun v H3 h => h) (idle x trivial (fun a b c e f z => by cases z) hstep.symm)
  | load dd hh c n2 x1 =>
    refine if_false_of (by show decide (V.str ("load" : Str) = V.str "jump") = false; decide) ⟨_, rfl, ia, _, _, _, rfl, rfl, SqT.of hia2, atI_hd, rfl, _, rfl, if_false_of (by show decide (V.str ("load" : Str) = V.str "branch") = false; decide) ⟨_, rfl, ia, _, _, _, rfl, rfl, SqT.of hia2, atI_hd, rfl, _, rfl, if_false_of (by show decide (V.str ("load" : Str) = V.str "call") = false; decide) ⟨_, rfl, _, rfl, _, rfl, d.to (Wn.note g d.u i rs) rs, ia, .load dd hh c n2 x1, i, rfl, S2, hi2, IO, trivial, big, ?_⟩⟩⟩
    have ey : x = step1 d.e (d.i0 :: d.r) i (Wn.note g d.u i rs) rs (.load dd hh c n2 x1) := (Option.some.inj hstep).symm
    rw [← show x = step1 (d.to (Wn.note g d.u i rs) rs).e ((d.to (Wn.note g d.u i rs) rs).i0 :: (d.to (Wn.note g d.u i rs) rs).r) i (d.to (Wn.note g d.u i rs) rs).g (d.to (Wn.note g d.u i rs) rs).rs (.load dd hh c n2 x1) from ey]
    exact post _ _ (fun σ H3 h => h) (fun v H3 h => h) (idle x trivial (fun a b c e f z => by cases z) hstep.symm)
  | store hh c n2 x1 y =>
    refine if_false_of (by show decide (V.str ("store" : Str) = V.str "jump") = false; decide) ⟨_, rfl, ia, _, _, _, rfl, rfl, SqT.of hia2, atI_hd, rfl, _, rfl, if_false_of (by show decide (V.str ("store" : Str) = V.str "branch") = false; decide) ⟨_, rfl, ia, _, _, _, rfl, rfl, SqT.of hia2, atI_hd, rfl, _, rfl, if_false_of (by show decide (V.str ("store" : Str) = V.str "call") = false; decide) ⟨_, rfl, _, rfl, _, rfl, d.to (Wn.note g d.u i rs) rs, ia, .store hh c n2 x1 y, i, rfl, S2, hi2, IO, trivial, big, ?_⟩⟩⟩
    have ey : x = step1 d.e (d.i0 :: d.r) i (Wn.note g d.u i rs) rs (.store hh c n2 x1 y) := (Option.some.inj hstep).symm
    rw [← show x = step1 (d.to (Wn.note g d.u i rs) rs).e ((d.to (Wn.note g d.u i rs) rs).i0 :: (d.to (Wn.note g d.u i rs) rs).r) i (d.to (Wn.note g d.u i rs) rs).g (d.to (Wn.note g d.u i rs) rs).rs (.store hh c n2 x1 y) from ey]
    exact post _ _ (fun σ H3 h => h) (fun v H3 h => h) (idle x trivial (fun a b c e f z => by cases z) hstep.symm)
  | move dd x1 =>
    refine if_false_of (by show decide (V.str ("move" : Str) = V.str "jump") = false; decide) ⟨_, rfl, ia, _, _, _, rfl, rfl, SqT.of hia2, atI_hd, rfl, _, rfl, if_false_of (by show decide (V.str ("move" : Str) = V.str "branch") = false; decide) ⟨_, rfl, ia, _, _, _, rfl, rfl, SqT.of hia2, atI_hd, rfl, _, rfl, if_false_of (by show decide (V.str ("move" : Str) = V.str "call") = false; decide) ⟨_, rfl, _, rfl, _, rfl, d.to (Wn.note g d.u i rs) rs, ia, .move dd x1, i, rfl, S2, hi2, IO, trivial, big, ?_⟩⟩⟩
    have ey : x = step1 d.e (d.i0 :: d.r) i (Wn.note g d.u i rs) rs (.move dd x1) := (Option.some.inj hstep).symm
    rw [← show x = step1 (d.to (Wn.note g d.u i rs) rs).e ((d.to (Wn.note g d.u i rs) rs).i0 :: (d.to (Wn.note g d.u i rs) rs).r) i (d.to (Wn.note g d.u i rs) rs).g (d.to (Wn.note g d.u i rs) rs).rs (.move dd x1) from ey]
    exact post _ _ (fun σ H3 h => h) (fun v H3 h => h) (idle x trivial (fun a b c e f z => by cases z) hstep.symm)
  | neg dd x1 p =>
    refine if_false_of (by show decide (V.str ("neg" : Str) = V.str "jump") = false; decide) ⟨_, rfl, ia, _, _, _, rfl, rfl, SqT.of hia2, atI_hd, rfl, _, rfl, if_false_of (by show decide (V.str ("neg" : Str) = V.str "branch") = false; decide) ⟨_, rfl, ia, _, _, _, rfl, rfl, SqT.of hia2, atI_hd, rfl, _, rfl, if_false_of (by show decide (V.str ("neg" : Str) = V.str "call") = false; decide) ⟨_, rfl, _, rfl, _, rfl, d.to (Wn.note g d.u i rs) rs, ia, .neg dd x1 p, i, rfl, S2, hi2, IO, trivial, big, ?_⟩⟩⟩
    have ey : x = step1 d.e (d.i0 :: d.r) i (Wn.note g d.u i rs) rs (.neg dd x1 p) := (Option.some.inj hstep).symm
    rw [← show x = step1 (d.to (Wn.note g d.u i rs) rs).e ((d.to (Wn.note g d.u i rs) rs).i0 :: (d.to (Wn.note g d.u i rs) rs).r) i (d.to (Wn.note g d.u i rs) rs).g (d.to (Wn.note g d.u i rs) rs).rs (.neg dd x1 p) from ey]
    exact post _ _ (fun σ H3 h => h) (fun v H3 h => h) (idle x trivial (fun a b c e f z => by cases z) hstep.symm)
  | abs dd x1 p =>
    refine if_false_of (by show decide (V.str ("abs" : Str) = V.str "jump") = false; decide) ⟨_, rfl, ia, _, _, _, rfl, rfl, SqT.of hia2, atI_hd, rfl, _, rfl, if_false_of (by show decide (V.str ("abs" : Str) = V.str "branch") = false; decide) ⟨_, rfl, ia, _, _, _, rfl, rfl, SqT.of hia2, atI_hd, rfl, _, rfl, if_false_of (by show decide (V.str ("abs" : Str) = V.str "call") = false; decide) ⟨_, rfl, _, rfl, _, rfl, d.to (Wn.note g d.u i rs) rs, ia, .abs dd x1 p, i, rfl, S2, hi2, IO, trivial, big, ?_⟩⟩⟩
    have ey : x = step1 d.e (d.i0 :: d.r) i (Wn.note g d.u i rs) rs (.abs dd x1 p) := (Option.some.inj hstep).symm
    rw [← show x = step1 (d.to (Wn.note g d.u i rs) rs).e ((d.to (Wn.note g d.u i rs) rs).i0 :: (d.to (Wn.note g d.u i rs) rs).r) i (d.to (Wn.note g d.u i rs) rs).g (d.to (Wn.note g d.u i rs) rs).rs (.abs dd x1 p) from ey]
    exact post _ _ (fun σ H3 h => h) (fun v H3 h => h) (idle x trivial (fun a b c e f z => by cases z) hstep.symm)
  | less dd x1 y =>
    refine if_false_of (by show decide (V.str ("less" : Str) = V.str "jump") = false; decide) ⟨_, rfl, ia, _, _, _, rfl, rfl, SqT.of hia2, atI_hd, rfl, _, rfl, if_false_of (by show decide (V.str ("less" : Str) = V.str "branch") = false; decide) ⟨_, rfl, ia, _, _, _, rfl, rfl, SqT.of hia2, atI_hd, rfl, _, rfl, if_false_of (by show decide (V.str ("less" : Str) = V.str "call") = false; decide) ⟨_, rfl, _, rfl, _, rfl, d.to (Wn.note g d.u i rs) rs, ia, .less dd x1 y, i, rfl, S2, hi2, IO, trivial, big, ?_⟩⟩⟩
    have ey : x = step1 d.e (d.i0 :: d.r) i (Wn.note g d.u i rs) rs (.less dd x1 y) := (Option.some.inj hstep).symm
    rw [← show x = step1 (d.to (Wn.note g d.u i rs) rs).e ((d.to (Wn.note g d.u i rs) rs).i0 :: (d.to (Wn.note g d.u i rs) rs).r) i (d.to (Wn.note g d.u i rs) rs).g (d.to (Wn.note g d.u i rs) rs).rs (.less dd x1 y) from ey]
    exact post _ _ (fun σ H3 h => h) (fun v H3 h => h) (idle x trivial (fun a b c e f z => by cases z) hstep.symm)
  | equal dd x1 y =>
    refine if_false_of (by show decide (V.str ("equal" : Str) = V.str "jump") = false; decide) ⟨_, rfl, ia, _, _, _, rfl, rfl, SqT.of hia2, atI_hd, rfl, _, rfl, if_false_of (by show decide (V.str ("equal" : Str) = V.str "branch") = false; decide) ⟨_, rfl, ia, _, _, _, rfl, rfl, SqT.of hia2, atI_hd, rfl, _, rfl, if_false_of (by show decide (V.str ("equal" : Str) = V.str "call") = false; decide) ⟨_, rfl, _, rfl, _, rfl, d.to (Wn.note g d.u i rs) rs, ia, .equal dd x1 y, i, rfl, S2, hi2, IO, trivial, big, ?_⟩⟩⟩
    have ey : x = step1 d.e (d.i0 :: d.r) i (Wn.note g d.u i rs) rs (.equal dd x1 y) := (Option.some.inj hstep).symm
    rw [← show x = step1 (d.to (Wn.note g d.u i rs) rs).e ((d.to (Wn.note g d.u i rs) rs).i0 :: (d.to (Wn.note g d.u i rs) rs).r) i (d.to (Wn.note g d.u i rs) rs).g (d.to (Wn.note g d.u i rs) rs).rs (.equal dd x1 y) from ey]
    exact post _ _ (fun σ H3 h => h) (fun v H3 h => h) (idle x trivial (fun a b c e f z => by cases z) hstep.symm)
  | ar r2 dd x1 y p =>
    refine if_false_of (show decide (V.str (arN r2) = V.str "jump") = false by cases r2 <;> decide) ⟨_, rfl, ia, _, _, _, rfl, rfl, SqT.of hia2, atI_hd, rfl, _, rfl, if_false_of (show decide (V.str (arN r2) = V.str "branch") = false by cases r2 <;> decide) ⟨_, rfl, ia, _, _, _, rfl, rfl, SqT.of hia2, atI_hd, rfl, _, rfl, if_false_of (show decide (V.str (arN r2) = V.str "call") = false by cases r2 <;> decide) ⟨_, rfl, _, rfl, _, rfl, d.to (Wn.note g d.u i rs) rs, ia, .ar r2 dd x1 y p, i, rfl, S2, hi2, IO, trivial, big, ?_⟩⟩⟩
    have ey : x = step1 d.e (d.i0 :: d.r) i (Wn.note g d.u i rs) rs (.ar r2 dd x1 y p) := (Option.some.inj hstep).symm
    rw [← show x = step1 (d.to (Wn.note g d.u i rs) rs).e ((d.to (Wn.note g d.u i rs) rs).i0 :: (d.to (Wn.note g d.u i rs) rs).r) i (d.to (Wn.note g d.u i rs) rs).g (d.to (Wn.note g d.u i rs) rs).rs (.ar r2 dd x1 y p) from ey]
    exact post _ _ (fun σ H3 h => h) (fun v H3 h => h) (idle x trivial (fun a b c e f z => by cases z) hstep.symm)
end
end WX
/-! ## WL8 -/
set_option Elab.async false
set_option linter.all false
set_option maxRecDepth 100000
set_option maxHeartbeats 2000000
/-! The law's own machine: the whole run. -/
namespace WX
open PySem PySem.Spec PyProof.Rows L2 He
open Wn (Op Ar Ins Rg Un Mod G Out Nx Word wordB exact val StOk EnvOk InsOk OpOk step1 ModOk UnOk comp mu setAll push pop back NxOk Pot Keeps)
local macro_rules | `(tactic| walk_at "new") => `(tactic| (intro p hp; generalize hG : upd _ p _ = H5; obtain ⟨s5, h5⟩ := gnew hG hp; clear hG))
def spLBegin (K : PySem.W.Frag) : Sp := fun vs H Q _ => ∃ (mo inp : Addr) (fuel lim : Nat) (m : Mod) (ins : List Int) (nms : List Str) (pls : List (Int × Int)) (o : Out) (g : G), vs = [.ref mo, .ref inp, .int fuel, .int lim] ∧ moV K H mo m nms pls ∧ H inp = some (.lst (ins.map V.int)) ∧
  EnvOk ⟨m, ins⟩ ∧ fuel ≤ 100 ∧ lim ≤ 1000 ∧ Whole m ins fuel o g ∧ ∀ H' L v e, L.lim = lim → Stp S0 H H' → LLite H' L ins g v → v.en = .ref e → H' e = some (.tup (endL nms pls o)) → Q (.ref L.rh) H'
theorem gput {H H' : Hp} {p : Addr} {o : HO} (e : upd H p o = H') : H' p = some o ∧ ∀ b, b ≠ p → H' b = H b := by
  subst e
  exact ⟨upd_same, fun b h => upd_ne h⟩
section
variable {P : Program} {w : World} {K : PySem.W.Frag} {mg : Str → Option Value} {base : Heap}
theorem ok_LR (T : Txt w K mg) (r : Nat) : Def P w K mg base CX0 (10 + 2 * r) "_law_run" ["_law_run_here", "_law_frame"] (spLRunp K r) := by
  induction r with
  | zero => exact D_law_run T (k := 9) (fun vs H Q E h => h.elim) (fun cdv A outer s H vs Q E hr h => h.elim)
  | succ r ih => exact ok_lrun T r (ok_lenter T r ih)
theorem ok_lbegin (T : Txt w K mg) : Def P w K mg base CX0 40 "_law_begin" ["_law_module_here", "_law_inputs", "_law_units", "_law_limit"] (spLBegin K) := by
  have G_law_run := ok_LR (P := P) (base := base) T 10
  refine D_law_begin T (k := 39) (fun vs H Q E h => ?_) (fun cdv A outer s H vs Q E hr h => ?_)
  · obtain ⟨mo, inp, fuel, lim, m, ins, nms, pls, o, g, rfl, _⟩ := h
    rfl
  obtain ⟨mo, inp, fuel, lim, m, ins, nms, pls, o, g, rfl, hmo, hin, hE, hf, hl, ⟨U, hU, hrun⟩, q⟩ := h
  refine ⟨_, (pss_cons (ps_set (i := 4) sc_law_begin.nd rfl (Or.inl rfl) (pe_disp (pps_cons pe_str (pv 0) (pps_cons pe_str (pv 1) (pps_cons pe_str (pv 2) (pps_cons pe_str (pv 3) (pps_cons pe_str (pe_lst pa_nil) (pps_cons pe_str (pe_lst pa_nil) (pps_cons pe_str pe_int pps_nil))))))) (by rfl) (by rfl) (fun z => by cases z) (by decide))) (pss_cons (ps_dput (hu_of hr) (pv 4) pe_str pe_non rfl) (pss_cons (ps_dput (hu_of hr) (pv 4) pe_str pe_non rfl) (pss_cons (ps_dput (hu_of hr) (pv 4) pe_str pe_int rfl) (pss_cons (ps_set (i := 5) sc_law_begin.nd rfl (Or.inl rfl) (pe_ix ix_tup (pe_fld (pv 0) rfl) pe_int (fun _ _ => rfl))) (pss_cons (ps_expr (pe_callD G_law_run hr (by omega) rfl pass0 (pa_cons (pv 4) (pa_cons (pe_disp (pps_cons pe_str pe_int (pps_cons pe_str pe_non (pps_cons pe_str (pe_op op_rep (pe_lst (pa_cons pe_int pa_nil)) (pe_fld (pv 5) rfl)) (pps_cons pe_str (pe_op op_rep (pe_lst (pa_cons pe_int pa_nil)) (pe_fld (pv 5) rfl)) pps_nil)))) (by rfl) (by rfl) (fun z => by cases z) (by decide)) pa_nil)))) (pss_cons (ps_if (pt_cmpR op_notN (pe_dget (hu_of hr) (pv 4) pe_str (fun _ _ => rfl)) pe_non (nomark _)) (pss_cons (ps_set (i := 6) sc_law_begin.nd rfl (Or.inl rfl) (pe_ix ix_tup (pe_fld (pv 0) rfl) (pe_ix ix_list (pe_dget (hu_of hr) (pv 4) pe_str (fun _ _ => rfl)) pe_int (fun _ _ => rfl)) (fun _ _ => rfl))) (pss_one (ps_dput (hu_of hr) (pv 4) pe_str (pe_tup (pa_cons pe_str (pa_cons (pe_ix ix_tup (pe_fld (pv 0) rfl) (pe_ix ix_list (pe_dget (hu_of hr) (pv 4) pe_str (fun _ _ => rfl)) pe_int (fun _ _ => rfl)) (fun _ _ => rfl)) (pa_cons (pe_ix ix_tup (pv 6) pe_int (fun _ _ => rfl)) (pa_cons (pe_ix ix_tup (pv 6) pe_int (fun _ _ => rfl)) pa_nil))))) rfl))) pss_nil) (pss_cons (ps_if (pt_cmpR op_isN (pe_dget (hu_of hr) (pv 4) pe_str (fun _ _ => rfl)) pe_non (nomark _)) (pss_one (ps_dput (hu_of hr) (pv 4) pe_str (pe_tup (pa_cons pe_str pa_nil)) rfl)) pss_nil) (pss_one (ps_ret (pv 4))))))))))), ?_⟩
  have UO := hE.m.un 0 U hU
  have hr100 := UO.regs
  have hc100 := UO.cells
  -- the dict
  walk_at "new"; rename_i p np H1 t1 h1
  refine ⟨_, rfl, _, rfl, _, rfl, _, rfl, by show 0 ≤ sizeLine; decide, ?_⟩
  walk_at "new"; rename_i sn nsn H2 t2 h2
  refine ⟨by show 0 ≤ sizeLine; decide, ?_⟩
  walk_at "new"; rename_i md nmd H3 t3 h3
  have h13 := t3.at (t2.at h1 fun z => z.elim) fun z => z.elim
  have hsn := t3.at h2 fun z => z.elim
  refine ⟨h13, [(.inr "module", .ref mo), (.inr "inputs", .ref inp), (.inr "fuel", .int (fuel : Nat)), (.inr "limit", .int (lim : Nat)), (.inr "seen", .ref sn), (.inr "events", .ref md), (.inr "taken", .int 0)], rfl, by show 7 ≤ 15; decide, ?_⟩
  generalize hG4 : upd H3 p _ = H4
  obtain ⟨h4, f4⟩ := gput hG4
  clear hG4
  have h4 : H4 p = some (.dK [(.inr "module", .ref mo), (.inr "inputs", .ref inp), (.inr "fuel", .int (fuel : Nat)), (.inr "limit", .int (lim : Nat)), (.inr "seen", .ref sn), (.inr "events", .ref md), (.inr "taken", .int 0)]) := h4
  refine ⟨_, rfl, p, _, rfl, DPut.k (k := .inr "ending") h4 (by show 7 < sizeLine; decide), ?_⟩
  generalize hG5 : upd H4 p _ = H5
  obtain ⟨h5, f5⟩ := gput hG5
  clear hG5
  have h5 : H5 p = some (.dK [(.inr "module", .ref mo), (.inr "inputs", .ref inp), (.inr "fuel", .int (fuel : Nat)), (.inr "limit", .int (lim : Nat)), (.inr "seen", .ref sn), (.inr "events", .ref md), (.inr "taken", .int 0), (.inr "ending", .non)]) := h5
  refine ⟨_, rfl, p, _, rfl, DPut.k (k := .inr "raised") h5 (by show 8 < sizeLine; decide), ?_⟩
  generalize hG6 : upd H5 p _ = H6
  obtain ⟨h6, f6⟩ := gput hG6
  clear hG6
  have h6 : H6 p = some (.dK [(.inr "module", .ref mo), (.inr "inputs", .ref inp), (.inr "fuel", .int (fuel : Nat)), (.inr "limit", .int (lim : Nat)), (.inr "seen", .ref sn), (.inr "events", .ref md), (.inr "taken", .int 0), (.inr "ending", .non), (.inr "raised", .non)]) := h6
  refine ⟨_, rfl, p, _, rfl, DPut.k (k := .inr "depth") h6 (by show 9 < sizeLine; decide), ?_⟩
  generalize hG7 : upd H6 p _ = H7
  obtain ⟨h7, f7⟩ := gput hG7
  clear hG7
  have hp4 : H7 p = some (.dK (lrK ⟨p, mo, inp, md, sn, lim⟩ ⟨fuel, 0, .non, .non, 1⟩)) := h7
  have nps : sn ≠ p := Ne.symm (ne_of_none h1 nsn)
  have npm : md ≠ p := Ne.symm (ne_of_none (t2.at h1 fun z => z.elim) nmd)
  have nsm : sn ≠ md := ne_of_none h2 nmd
  have npH : New H p := .of np
  have up4 : ∀ b, b ≠ p → H7 b = H3 b := fun b nb => (f7 b nb).trans ((f6 b nb).trans ((f5 b nb).trans (f4 b nb)))
  have t4 : Stp S0 H H7 := ⟨fun b u e z w => (up4 b (npH.ne e w)).trans ((t1.trans (t2.trans t3)).to b u e z w)⟩
  have hsn4 := (up4 sn nps).trans hsn
  have hmd4 := (up4 md npm).trans h3
  clear h4 h5 h6 f4 f5 f6 f7 h7 up4
  revert t4 hp4 hsn4 hmd4
  generalize H7 = H4
  intro hp4 t4 hsn4 hmd4
  obtain ⟨mx, mfs, mt, mn, mp, mus, mps, M⟩ := hmo.st t4
  obtain ⟨vU, hvU, hU2⟩ := M.un.get hU
  obtain ⟨ua, ux, ufs, uc, urg, ucs, urs, rfl, un⟩ := hU2
  refine ⟨_, rfl, _, _, _, _, _, rfl, M.at_, cl_Module T, na_Module_units T, M.units, mt, _, _, _, rfl, rfl, SqT.of M.unA, atI_nat (j := 0) hvU, ?_⟩
  -- the frame
  refine ⟨_, rfl, ?_⟩
  walk_at "new"; rename_i fa nfa H5 t5 h5
  refine ⟨by show 1 ≤ sizeLine; decide, ?_⟩
  walk_at "new"; rename_i l1 nl1 H6 t6 h6
  have un6 := (un.st t5).st t6
  refine ⟨_, rfl, ua, _, _, _, _, rfl, un6.at_, cl_Unit T, na_Unit_cells T, un6.cells, l1, _, _, rfl, rfl, h6, by omega, by omega, ?_, ?_⟩
  · rw [Int.toNat_natCast]
    exact big1000 (by simp only [List.length_singleton]; omega)
  walk_at "new"; rename_i ca nca H7 t7 h7
  rw [rep_flat] at h7
  refine ⟨by show 1 ≤ sizeLine; decide, ?_⟩
  walk_at "new"; rename_i l2 nl2 H8 t8 h8
  have un8 := (un6.st t7).st t8
  refine ⟨_, rfl, ua, _, _, _, _, rfl, un8.at_, cl_Unit T, na_Unit_registers T, un8.regs, l2, _, _, rfl, rfl, h8, by omega, by omega, ?_, ?_⟩
  · rw [Int.toNat_natCast]
    exact big1000 (by simp only [List.length_singleton]; omega)
  walk_at "new"; rename_i ra nra H9 t9 h9
  rw [rep_flat] at h9
  have t59 := t6.trans (t7.trans (t8.trans t9))
  have hfa9 := t59.at h5 fun z => z.elim
  refine ⟨hfa9, [(.inr "number", .int 0), (.inr "parent", .non), (.inr "cells", .ref ca), (.inr "registers", .ref ra)], rfl, by show 4 ≤ 15; decide, ?_⟩
  have nfa4 : New H4 fa := .of nfa
  have nca4 : New H4 ca := (New.of nca).back (t5.trans t6)
  have nra4 : New H4 ra := (New.of nra).back (t5.trans (t6.trans (t7.trans t8)))
  have hca9 := (t8.trans t9).at h7 fun z => z.elim
  have nrc : ra ≠ ca := Ne.symm (ne_of_none (t8.at h7 fun z => z.elim) nra)
  have ncf : ca ≠ fa := ne_of hca9 hfa9 (by intro z; cases z)
  have nrf : ra ≠ fa := ne_of h9 hfa9 (by intro z; cases z)
  have t10 : Stp S0 H4 (upd H9 fa (.dK (lfK 0 .non ca ra))) := (t5.trans t59).over nfa4
  have hfaA : (upd H9 fa (.dK (lfK 0 .non ca ra))) fa = some (.dK (lfK 0 .non ca ra)) := upd_same
  have hcaA : (upd H9 fa (.dK (lfK 0 .non ca ra))) ca = some (.lst ((List.replicate U.cells (0 : Int)).map V.int)) := by rw [upd_ne ncf]; exact hca9
  have hraA : (upd H9 fa (.dK (lfK 0 .non ca ra))) ra = some (.lst ((List.replicate U.regs (0 : Int)).map V.int)) := by rw [upd_ne nrf]; exact h9
  refine (fun (goalA : ∀ HA, HA = upd H9 fa (.dK (lfK 0 .non ca ra)) → spLRun K 9 [.ref p, .ref fa] HA _ E0) => goalA _ rfl) fun HA eA => ?_
  rw [← eA] at t10 hfaA hcaA hraA
  clear eA
  obtain ⟨Um, hUm, hpar⟩ := hE.m.main
  have hUm' : m[0]? = some Um := hUm
  rw [hU] at hUm'
  cases hUm'
  have okS : StOk ⟨m, ins⟩ 0 [0] (g0 U fuel) (List.replicate U.regs 0) := by
    refine ⟨⟨U, hU, List.length_replicate⟩, Wn.words_rep _, fun c hc => ?_, ?_, by show 1 ≤ 10; decide⟩
    · rw [List.mem_singleton.mp hc]
      exact Wn.words_rep _
    · refine ⟨U, hU, ?_, ?_⟩
      · show (some (List.replicate U.cells (0 : Int)).length : Option Nat) = some U.cells
        rw [List.length_replicate]
      · rw [if_pos hpar]
  have mu0 := Wn.mu_start UO fuel
  obtain ⟨o2, hrun2, OO⟩ := Wn.run_ok hE 50000 0 0 [0] (g0 U fuel) _ U okS hU (List.getElem?_eq_some_iff.mp UO.tick).1 (by show mu U fuel 0 < 50000; rw [mu0]; omega)
  rw [hrun] at hrun2
  cases hrun2
  have t0A := t4.trans t10
  have MA := M.st t10
  have AA := fun {b : Addr} {u : HO} (e : H4 b = some u) (w : ours u) => t10.at e (fun z => z.elim) w
  have ninp : inp ≠ sn ∧ inp ≠ md := ⟨ne_of_none ((t1).at hin fun z => z.elim) nsn, ne_of_none ((t1.trans t2).at hin fun z => z.elim) nmd⟩
  have SC : LSit K HA { e := ⟨m, ins⟩, L := ⟨p, mo, inp, md, sn, lim⟩, g := g0 U fuel, cas := [ca], ra := ra, rs := List.replicate U.regs 0, fa := fa, ca := ca, par := .non, u := 0, i0 := 0, r := [], U := U, nms := nms, pls := pls } := by
    refine ⟨⟨⟨AA hp4 trivial, t0A.at hin fun z => z.elim, ⟨[], AA hmd4 trivial, All2.nil⟩, ⟨[], AA hsn4 trivial, by show All2 _ [] (List.take lim []); rw [List.take_nil]; exact All2.nil⟩⟩, All2.cons hcaA All2.nil, hraA, ?_, Nat.zero_le _⟩, hfaA, rfl, trivial, okS, hU, ⟨mx, mfs, mt, mn, mp, mus, mps, MA⟩, hE, rfl, hl, Nat.le_refl _⟩
    simp only [List.nodup_cons, List.mem_cons, List.not_mem_nil, or_false, not_or, not_false_eq_true, List.nodup_nil, and_true]
    exact ⟨⟨nsm.symm, ninp.2.symm, nra4.ne hmd4, nca4.ne hmd4⟩, ⟨ninp.1.symm, nra4.ne hsn4, nca4.ne hsn4⟩, ⟨nra4.ne (t4.at hin fun z => z.elim), nca4.ne (t4.at hin fun z => z.elim)⟩, nrc⟩
  have cross : ∀ {HB : Hp}, Stp (LChg ⟨p, mo, inp, md, sn, lim⟩ [ca] ra) HA HB → Stp S0 H HB := fun {HB} st => by
    refine (t0A.z.trans st).s0 fun b z => ?_
    rcases z with z | z | z | z | z
    · rw [z]; exact npH
    · rw [z]; exact (New.of nmd).back (t1.trans t2)
    · rw [z]; exact (New.of nsn).back t1
    · rw [z]; exact nra4.back t4
    · rw [List.mem_singleton.mp z]; exact nca4.back t4
  refine ⟨_, 50000, (o, g), rfl, SC, by show 10 ≤ 1 + 9; decide, by show 0 + 256 * fuel ≤ 100000; omega, by show 256 * fuel < 50000; omega, by omega, hrun, ?_⟩
  -- an ending is written
  have wr : ∀ {HB : Hp} {v : LV} {xs : List V}, LLite HB ⟨p, mo, inp, md, sn, lim⟩ ins g v → Stp S0 H HB → xs = endL nms pls o → ∀ t, HB t = none → Q (.ref p) (upd (upd HB t (.tup xs)) p (.dK (lrK ⟨p, mo, inp, md, sn, lim⟩ { v with en := .ref t }))) := by
    rintro HB v xs l st rfl t ht
    have tn : Stp S0 HB (upd HB t (.tup (endL nms pls o))) := Stp.new ht
    obtain ⟨l2, s2⟩ := (l.st tn).set { v with en := .ref t }
    refine q _ ⟨p, mo, inp, md, sn, lim⟩ _ t rfl (((st.trans tn).z.trans s2).s0 fun a z => by rw [show a = p from z]; exact npH) l2 rfl ?_
    rw [upd_ne (ne_of (tn.at l.run fun z => z.elim) upd_same (by intro z; cases z)).symm]
    exact upd_same
  cases o with
  | ret ws =>
    intro HB t st ll cl tk nt ht
    refine ⟨_, rfl, _, _, rfl, DGet.k (k := .inr "raised") ll.run, rfl, _, rfl, if_false_of rfl ⟨_, rfl, _, _, rfl, DGet.k (k := .inr "ending") ll.run, rfl, _, rfl, if_true_of rfl ⟨by show 1 ≤ sizeLine; decide, fun t2 ht2 => ?_⟩⟩⟩
    exact ⟨_, rfl, p, _, rfl, DPut.k (k := .inr "ending") ((Stp.new (S := S0) ht2).at ll.run fun z => z.elim) (by show 10 < sizeLine; decide), _, rfl, wr ll (cross st) rfl t2 ht2⟩
  | exh =>
    intro HB t e v st ll hv he
    refine ⟨_, rfl, _, _, rfl, DGet.k (k := .inr "raised") ll.run, rfl, _, rfl, if_false_of (by show (!decide (v.ra = .non)) = false; rw [decide_eq_true hv.2]; rfl) ⟨_, rfl, _, _, rfl, DGet.k (k := .inr "ending") ll.run, rfl, _, rfl, if_false_of (by show decide (v.en = .non) = false; rw [hv.1]; exact decide_eq_false fun z => by cases z) ⟨_, rfl, ?_⟩⟩⟩
    exact q HB ⟨p, mo, inp, md, sn, lim⟩ v e rfl (cross st) ll hv.1 he
  | fault =>
    intro HB t e v st ll hv he
    refine ⟨_, rfl, _, _, rfl, DGet.k (k := .inr "raised") ll.run, rfl, _, rfl, if_false_of (by show (!decide (v.ra = .non)) = false; rw [decide_eq_true hv.2]; rfl) ⟨_, rfl, _, _, rfl, DGet.k (k := .inr "ending") ll.run, rfl, _, rfl, if_false_of (by show decide (v.en = .non) = false; rw [hv.1]; exact decide_eq_false fun z => by cases z) ⟨_, rfl, ?_⟩⟩⟩
    exact q HB ⟨p, mo, inp, md, sn, lim⟩ v e rfl (cross st) ll hv.1 he
  | exc k pl =>
    intro HB t x st ll cl tk nx hxx
    obtain ⟨hk5, hp5, _⟩ := OO
    have MB := MA.st st
    have hnm : (nms.map V.str)[k]? = some (.str (nms.getD k "")) := by
      have : k < nms.length := by rw [MB.n5]; exact hk5
      rw [List.getElem?_map, List.getElem?_eq_getElem this, List.getD_eq_getElem?_getD, List.getElem?_eq_getElem this]
      rfl
    have hpl : pls[pl]? = some (pls.getD pl (0, 0)) := by
      have : pl < pls.length := by rw [MB.p5]; exact hp5
      rw [List.getElem?_eq_getElem this, List.getD_eq_getElem?_getD, List.getElem?_eq_getElem this]
      rfl
    obtain ⟨vp, hvp, pla, rfl, hpla⟩ := MB.pl.get hpl
    refine ⟨_, rfl, _, _, rfl, DGet.k (k := .inr "raised") ll.run, rfl, _, rfl, if_true_of (by show (!decide (V.ref x = .non)) = true; rw [decide_eq_false fun z => by cases z]; rfl) ?_⟩
    refine ⟨_, rfl, _, _, _, _, _, rfl, MB.at_, cl_Module T, na_Module_places T, MB.places, _, rfl, _, _, rfl, DGet.k (k := .inr "raised") ll.run, x, _, _, _, rfl, rfl, SqL.of hxx, rfl, mp, _, _, _, rfl, rfl, SqT.of MB.plA, atI_nat hvp, ?_⟩
    refine ⟨_, rfl, _, _, _, _, _, rfl, MB.at_, cl_Module T, na_Module_names T, MB.names, _, rfl, _, _, rfl, DGet.k (k := .inr "raised") ll.run, x, _, _, _, rfl, rfl, SqL.of hxx, rfl, mn, _, _, _, rfl, rfl, SqT.of MB.naA, atI_nat hnm, _, rfl, pla, _, _, _, rfl, rfl, SqT.of hpla, rfl, _, rfl, pla, _, _, _, rfl, rfl, SqT.of hpla, rfl, by show 4 ≤ sizeLine; decide, fun t2 ht2 => ?_⟩
    have w2 := wr ll (cross st) rfl t2 ht2
    obtain ⟨l9, _⟩ := (ll.st (Stp.new (o := .tup (endL nms pls (.exc k pl))) ht2)).set { gv g with ra := .ref x, en := .ref t2 }
    refine ⟨_, rfl, p, _, rfl, DPut.k (k := .inr "ending") ((Stp.new (S := S0) ht2).at ll.run fun z => z.elim) (by show 10 < sizeLine; decide), ?_⟩
    exact ⟨_, rfl, _, _, rfl, DGet.k (k := .inr "ending") l9.run, rfl, _, rfl, if_false_of (decide_eq_false fun z => by cases z) ⟨_, rfl, w2⟩⟩
end
end WX
/-! ## WG1 -/
set_option Elab.async false
set_option linter.all false
set_option maxRecDepth 100000
set_option maxHeartbeats 2000000
/-! The generator: what is drawn. -/
namespace WX
open PySem PySem.Spec PyProof.Rows L2 He
open Wn (Op Ar Ins Rg Un Mod Word wordB OpOk)
local macro_rules | `(tactic| walk_at "new") => `(tactic| (intro p hp; generalize hG : upd _ p _ = H5; obtain ⟨s5, h5⟩ := gnew hG hp; clear hG))
/-- the draws' state -/
structure GS (H : Hp) (a gr : Addr) : Prop where
  st : ∃ xs : List Int, xs.length = 10 ∧ H a = some (.lst (.ref gr :: xs.map V.int))
  gr : ∃ gs : List Int, H gr = some (.lst (gs.map V.int))
def SG (a gr : Addr) : Addr → Prop := fun b => b = a ∨ b = gr
theorem GS.ne {H : Hp} {a gr : Addr} (g : GS H a gr) : gr ≠ a := by
  obtain ⟨xs, _, h1⟩ := g.st
  obtain ⟨gs, h2⟩ := g.gr
  intro z
  rw [z, h1] at h2
  cases gs <;> cases h2
theorem GS.st0 {H H' : Hp} {a gr : Addr} (g : GS H a gr) (t : Stp S0 H H') : GS H' a gr := by
  obtain ⟨xs, l, h1⟩ := g.st
  obtain ⟨gs, h2⟩ := g.gr
  exact ⟨⟨xs, l, t.at h1 fun z => z.elim⟩, ⟨gs, t.at h2 fun z => z.elim⟩⟩
/-- a place of the state is written -/
theorem GS.put {H : Hp} {a gr : Addr} (g : GS H a gr) {xs : List Int} (l : xs.length = 10) (h : H a = some (.lst (.ref gr :: xs.map V.int))) (j : Nat) (x : Int) :
    GS (upd H a (.lst ((V.ref gr :: xs.map V.int).set (j + 1) (.int x)))) a gr ∧ Stp (SG a gr) H (upd H a (.lst ((V.ref gr :: xs.map V.int).set (j + 1) (.int x)))) ∧ (upd H a (.lst ((V.ref gr :: xs.map V.int).set (j + 1) (.int x)))) a = some (.lst (.ref gr :: (xs.set j x).map V.int)) := by
  have e : (V.ref gr :: xs.map V.int).set (j + 1) (.int x) = .ref gr :: (xs.set j x).map V.int := by rw [List.set_cons_succ, map_set]
  obtain ⟨gs, h2⟩ := g.gr
  rw [e]
  exact ⟨⟨⟨_, by rw [List.length_set]; exact l, upd_same⟩, ⟨gs, by rw [upd_ne g.ne]; exact h2⟩⟩, Stp.put h (.inl rfl) nfrz_lst, upd_same⟩
def spTake : Sp := fun vs H Q _ => ∃ (a gr : Addr) (n : Nat), vs = [.ref a, .int n] ∧ GS H a gr ∧ 0 < n ∧ n ≤ 1000 ∧ ∀ H' (d : Nat), d < n → Stp (SG a gr) H H' → GS H' a gr → Q (.int d) H'
theorem get10 {xs : List Int} (l : xs.length = 10) {gr : Addr} (j : Nat) (hj : j < 10) : ∃ x, (V.ref gr :: xs.map V.int)[j + 1]? = some (.int x) := by
  refine ⟨xs[j]'(by omega), ?_⟩
  rw [List.getElem?_cons_succ, List.getElem?_map, List.getElem?_eq_getElem (by omega)]
  rfl
theorem fmod_lt {x : Int} {n : Nat} (h : 0 < n) : ∃ d : Nat, x.fmod n = (d : Int) ∧ d < n := by
  have h1 := Int.fmod_nonneg_of_pos x (b := (n : Int)) (by omega)
  have h2 := Int.fmod_lt_of_pos x (b := (n : Int)) (by omega)
  exact ⟨(x.fmod n).toNat, by omega, by omega⟩
section
variable {P : Program} {w : World} {K : PySem.W.Frag} {mg : Str → Option Value} {base : Heap}
theorem ok_take (T : Txt w K mg) : Def P w K mg base CX0 1 "_law_take" ["_law_state", "_law_many"] spTake := by
  refine D_law_take T (fun vs H Q E h => ?_) (fun cdv A outer s H vs Q E hr h => ?_)
  · obtain ⟨a, gr, n, rfl, _⟩ := h
    rfl
  obtain ⟨a, gr, n, rfl, g, h0, h1, q⟩ := h
  have nz : (n : Int) ≠ 0 := by omega
  have fin : ∀ (x : Int) (H1 : Hp), GS H1 a gr → Stp (SG a gr) H H1 → Q (.int (x.fmod n)) H1 := fun x H1 g1 t1 => by
    obtain ⟨d, e, hd⟩ := fmod_lt (x := x) h0
    rw [e]
    exact q H1 d hd t1 g1
  obtain ⟨tA, pA, kA⟩ : ∃ t, PS (cxOf CX0 P w K mg base ["_law_state", "_law_many", "_law_digit", "_law_mixed"] "_law_take" (defScope st_law_take) (ga K "_law_take") cdv A outer s H E) ((defBody st_law_take).getD 0 (.Pass ⟨0, 0, 0, 0⟩)) t ∧
      ∀ (D : Ends) (H1 : Hp), GS H1 a gr → (∀ H2, GS H2 a gr → Stp (SG a gr) H1 H2 → D.nx [some (.ref a), some (.int n), none, none] H2) → t D [some (.ref a), some (.int n), none, none] H1 := by
    refine ⟨_, (ps_if (PW.pt (pw_and (pt_cmpR op_eq (pe_ix ix_list (pv 0) pe_int (fun _ _ => rfl)) pe_int (nomark _)) (pw_and1 (pt_cmpR op_gt (pe_callB call_len_seq (by rfl) (b_len T) PySem.boot_len (pa_cons (pe_ix ix_list (pv 0) pe_int (fun _ _ => rfl)) pa_nil)) pe_int (nomark _))))) (pss_one (ps_asg (pe_bm PySem.F.plainAttrs_list PySem.F.slot_list_pop PySem.F.type_list_pop mt_popAt (pe_ix ix_list (pv 0) pe_int (fun _ _ => rfl)) (pa_cons pe_int pa_nil)) (pg_sub (pv 0) pe_int set_list))) pss_nil), fun D H1 g1 k => ?_⟩
    obtain ⟨xs, lx, hs⟩ := g1.st
    obtain ⟨gs, hg⟩ := g1.gr
    obtain ⟨x1, hx1⟩ := get10 lx (gr := gr) 0 (by decide)
    refine ⟨_, rfl, a, _, _, _, rfl, rfl, SqL.of hs, atI_nat (j := 1) hx1, rfl, _, rfl, ?_⟩
    by_cases c1 : x1 = 0
    · refine if_true_of (decide_eq_true (by rw [c1])) ⟨_, rfl, a, _, _, _, rfl, rfl, SqL.of hs, atI_hd, gr, _, rfl, .inl (SqL.of hg), _, _, rfl, rfl, _, rfl, ?_⟩
      cases gs with
      | nil => exact if_false_of rfl (k H1 g1 Stp.refl)
      | cons g0 gs' =>
        refine if_true_of (decide_eq_true (by show (0 : Int) < (((V.int g0 :: gs'.map V.int).length : Nat) : Int); rw [List.length_cons]; omega)) ?_
        have hg' : H1 gr = some (.lst (V.int g0 :: gs'.map V.int)) := hg
        refine ⟨_, rfl, a, _, _, _, rfl, rfl, SqL.of hs, atI_hd, .inl ⟨rfl, _, SqL.of hg'⟩, gr, _, 0, 0, .int g0, rfl, rfl, hg', by decide, by decide, by simp [seqIndex?], rfl, ?_⟩
        have t1 : Stp (SG a gr) H1 (upd H1 gr (.lst ((V.int g0 :: gs'.map V.int).eraseIdx 0))) := Stp.put hg' (.inr rfl) nfrz_lst
        have hs2 : (upd H1 gr (.lst ((V.int g0 :: gs'.map V.int).eraseIdx 0))) a = some (.lst (.ref gr :: xs.map V.int)) := by rw [upd_ne (Ne.symm g1.ne)]; exact hs
        have g2 : GS (upd H1 gr (.lst ((V.int g0 :: gs'.map V.int).eraseIdx 0))) a gr := ⟨⟨xs, lx, hs2⟩, ⟨gs', upd_same⟩⟩
        obtain ⟨g3, t3, _⟩ := g2.put lx hs2 0 g0
        exact ⟨_, rfl, a, _, 1, 1, rfl, rfl, hs2, ixN_nat (j := 1) (by rw [List.length_cons, List.length_map, lx]; decide), k _ g3 (t1.trans t3)⟩
    · exact if_false_of (decide_eq_false fun z => c1 (V.int.inj z)) (if_false_of rfl (k H1 g1 Stp.refl))
  refine ⟨_, (pss_cons pA (pss_cons (ps_if (pt_cmpR op_gt (pe_ix ix_list (pv 0) pe_int (fun _ _ => rfl)) pe_int (nomark _)) (pss_cons (ps_set (i := 2) sc_law_take.nd rfl (Or.inl rfl) (pe_op op_modN (pe_callTy call_int1 (by rfl) (b_int T) (by decide +kernel) (pa_cons (pe_ix ix_list (pv 0) pe_int (fun _ _ => rfl)) pa_nil)) (pv 1))) (pss_cons (ps_asg (pe_op op_fdivN (pe_ix ix_list (pv 0) pe_int (fun _ _ => rfl)) (pv 1)) (pg_sub (pv 0) pe_int set_list)) (pss_one (ps_ret (pv 2))))) pss_nil) (pss_cons (ps_asg (pe_op op_modN (pe_callTy call_int1 (by rfl) (b_int T) (by decide +kernel) (pa_cons (pe_op op_mul (pe_ix ix_list (pv 0) pe_int (fun _ _ => rfl)) pe_int) pa_nil)) pe_int) (pg_sub (pv 0) pe_int set_list)) (pss_cons (ps_asg (pe_op op_add (pe_ix ix_list (pv 0) pe_int (fun _ _ => rfl)) pe_int) (pg_sub (pv 0) pe_int set_list)) (pss_cons (ps_set (i := 3) sc_law_take.nd rfl (Or.inl rfl) (pe_op op_modN (pe_callTy call_int1 (by rfl) (b_int T) (by decide +kernel) (pa_cons (pe_op op_add (pe_op op_mul (pe_ix ix_list (pv 0) pe_int (fun _ _ => rfl)) pe_int) (pe_op op_mul (pe_ix ix_list (pv 0) pe_int (fun _ _ => rfl)) pe_int)) pa_nil)) pe_int)) (pss_one (ps_ret (pe_op op_modN (pe_callTy call_int1 (by rfl) (b_int T) (by decide +kernel) (pa_cons (pv 3) pa_nil)) (pv 1))))))))), ?_⟩
  refine kA _ H g fun H1 g1 t1 => ?_
  obtain ⟨xs, lx, hs⟩ := g1.st
  have lc : (V.ref gr :: xs.map V.int).length = 11 := by rw [List.length_cons, List.length_map, lx]
  obtain ⟨x1, hx1⟩ := get10 lx (gr := gr) 0 (by decide)
  refine ⟨_, rfl, a, _, _, _, rfl, rfl, SqL.of hs, atI_nat (j := 1) hx1, _, _, rfl, rfl, _, rfl, ite2 (fun c => ?_) (fun c => ?_)⟩
  · refine ⟨_, rfl, a, _, _, _, rfl, rfl, SqL.of hs, atI_nat (j := 1) hx1, .inl ⟨_, rfl, _, rfl, _, _, rfl, rfl, nz, ?_⟩⟩
    refine ⟨_, rfl, a, _, _, _, rfl, rfl, SqL.of hs, atI_nat (j := 1) hx1, _, rfl, _, _, rfl, rfl, ⟨nz, by omega⟩, _, rfl, a, _, 1, 1, rfl, rfl, hs, ixN_nat (j := 1) (by rw [lc]; decide), _, rfl, ?_⟩
    obtain ⟨g2, t2, _⟩ := g1.put lx hs 0 (x1.fdiv n)
    exact fin x1 _ g2 (t1.trans t2)
  · obtain ⟨x2, hx2⟩ := get10 lx (gr := gr) 1 (by decide)
    refine ⟨_, rfl, a, _, _, _, rfl, rfl, SqL.of hs, atI_nat (j := 2) hx2, _, _, rfl, rfl, .inr (by decide), .inl ⟨_, rfl, _, _, rfl, rfl, (by show (2147483647 : Int) ≠ 0; decide), _, rfl, a, _, 2, 2, rfl, rfl, hs, ixN_nat (j := 2) (by rw [lc]; decide), ?_⟩⟩
    obtain ⟨g2, t2, hs2⟩ := g1.put lx hs 1 ((x2 * 48271).fmod 2147483647)
    have lx2 : (xs.set 1 ((x2 * 48271).fmod 2147483647)).length = 10 := by rw [List.length_set]; exact lx
    show tSeq _ _ _ _ (upd H1 a (.lst ((V.ref gr :: xs.map V.int).set 2 (.int ((x2 * 48271).fmod 2147483647)))))
    generalize (upd H1 a (.lst ((V.ref gr :: xs.map V.int).set 2 (.int ((x2 * 48271).fmod 2147483647))))) = H2 at g2 t2 hs2 ⊢
    generalize xs.set 1 ((x2 * 48271).fmod 2147483647) = ys at hs2 lx2
    have lc2 : (V.ref gr :: ys.map V.int).length = 11 := by rw [List.length_cons, List.length_map, lx2]
    obtain ⟨x3, hx3⟩ := get10 lx2 (gr := gr) 2 (by decide)
    refine ⟨_, rfl, a, _, _, _, rfl, rfl, SqL.of hs2, atI_nat (j := 3) hx3, _, _, rfl, rfl, _, rfl, a, _, 3, 3, rfl, rfl, hs2, ixN_nat (j := 3) (by rw [lc2]; decide), ?_⟩
    obtain ⟨g3, t3, hs3⟩ := g2.put lx2 hs2 2 (x3 + 1)
    have lx3 : (ys.set 2 (x3 + 1)).length = 10 := by rw [List.length_set]; exact lx2
    show tSeq _ _ _ _ (upd H2 a (.lst ((V.ref gr :: ys.map V.int).set 3 (.int (x3 + 1)))))
    generalize (upd H2 a (.lst ((V.ref gr :: ys.map V.int).set 3 (.int (x3 + 1))))) = H3 at g3 t3 hs3 ⊢
    generalize ys.set 2 (x3 + 1) = zs at hs3 lx3
    obtain ⟨y2, hy2⟩ := get10 lx3 (gr := gr) 1 (by decide)
    obtain ⟨y3, hy3⟩ := get10 lx3 (gr := gr) 2 (by decide)
    refine ⟨_, rfl, a, _, _, _, rfl, rfl, SqL.of hs3, atI_nat (j := 2) hy2, _, _, rfl, rfl, .inr (by decide), _, rfl, a, _, _, _, rfl, rfl, SqL.of hs3, atI_nat (j := 3) hy3, _, _, rfl, rfl, .inr (by decide), _, _, rfl, rfl, .inl ⟨_, rfl, _, _, rfl, rfl, (by show (2147483629 : Int) ≠ 0; decide), ?_⟩⟩
    exact ⟨_, rfl, .inl ⟨_, rfl, _, rfl, _, _, rfl, rfl, nz, fin _ H3 g3 (t1.trans (t2.trans t3))⟩⟩
end
end WX
/-! ## WG2 -/
set_option Elab.async false
set_option linter.all false
set_option maxRecDepth 100000
set_option maxHeartbeats 2000000
/-! The generator: places, operands, targets. -/
namespace WX
open PySem PySem.Spec PyProof.Rows L2 He
open Wn (Op Ar Ins Rg Un Mod Word wordB OpOk)
local macro_rules | `(tactic| walk_at "new") => `(tactic| (intro p hp; generalize hG : upd _ p _ = H5; obtain ⟨s5, h5⟩ := gnew hG hp; clear hG))
structure Shp where
  parent : Int
  na : Nat
  nr : Nat
  regs : Nat
  cells : Nat
  level : Nat
def shL (s : Shp) : List V := [.int s.parent, .int s.na, .int s.nr, .int s.regs, .int s.cells, .int s.level]
theorem shL_inj {s t : Shp} (h : shL s = shL t) : s = t := by
  simp only [shL, List.cons.injEq, V.int.injEq, and_true] at h
  obtain ⟨h1, h2, h3, h4, h5, h6⟩ := h
  cases s; cases t
  simp only [Shp.mk.injEq] at *
  omega
/-- a thing stays that is none of the state's two lists -/
def Off (a gr b : Addr) : Prop := b ≠ a ∧ b ≠ gr
theorem Off.at {H H' : Hp} {a gr b : Addr} {o : HO} (f : Off a gr b) (t : Stp (SG a gr) H H') (e : H b = some o) (w : ours o := by exact True.intro) : H' b = some o := t.at e (fun z => by
  rcases z with z | z
  · exact absurd z f.1
  · exact absurd z f.2) w
theorem Off.of1 {H : Hp} {a gr b : Addr} (g : GS H a gr) (n : H b = none) : Off a gr b := by
  obtain ⟨xs, _, h1⟩ := g.st
  obtain ⟨gs, h2⟩ := g.gr
  refine ⟨fun z => ?_, fun z => ?_⟩
  · rw [z, h1] at n
    cases n
  · rw [z, h2] at n
    cases n
def spPlace : Sp := fun vs H Q _ => ∃ (a gr : Addr), vs = [.ref a] ∧ GS H a gr ∧ ∀ H' v p, Stp (SG a gr) H H' → GS H' a gr → plV H' v p → Q v H'
def spOperand : Sp := fun vs H Q _ => ∃ (a gr sh : Addr) (s : Shp), vs = [.ref a, .ref sh] ∧ GS H a gr ∧ H sh = some (.lst (shL s)) ∧ Off a gr sh ∧ 0 < s.regs ∧ s.regs ≤ 100 ∧ ∀ H' v x, Stp (SG a gr) H H' → GS H' a gr → opV H' v x → OpOk s.regs x → Q v H'
def spTarget : Sp := fun vs H Q _ => ∃ (a gr tk : Addr) (i : Nat) (tb : List Bool), vs = [.ref a, .int i, .ref tk] ∧ GS H a gr ∧ H tk = some (.lst (tb.map V.bl)) ∧ Off a gr tk ∧ i + 1 < tb.length ∧ tb.length ≤ 1000 ∧ ∀ H' (t : Nat), t < tb.length → (i < t ∨ tb[t]? = some true) → Stp (SG a gr) H H' → GS H' a gr → Q (.int t) H'
section
variable {P : Program} {w : World} {K : PySem.W.Frag} {mg : Str → Option Value} {base : Heap}
theorem ok_place (T : Txt w K mg) : Def P w K mg base CX0 1 "_law_place" ["_law_state"] spPlace := by
  refine D_law_place T (fun vs H Q E h => ?_) (fun cdv A outer s H vs Q E hr h => ?_)
  · obtain ⟨a, gr, rfl, _⟩ := h
    rfl
  obtain ⟨a, gr, rfl, g, q⟩ := h
  refine ⟨_, (pss_cons (ps_asg (pe_op op_add (pe_ix ix_list (pv 0) pe_int (fun _ _ => rfl)) pe_int) (pg_sub (pv 0) pe_int set_list)) (pss_one (ps_ret (pe_tup (pa_cons (pe_op op_add (pe_ix ix_list (pv 0) pe_int (fun _ _ => rfl)) (pe_op op_fdivN (pe_ix ix_list (pv 0) pe_int (fun _ _ => rfl)) pe_int)) (pa_cons (pe_op op_add pe_int (pe_op op_modN (pe_callTy call_int1 (by rfl) (b_int T) (by decide +kernel) (pa_cons (pe_op op_add (pe_ix ix_list (pv 0) pe_int (fun _ _ => rfl)) (pe_op op_mul (pe_ix ix_list (pv 0) pe_int (fun _ _ => rfl)) pe_int)) pa_nil)) pe_int)) pa_nil)))))), ?_⟩
  obtain ⟨xs, lx, hs⟩ := g.st
  have lc : (V.ref gr :: xs.map V.int).length = 11 := by rw [List.length_cons, List.length_map, lx]
  obtain ⟨x4, hx4⟩ := get10 lx (gr := gr) 3 (by decide)
  refine ⟨_, rfl, a, _, _, _, rfl, rfl, SqL.of hs, atI_nat (j := 4) hx4, _, _, rfl, rfl, _, rfl, a, _, 4, 4, rfl, rfl, hs, ixN_nat (j := 4) (by rw [lc]; decide), ?_⟩
  generalize hG : upd H a _ = H3
  obtain ⟨g3, t3, hs3⟩ : GS H3 a gr ∧ Stp (SG a gr) H H3 ∧ H3 a = some (.lst (.ref gr :: (xs.set 3 (x4 + 1)).map V.int)) := by
    rw [← hG]
    exact g.put lx hs 3 (x4 + 1)
  clear hG
  have lx3 : (xs.set 3 (x4 + 1)).length = 10 := by rw [List.length_set]; exact lx
  generalize xs.set 3 (x4 + 1) = zs at hs3 lx3
  obtain ⟨y4, hy4⟩ := get10 lx3 (gr := gr) 3 (by decide)
  obtain ⟨y5, hy5⟩ := get10 lx3 (gr := gr) 4 (by decide)
  obtain ⟨y6, hy6⟩ := get10 lx3 (gr := gr) 5 (by decide)
  refine ⟨_, rfl, a, _, _, _, rfl, rfl, SqL.of hs3, atI_nat (j := 5) hy5, _, rfl, a, _, _, _, rfl, rfl, SqL.of hs3, atI_nat (j := 4) hy4, _, _, rfl, rfl, (by refine ⟨?_, ?_⟩ <;> decide), _, _, rfl, rfl, ?_⟩
  refine ⟨_, rfl, a, _, _, _, rfl, rfl, SqL.of hs3, atI_nat (j := 6) hy6, _, rfl, a, _, _, _, rfl, rfl, SqL.of hs3, atI_nat (j := 4) hy4, _, _, rfl, rfl, .inr (by decide), _, _, rfl, rfl, .inl ⟨_, rfl, _, _, rfl, rfl, (by show (80 : Int) ≠ 0; decide), _, _, rfl, rfl, by show 2 ≤ sizeLine; decide, fun t ht => ?_⟩⟩
  have tn : Stp S0 H3 (upd H3 t (.tup [.int (y5 + y4.fdiv 2), .int (1 + (y6 + y4 * 7).fmod 80)])) := Stp.new ht
  exact q _ _ (_, _) (t3.trans tn.z) (g3.st0 tn) ⟨t, rfl, upd_same⟩
theorem ok_operand (T : Txt w K mg) : Def P w K mg base CX0 2 "_law_operand" ["_law_state", "_law_shape"] spOperand := by
  have G_law_take := ok_take (P := P) (base := base) T
  refine D_law_operand T (fun vs H Q E h => ?_) (fun cdv A outer s H vs Q E hr h => ?_)
  · obtain ⟨a, gr, sh, s, rfl, _⟩ := h
    rfl
  obtain ⟨a, gr, sh, s', rfl, g, hsh, off, hr0, hr1, q⟩ := h
  refine ⟨_, (pss_cons (ps_if (pt_cmpR op_eq (pe_callD G_law_take hr (by omega) rfl pass0 (pa_cons (pv 0) (pa_cons pe_int pa_nil))) pe_int (nomark _)) (pss_one (ps_ret (pe_tup (pa_cons pe_str (pa_cons (pe_ix ix_list (pe_lst (pa_cons pe_int (pa_cons pe_int (pa_cons pe_int (pa_cons (pe_un un_neg pe_int) (pa_cons pe_int (pa_cons pe_int (pa_cons pe_int (pa_cons (pe_un un_neg pe_int) pa_nil))))))))) (pe_callD G_law_take hr (by omega) rfl pass0 (pa_cons (pv 0) (pa_cons pe_int pa_nil))) (fun _ _ => rfl)) pa_nil))))) pss_nil) (pss_one (ps_ret (pe_tup (pa_cons pe_str (pa_cons (pe_callD G_law_take hr (by omega) rfl pass0 (pa_cons (pv 0) (pa_cons (pe_ix ix_list (pv 1) pe_int (fun _ _ => rfl)) pa_nil))) pa_nil)))))), ?_⟩
  refine ⟨_, rfl, a, gr, 4, rfl, g, by decide, by decide, fun H1 d hd t1 g1 => ⟨rfl, _, rfl, ite2 (fun c => ?_) (fun c => ?_)⟩⟩
  · refine ⟨_, rfl, _, rfl, by show 8 ≤ sizeLine; decide, fun l hl => ?_⟩
    have tn : Stp S0 H1 (upd H1 l _) := Stp.new (o := .lst ([0, 1, 2, -1, 3, 5, 2147483647, -2147483648].map V.int)) hl
    have gl := g1.st0 tn
    refine ⟨_, rfl, a, gr, 8, rfl, gl, by decide, by decide, fun H2 d2 hd2 t2 g2 => ?_⟩
    have hll : H2 l = some (.lst ([0, 1, 2, -1, 3, 5, 2147483647, -2147483648].map V.int)) := (Off.of1 g1 hl).at t2 upd_same
    obtain ⟨w, hw, ww⟩ : ∃ w : Int, ([0, 1, 2, -1, 3, 5, 2147483647, -2147483648].map V.int)[d2]? = some (.int w) ∧ Word w := by
      have : d2 = 0 ∨ d2 = 1 ∨ d2 = 2 ∨ d2 = 3 ∨ d2 = 4 ∨ d2 = 5 ∨ d2 = 6 ∨ d2 = 7 := by omega
      rcases this with rfl | rfl | rfl | rfl | rfl | rfl | rfl | rfl <;> exact ⟨_, rfl, by decide, by decide⟩
    refine ⟨l, _, _, .int w, rfl, rfl, SqL.of hll, atI_nat hw, by show 2 ≤ sizeLine; decide, fun t ht => ?_⟩
    have tn2 : Stp S0 H2 (upd H2 t (.tup [.str "int", .int w])) := Stp.new ht
    exact q _ _ (.int w) (t1.trans (tn.z.trans (t2.trans tn2.z))) (g2.st0 tn2) ⟨t, rfl, upd_same⟩ ww
  · have hsh1 := off.at t1 hsh
    refine ⟨_, rfl, _, rfl, sh, _, _, _, rfl, rfl, SqL.of hsh1, rfl, a, gr, s'.regs, rfl, g1, hr0, by omega, fun H2 d2 hd2 t2 g2 => ⟨by show 2 ≤ sizeLine; decide, fun t ht => ?_⟩⟩
    have tn : Stp S0 H2 (upd H2 t (.tup [.str "reg", .int d2])) := Stp.new ht
    exact q _ _ (.reg d2) (t1.trans (t2.trans tn.z)) (g2.st0 tn) ⟨t, rfl, upd_same⟩ hd2
theorem ok_target (T : Txt w K mg) : Def P w K mg base CX0 2 "_law_target" ["_law_state", "_law_index", "_law_ticks"] spTarget := by
  have G_law_take := ok_take (P := P) (base := base) T
  refine D_law_target T (fun vs H Q E h => ?_) (fun cdv A outer s H vs Q E hr h => ?_)
  · obtain ⟨a, gr, tk, i, tb, rfl, _⟩ := h
    rfl
  obtain ⟨a, gr, tk, i, tb, rfl, g, htk, off, hi, hlen, q⟩ := h
  refine ⟨_, (pss_cons (ps_set (i := 3) sc_law_target.nd rfl (Or.inl rfl) (pe_callD G_law_take hr (by omega) rfl pass0 (pa_cons (pv 0) (pa_cons (pe_callB call_len_seq (by rfl) (b_len T) PySem.boot_len (pa_cons (pv 2) pa_nil)) pa_nil)))) (pss_cons (ps_if (PW.pt (pw_and (pt_cmpR op_le (pv 3) (pv 1) (nomark _)) (pw_and1 (pt_not (pt_val (pe_ix ix_list (pv 2) (pv 3) (fun _ _ => rfl))))))) (pss_one (ps_ret (pe_op op_add (pv 1) pe_int))) pss_nil) (pss_one (ps_ret (pv 3))))), ?_⟩
  have lt : (tb.map V.bl).length = tb.length := List.length_map _
  refine ⟨_, rfl, _, rfl, tk, _, rfl, .inl (SqL.of htk), a, gr, (tb.map V.bl).length, rfl, g, by omega, by omega, fun H1 d hd t1 g1 => ?_⟩
  rw [lt] at hd
  have htk1 := off.at t1 htk
  refine ⟨_, rfl, _, rfl, _, _, rfl, rfl, _, rfl, ?_⟩
  by_cases c : d ≤ i
  · have hb : (tb.map V.bl)[d]? = some (.bl tb[d]) := by rw [List.getElem?_map, List.getElem?_eq_getElem hd]; rfl
    refine if_true_of (decide_eq_true (by omega)) ⟨_, rfl, _, rfl, tk, _, _, _, rfl, rfl, SqL.of htk1, atI_nat hb, _, rfl, ?_⟩
    cases e : tb[d] with
    | true => exact if_false_of rfl ⟨_, rfl, q H1 d hd (.inr (by rw [List.getElem?_eq_getElem hd, e])) t1 g1⟩
    | false => exact if_true_of rfl ⟨_, rfl, _, _, rfl, rfl, q H1 (i + 1) hi (.inl (Nat.lt_succ_self _)) t1 g1⟩
  · exact if_false_of (decide_eq_false (by omega)) (if_false_of rfl ⟨_, rfl, q H1 d hd (.inl (by omega)) t1 g1⟩)
end
end WX
/-! ## WG3 -/
set_option Elab.async false
set_option linter.all false
set_option maxRecDepth 100000
set_option maxHeartbeats 2000000
/-! The generator: the units around; load and store. -/
namespace WX
open PySem PySem.Spec PyProof.Rows L2 He
open Wn (Op Ar Ins Rg Un Mod Word wordB OpOk InsOk CellsOk anc)
local macro_rules | `(tactic| walk_at "new") => `(tactic| (intro p hp; generalize hG : upd _ p _ = H5; obtain ⟨s5, h5⟩ := gnew hG hp; clear hG))
def unS (s : Shp) (code : List Ins) (rgs : List Rg) : Un := ⟨s.parent, s.na, s.nr, s.regs, s.cells, code, rgs⟩
def modS (ss : List Shp) : Mod := ss.map fun s => unS s [] []
structure SsOk (ss : List Shp) : Prop where
  root : ∀ s, ss[0]? = some s → s.parent = -1 ∧ s.level = 0
  up : ∀ (u : Nat) s, ss[u]? = some s → 0 < u → ∃ (p : Nat) (sp : Shp), s.parent = (p : Int) ∧ p < u ∧ ss[p]? = some sp ∧ s.level = sp.level + 1
  b : ∀ s ∈ ss, 3 ≤ s.regs ∧ s.regs ≤ 40 ∧ s.na ≤ s.regs ∧ s.nr ≤ 20 ∧ s.cells ≤ 20
  len : ss.length ≤ 4
theorem SsOk.lv {ss : List Shp} (S : SsOk ss) : ∀ (n u : Nat) (s : Shp), u ≤ n → ss[u]? = some s → s.level ≤ u
  | 0, u, s, h, e => by
    obtain rfl : u = 0 := by omega
    rw [(S.root s e).2]
    exact Nat.zero_le _
  | n + 1, u, s, h, e => by
    rcases Nat.eq_zero_or_pos u with z | z
    · subst z
      rw [(S.root s e).2]
      exact Nat.zero_le _
    · obtain ⟨p, sp, _, h2, h3, h4⟩ := S.up u s e z
      have := S.lv n p sp (by omega) h3
      omega
theorem modS_get {ss : List Shp} {u : Nat} {s : Shp} (e : ss[u]? = some s) : (modS ss)[u]? = some (unS s [] []) := by rw [modS, List.getElem?_map, e]; rfl
theorem modS_inv {ss : List Shp} {u : Nat} {U : Un} (e : (modS ss)[u]? = some U) : ∃ s, ss[u]? = some s ∧ U = unS s [] [] := by
  rw [modS, List.getElem?_map, Option.map_eq_some_iff] at e
  obtain ⟨s, h, rfl⟩ := e
  exact ⟨s, h, rfl⟩
theorem SsOk.anc {ss : List Shp} (S : SsOk ss) : ∀ (h u : Nat) (s : Shp), ss[u]? = some s → h ≤ s.level → ∃ u' s', Wn.anc (modS ss) u h = some u' ∧ ss[u']? = some s'
  | 0, u, s, e, _ => ⟨u, s, rfl, e⟩
  | h + 1, u, s, e, hl => by
    rcases Nat.eq_zero_or_pos u with z | z
    · subst z
      have := (S.root s e).2
      omega
    · obtain ⟨p, sp, h1, h2, h3, h4⟩ := S.up u s e z
      obtain ⟨u', s', a1, a2⟩ := S.anc h p sp h3 (by omega)
      refine ⟨u', s', ?_, a2⟩
      simp only [Wn.anc, modS_get e, unS, h1]
      rw [if_neg (by omega)]
      exact a1
structure ShsAt (H : Hp) (a gr shs : Addr) (bs : List Addr) (ss : List Shp) : Prop where
  l : H shs = some (.lst (bs.map V.ref))
  e : All2 (fun b s => H b = some (.lst (shL s)) ∧ Off a gr b) bs ss
  off : Off a gr shs
theorem ShsAt.st {H H' : Hp} {a gr shs : Addr} {bs : List Addr} {ss : List Shp} (h : ShsAt H a gr shs bs ss) (t : Stp (SG a gr) H H') : ShsAt H' a gr shs bs ss :=
  ⟨h.off.at t h.l, h.e.mono fun _ _ z => ⟨z.2.at t z.1, z.2⟩, h.off⟩
theorem ShsAt.get {H : Hp} {a gr shs : Addr} {bs : List Addr} {ss : List Shp} (h : ShsAt H a gr shs bs ss) {u : Nat} {s : Shp} (e : ss[u]? = some s) : ∃ b, (bs.map V.ref)[u]? = some (.ref b) ∧ H b = some (.lst (shL s)) ∧ Off a gr b := by
  obtain ⟨b, h1, h2⟩ := h.e.get e
  exact ⟨b, by rw [List.getElem?_map, h1]; rfl, h2.1, h2.2⟩
def spAround : Sp := fun vs H Q _ => ∃ (a gr shs : Addr) (bs : List Addr) (ss : List Shp) (u h u' : Nat), vs = [.ref shs, .int u, .int h] ∧ ShsAt H a gr shs bs ss ∧ Wn.anc (modS ss) u h = some u' ∧ h ≤ 100 ∧ Q (.int u') H
def spMemory : Sp := fun vs H Q _ => ∃ (a gr shs : Addr) (bs : List Addr) (ss : List Shp) (u i : Nat) (s : Shp) (U : Un), vs = [.ref a, .ref shs, .int u] ∧ GS H a gr ∧ ShsAt H a gr shs bs ss ∧ SsOk ss ∧ ss[u]? = some s ∧ U.regs = s.regs ∧
  ∀ H' v x, Stp (SG a gr) H H' → GS H' a gr → insV H' v x → InsOk (modS ss) u U i x → Q v H'
section
variable {P : Program} {w : World} {K : PySem.W.Frag} {mg : Str → Option Value} {base : Heap}
theorem ok_around (T : Txt w K mg) : Def P w K mg base CX0 1 "_law_around" ["_law_shapes_here", "_law_number", "_law_hops"] spAround := by
  refine D_law_around T (fun vs H Q E h => ?_) (fun cdv A outer s H vs Q E hr h => ?_)
  · obtain ⟨a, gr, shs, bs, ss, u, h, u', rfl, _⟩ := h
    rfl
  obtain ⟨a, gr, shs, bs, ss, u, h, u', rfl, S, ha, hb, q⟩ := h
  refine ⟨_, (pss_cons (ps_for (L2.passes_of rfl) rfl (pi_range1 rfl (b_range T) (pa_cons (pv 2) pa_nil)) (pg_name (i := 3) sc_law_around.nd rfl (Or.inl rfl)) (pss_one (ps_set (i := 1) sc_law_around.nd rfl (Or.inl rfl) (pe_ix ix_list (pe_ix ix_list (pv 0) (pv 1) (fun _ _ => rfl)) pe_int (fun _ _ => rfl))))) (pss_one (ps_ret (pv 1)))), ?_⟩
  refine ⟨_, rfl, (h : Int), rfl, by omega, by omega, for_range (lo := 0) (n := h) (fun i σ H' => ∃ (v : Nat) (o : Option V), σ = [some (.ref shs), some (.int v), some (.int h), o] ∧ H' = H ∧ Wn.anc (modS ss) v (h - i) = some u') ⟨u, none, rfl, rfl, by simpa using ha⟩ ?_ ?_⟩
  · rintro i σ H' hi ⟨v, o, rfl, rfl, hv⟩
    obtain ⟨n, hn⟩ : ∃ n, h - i = n + 1 := ⟨h - i - 1, by omega⟩
    rw [hn, Wn.anc] at hv
    split at hv
    · cases hv
    · rename_i U hU
      obtain ⟨s', hs', rfl⟩ := modS_inv hU
      split at hv
      · cases hv
      · rename_i hp
        obtain ⟨b, hb1, hb2, _⟩ := S.get hs'
        have hp' : ¬ s'.parent < 0 := hp
        have ep : s'.parent = ((s'.parent.toNat : Nat) : Int) := by omega
        refine ⟨_, rfl, _, rfl, shs, _, _, _, rfl, rfl, SqL.of S.l, atI_nat hb1, b, _, _, _, rfl, rfl, SqL.of hb2, rfl, s'.parent.toNat, some (.int (0 + i)), ?_, rfl, ?_⟩
        · rw [ep]
          rfl
        · rw [show h - (i + 1) = n by omega]
          exact hv
  · rintro σ H' ⟨v, o, rfl, rfl, hv⟩
    rw [Nat.sub_self, Wn.anc] at hv
    cases hv
    exact ⟨_, rfl, q⟩
theorem ok_memory (T : Txt w K mg) : Def P w K mg base CX0 3 "_law_memory" ["_law_state", "_law_shapes_here", "_law_number"] spMemory := by
  have G_law_take := ok_take (P := P) (base := base) T
  have G_law_operand := ok_operand (P := P) (base := base) T
  have G_law_around := ok_around (P := P) (base := base) T
  refine D_law_memory T (fun vs H Q E h => ?_) (fun cdv A outer s H vs Q E hr h => ?_)
  · obtain ⟨a, gr, shs, bs, ss, u, i, s, U, rfl, _⟩ := h
    rfl
  obtain ⟨a, gr, shs, bs, ss, u, i, s', U, rfl, g, S, SO, hu, hU, q⟩ := h
  refine ⟨_, (pss_cons (ps_set (i := 3) sc_law_memory.nd rfl (Or.inl rfl) (pe_ix ix_list (pv 1) (pv 2) (fun _ _ => rfl))) (pss_cons (ps_set (i := 4) sc_law_memory.nd rfl (Or.inl rfl) (pe_callD G_law_take hr (by omega) rfl pass0 (pa_cons (pv 0) (pa_cons (pe_op op_add (pe_ix ix_list (pv 3) pe_int (fun _ _ => rfl)) pe_int) pa_nil)))) (pss_cons (ps_set (i := 5) sc_law_memory.nd rfl (Or.inl rfl) (pe_ix ix_list (pe_ix ix_list (pv 1) (pe_callD G_law_around hr (by omega) rfl pass0 (pa_cons (pv 1) (pa_cons (pv 2) (pa_cons (pv 4) pa_nil)))) (fun _ _ => rfl)) pe_int (fun _ _ => rfl))) (pss_cons (ps_if (pt_cmpR op_eq (pv 5) pe_int (nomark _)) (pss_one (ps_ret (pe_tup (pa_cons pe_str (pa_cons (pe_callD G_law_operand hr (by omega) rfl pass0 (pa_cons (pv 0) (pa_cons (pv 3) pa_nil))) pa_nil))))) pss_nil) (pss_cons (ps_set (i := 6) sc_law_memory.nd rfl (Or.inl rfl) (pe_callD G_law_take hr (by omega) rfl pass0 (pa_cons (pv 0) (pa_cons (pv 5) pa_nil)))) (pss_cons (ps_set (i := 7) sc_law_memory.nd rfl (Or.inl rfl) (pe_op op_add pe_int (pe_callD G_law_take hr (by omega) rfl pass0 (pa_cons (pv 0) (pa_cons (pe_op op_sub (pv 5) (pv 6)) pa_nil))))) (pss_cons (ps_set (i := 8) sc_law_memory.nd rfl (Or.inl rfl) (pe_tup (pa_cons pe_str (pa_cons (pe_callD G_law_take hr (by omega) rfl pass0 (pa_cons (pv 0) (pa_cons (pv 7) pa_nil))) pa_nil)))) (pss_cons (ps_if (pt_cmpR op_eq (pe_callD G_law_take hr (by omega) rfl pass0 (pa_cons (pv 0) (pa_cons pe_int pa_nil))) pe_int (nomark _)) (pss_one (ps_set (i := 8) sc_law_memory.nd rfl (Or.inl rfl) (pe_callD G_law_operand hr (by omega) rfl pass0 (pa_cons (pv 0) (pa_cons (pv 3) pa_nil))))) pss_nil) (pss_cons (ps_if (pt_cmpR op_eq (pe_callD G_law_take hr (by omega) rfl pass0 (pa_cons (pv 0) (pa_cons pe_int pa_nil))) pe_int (nomark _)) (pss_one (ps_ret (pe_tup (pa_cons pe_str (pa_cons (pe_callD G_law_take hr (by omega) rfl pass0 (pa_cons (pv 0) (pa_cons (pe_ix ix_list (pv 3) pe_int (fun _ _ => rfl)) pa_nil))) (pa_cons (pv 4) (pa_cons (pv 6) (pa_cons (pv 7) (pa_cons (pv 8) pa_nil))))))))) pss_nil) (pss_one (ps_ret (pe_tup (pa_cons pe_str (pa_cons (pv 4) (pa_cons (pv 6) (pa_cons (pv 7) (pa_cons (pv 8) (pa_cons (pe_callD G_law_operand hr (by omega) rfl pass0 (pa_cons (pv 0) (pa_cons (pv 3) pa_nil))) pa_nil)))))))))))))))))), ?_⟩
  obtain ⟨b, hb1, hb2, hb3⟩ := S.get hu
  have hlv := SO.lv u u s' (Nat.le_refl _) hu
  have hul := (List.getElem?_eq_some_iff.mp hu).1
  have hlen := SO.len
  have B := SO.b s' (List.mem_of_getElem? hu)
  refine ⟨_, rfl, _, rfl, shs, _, _, _, rfl, rfl, SqL.of S.l, atI_nat hb1, _, rfl, _, rfl, b, _, _, _, rfl, rfl, SqL.of hb2, rfl, _, _, rfl, rfl, a, gr, s'.level + 1, rfl, g, by omega, by omega, fun H1 hops hd1 t1 g1 => ?_⟩
  have S1 := S.st t1
  have b1 := hb3.at t1 hb2
  obtain ⟨u', s2, han, hu'⟩ := SO.anc hops u s' hu (by omega)
  obtain ⟨b', hb1', hb2', hb3'⟩ := S1.get hu'
  have B' := SO.b s2 (List.mem_of_getElem? hu')
  refine ⟨_, rfl, _, rfl, _, rfl, _, rfl, a, gr, shs, bs, ss, u, hops, u', rfl, S1, han, by omega, ?_⟩
  refine ⟨shs, _, _, _, rfl, rfl, SqL.of S1.l, atI_nat hb1', b', _, _, _, rfl, rfl, SqL.of hb2', rfl, ?_⟩
  refine ⟨_, rfl, rfl, _, rfl, ite2 (fun c => ?_) (fun c => ?_)⟩
  · refine ⟨_, rfl, _, rfl, a, gr, b, s', rfl, g1, b1, hb3, by omega, by omega, fun H2 v x t2 g2 hv hx => ⟨by show 2 ≤ sizeLine; decide, fun t ht => ?_⟩⟩
    have tn : Stp S0 H2 (upd H2 t (.tup [.str "put", v])) := Stp.new ht
    exact q _ _ (.put x) (t1.trans (t2.trans tn.z)) (g2.st0 tn) ⟨t, _, rfl, upd_same, v, rfl, hv.st tn⟩ (by show OpOk U.regs x; rw [hU]; exact hx)
  · have hc : 0 < s2.cells := by
      rcases Nat.eq_zero_or_pos s2.cells with z | z
      · rw [z] at c
        exact absurd c (by decide)
      · exact z
    refine ⟨_, rfl, _, rfl, a, gr, s2.cells, rfl, g1, hc, by omega, fun H2 cell hcell t2 g2 => ?_⟩
    refine ⟨_, rfl, _, rfl, _, rfl, _, _, rfl, rfl, a, gr, s2.cells - cell, ?_, g2, by omega, by omega, fun H3 d3 hd3 t3 g3 => ?_⟩
    · rw [Int.ofNat_sub (by omega)]
      rfl
    refine ⟨_, _, rfl, rfl, _, rfl, _, rfl, a, gr, 1 + d3, ?_, g3, by omega, by omega, fun H4 d4 hd4 t4 g4 => ?_⟩
    · rw [Int.natCast_add]; rfl
    refine ⟨by show 2 ≤ sizeLine; decide, fun el hel => ?_⟩
    have tn : Stp S0 H4 (upd H4 el (.tup [.str "int", .int d4])) := Stp.new hel
    have g5 := g4.st0 tn
    have o5 : opV (upd H4 el (.tup [.str "int", .int d4])) (.ref el) (.int d4) := ⟨el, rfl, upd_same⟩
    have t5 : Stp (SG a gr) H (upd H4 el (.tup [.str "int", .int d4])) := t1.trans (t2.trans (t3.trans (t4.trans tn.z)))
    have ok5 : OpOk s'.regs (.int d4) := ⟨by omega, by omega⟩
    generalize (upd H4 el (.tup [.str "int", .int d4])) = H5 at g5 o5 t5 ⊢
    generalize V.ref el = ve at o5 ⊢
    generalize Op.int d4 = xe at o5 ok5
    refine ⟨_, rfl, a, gr, 3, rfl, g5, by decide, by decide, fun H6 d6 hd6 t6 g6 => ⟨rfl, _, rfl, ?_⟩⟩
    have b6 := hb3.at t6 (hb3.at t5 hb2)
    refine ite2 (fun _ => ⟨_, rfl, _, rfl, a, gr, b, s', rfl, g6, b6, hb3, by omega, by omega, fun H7 vf xf t7 g7 of okf => ?_⟩) (fun _ => ?_)
    · have tf := t5.trans (t6.trans t7)
      have b7 := hb3.at tf hb2
      refine ⟨_, rfl, a, gr, 2, rfl, g7, by decide, by decide, fun H8 d8 hd8 t8 g8 => ⟨rfl, _, rfl, ite2 (fun _ => ?_) (fun _ => ?_)⟩⟩
      · have b8 := hb3.at t8 b7
        refine ⟨_, rfl, _, rfl, b, _, _, _, rfl, rfl, SqL.of b8, rfl, a, gr, s'.regs, rfl, g8, by omega, by omega, fun H9 dd hdd t9 g9 => ⟨_, rfl, _, rfl, _, rfl, _, rfl, by show 6 ≤ sizeLine; decide, fun t ht => ?_⟩⟩
        have tn : Stp S0 H9 (upd H9 t (.tup [.str "load", .int dd, .int hops, .int cell, .int (1 + d3), vf])) := Stp.new ht
        exact q _ _ (.load dd hops cell (1 + d3) xf) (tf.trans (t8.trans (t9.trans tn.z))) (g9.st0 tn) ⟨t, _, rfl, upd_same, vf, by rw [Int.natCast_add]; rfl, ((of.st t8).st t9).st tn⟩ ⟨by rw [hU]; exact hdd, by rw [hU]; exact okf, u', _, han, modS_get hu', by show cell + (1 + d3) ≤ s2.cells; omega⟩
      · have b8 := hb3.at t8 b7
        refine ⟨_, rfl, _, rfl, _, rfl, _, rfl, _, rfl, _, rfl, a, gr, b, s', rfl, g8, b8, hb3, by omega, by omega, fun H9 v9 x9 t9 g9 o9 ok9 => ⟨by show 6 ≤ sizeLine; decide, fun t ht => ?_⟩⟩
        have tn : Stp S0 H9 (upd H9 t (.tup [.str "store", .int hops, .int cell, .int (1 + d3), vf, v9])) := Stp.new ht
        exact q _ _ (.store hops cell (1 + d3) xf x9) (tf.trans (t8.trans (t9.trans tn.z))) (g9.st0 tn) ⟨t, _, rfl, upd_same, vf, v9, by rw [Int.natCast_add]; rfl, ((of.st t8).st t9).st tn, o9.st tn⟩ ⟨by rw [hU]; exact okf, by rw [hU]; exact ok9, u', _, han, modS_get hu', by show cell + (1 + d3) ≤ s2.cells; omega⟩
    · have tf := t5.trans t6
      have of := o5.st t6
      have okf := ok5
      generalize ve = vf at of ⊢
      generalize xe = xf at of okf
      have b7 := hb3.at tf hb2
      refine ⟨_, rfl, a, gr, 2, rfl, g6, by decide, by decide, fun H8 d8 hd8 t8 g8 => ⟨rfl, _, rfl, ite2 (fun _ => ?_) (fun _ => ?_)⟩⟩
      · have b8 := hb3.at t8 b7
        refine ⟨_, rfl, _, rfl, b, _, _, _, rfl, rfl, SqL.of b8, rfl, a, gr, s'.regs, rfl, g8, by omega, by omega, fun H9 dd hdd t9 g9 => ⟨_, rfl, _, rfl, _, rfl, _, rfl, by show 6 ≤ sizeLine; decide, fun t ht => ?_⟩⟩
        have tn : Stp S0 H9 (upd H9 t (.tup [.str "load", .int dd, .int hops, .int cell, .int (1 + d3), vf])) := Stp.new ht
        exact q _ _ (.load dd hops cell (1 + d3) xf) (tf.trans (t8.trans (t9.trans tn.z))) (g9.st0 tn) ⟨t, _, rfl, upd_same, vf, by rw [Int.natCast_add]; rfl, ((of.st t8).st t9).st tn⟩ ⟨by rw [hU]; exact hdd, by rw [hU]; exact okf, u', _, han, modS_get hu', by show cell + (1 + d3) ≤ s2.cells; omega⟩
      · have b8 := hb3.at t8 b7
        refine ⟨_, rfl, _, rfl, _, rfl, _, rfl, _, rfl, _, rfl, a, gr, b, s', rfl, g8, b8, hb3, by omega, by omega, fun H9 v9 x9 t9 g9 o9 ok9 => ⟨by show 6 ≤ sizeLine; decide, fun t ht => ?_⟩⟩
        have tn : Stp S0 H9 (upd H9 t (.tup [.str "store", .int hops, .int cell, .int (1 + d3), vf, v9])) := Stp.new ht
        exact q _ _ (.store hops cell (1 + d3) xf x9) (tf.trans (t8.trans (t9.trans tn.z))) (g9.st0 tn) ⟨t, _, rfl, upd_same, vf, v9, by rw [Int.natCast_add]; rfl, ((of.st t8).st t9).st tn, o9.st tn⟩ ⟨by rw [hU]; exact okf, by rw [hU]; exact ok9, u', _, han, modS_get hu', by show cell + (1 + d3) ≤ s2.cells; omega⟩
end
end WX
/-! ## WG4 -/
set_option Elab.async false
set_option linter.all false
set_option maxRecDepth 100000
set_option maxHeartbeats 2000000
/-! The generator: calls. -/
namespace WX
open PySem PySem.Spec PyProof.Rows L2 He
open Wn (Op Ar Ins Rg Un Mod Word wordB OpOk InsOk CellsOk anc)
local macro_rules | `(tactic| walk_at "new") => `(tactic| (intro p hp; generalize hG : upd _ p _ = H5; obtain ⟨s5, h5⟩ := gnew hG hp; clear hG))
theorem GS.upF {H : Hp} {a gr b : Addr} {o : HO} (g : GS H a gr) (f : Off a gr b) : GS (upd H b o) a gr := by
  obtain ⟨xs, l, h1⟩ := g.st
  obtain ⟨gs, h2⟩ := g.gr
  exact ⟨⟨xs, l, by rw [upd_ne (Ne.symm f.1)]; exact h1⟩, ⟨gs, by rw [upd_ne (Ne.symm f.2)]; exact h2⟩⟩
theorem hu64 {k : Nat} {A : Around} (hr : Room k A) : A.units + 64 < cLine := by
  have := hr.un
  omega
/-- int(x + y) % l[3] -/
def tMod (K : PySem.W.Frag) (i j l : Nat) : TE := tOp (rI (fun x j => j ≠ 0) fun i j => V.int (i.fmod j)) (tCB (fun xs H Q => (∃ i, xs = [V.int i] ∧ Q (V.int i) H) ∨ ∃ k : Bool, xs = [V.bl k] ∧ Q (V.int (if k = true then 1 else 0)) H) (tCons (tOp (rI0 fun i j => V.int (i + j)) (tVar i) (tVar j)) tNil)) (tOp (rIxL K) (tVar l) (tC (V.int 3)))
theorem lay_ints : ∀ l : List Int, PyData.canLayAll0 (l.map PyData.int) = true
  | [] => rfl
  | i :: l => by simp [PyData.canLayAll0, PyData.canLay0, lay_ints l]
theorem dep_ints : ∀ l : List Int, PyData.depthAll (l.map PyData.int) ≤ 2
  | [] => by simp [PyData.depthAll]
  | i :: l => by
    have := dep_ints l
    simp only [List.map_cons, PyData.depthAll, PyData.depth]
    exact Nat.max_le.mpr ⟨Nat.zero_le _, this⟩
theorem shp_ints (l : List Int) : SeqAt.shaped (.list (l.map PyData.int)) = true := by
  have h1 := lay_ints l
  have h2 := dep_ints l
  unfold SeqAt.shaped
  refine Bool.and_eq_true_iff.mpr ⟨by rw [PyData.canLay0]; exact h1, decide_eq_true ?_⟩
  rw [PyData.depth]
  omega
theorem dp_ints {K : PySem.W.Frag} {H : Hp} : ∀ l : List Int, DpAll K H (l.map V.int) (l.map PyData.int)
  | [] => .nil
  | i :: l => .cons (.int i) (dp_ints l)
theorem eqv_nil : ∀ l : List Int, PyData.eqv (.list (l.map PyData.int)) (.list []) = l.isEmpty
  | [] => rfl
  | _ :: _ => rfl
theorem ns_eq (l : List Nat) : ns l = (l.map fun d : Nat => ((d : Nat) : Int)).map V.int := by rw [ns, List.map_map]; rfl
theorem lc_opnds {H : Hp} {a gr b D : Addr} {s : Shp} (g : GS H a gr) (hb : H b = some (.lst (shL s))) (off : Off a gr b) (r0 : 0 < s.regs) (r1 : s.regs ≤ 100) {n : Nat} (hn : n ≤ 1000) {σ : L2.St} {i f : Nat}
    (h0 : σ[0]? = some (some (.ref a))) (hf : σ[f]? = some (some (.ref b))) (hi : i < σ.length) (hfi : f ≠ i) (h0i : 0 ≠ i) (hD : H D = none) {Qd : Hp → Prop}
    (k : ∀ H' vs xs, Stp (SG a gr) H H' → GS H' a gr → H' D = some (.lst vs) → All2 (opV H') vs xs → xs.length = n → (∀ x ∈ xs, OpOk s.regs x) → Qd H') :
    ∃ W : Nat → Nat → Hp → Prop, (∃ m, W 0 m (upd H D (.lst []))) ∧ ∀ j m H, W j m H →
      ((Itr 0 n).stop j H ∧ Qd H) ∨ ((Itr 0 n).go j H ∧ ∃ Nx : Hp → Prop, (∀ H', Nx H' → ∃ m', m' < m ∧ W (j + 1) m' H') ∧ ∀ x H', (Itr 0 n).yld j H x H' → gName i x (wipe σ [i]) H' fun σ2 H2 => wipe σ2 [i] = wipe σ [i] ∧ tYes σ2 H2 fun b H3 =>
        if b = true then tCall spOperand [] E0 (tCons (tVar 0) (tCons (tVar f) tNil)) σ2 H3 fun y H4 => ∃ acc, H4 D = some (.lst acc) ∧ acc.length < sizeLine ∧ Nx (upd H4 D (.lst (acc ++ [y]))) else Nx H3) := by
  have offD := Off.of1 g hD
  refine lc_range (fun j H' => Stp (SG a gr) H H' ∧ GS H' a gr ∧ ∃ vs xs, H' D = some (.lst vs) ∧ All2 (opV H') vs xs ∧ xs.length = j ∧ ∀ x ∈ xs, OpOk s.regs x) ⟨Stp.new hD, g.upF offD, [], [], upd_same, All2.nil, rfl, fun x hx => by cases hx⟩ (fun j H' hj p => ?_) fun H' p => ?_
  · obtain ⟨st, g', vs, xs, hl, ha, hx, ho⟩ := p
    have lenw : (wipe σ [i]).length = σ.length := wipe_length σ [i]
    have ew : wipe σ [i] = σ.set i none := rfl
    have e1 : ((wipe σ [i]).set i (some (.int (0 + (j : Int)))))[f]? = some (some (.ref b)) := by
      rw [ew, List.getElem?_set_ne (Ne.symm hfi), List.getElem?_set_ne (Ne.symm hfi)]
      exact hf
    have e2 : ((wipe σ [i]).set i (some (.int (0 + (j : Int)))))[0]? = some (some (.ref a)) := by
      rw [ew, List.getElem?_set_ne (Ne.symm h0i), List.getElem?_set_ne (Ne.symm h0i)]
      exact h0
    refine ⟨?_, _, e2, _, e1, a, gr, b, s, rfl, g', off.at st hb, off, r0, r1, fun H2 v x t2 g2 hv hok => ?_⟩
    · show ((σ.set i none).set i _).set i none = σ.set i none
      rw [List.set_set, List.set_set]
    · have h2 := offD.at t2 hl
      have tp : Stp (fun z => z = D) H2 (upd H2 D (.lst (vs ++ [v]))) := Stp.put h2 rfl nfrz_lst
      refine ⟨vs, h2, Nat.lt_of_le_of_lt ?_ (small1000 hn), (st.trans t2).over (.of hD), g2.upF offD, _, xs ++ [x], upd_same, ((ha.mono fun _ _ z => (z.st t2).st tp).snoc (hv.st tp)), by rw [List.length_append, hx]; rfl, fun y hy => ?_⟩
      · rw [ha.1, hx]
        omega
      · rcases List.mem_append.mp hy with z | z
        · exact ho y z
        · rw [List.mem_singleton.mp z]
          exact hok
  · obtain ⟨st, g', vs, xs, hl, ha, hx, ho⟩ := p
    exact k H' vs xs st g' hl ha hx ho
section
variable {P : Program} {w : World} {K : PySem.W.Frag} {mg : Str → Option Value} {base : Heap}
theorem ok_lcall (T : Txt w K mg) : Def P w K mg base CX0 3 "_law_call" ["_law_state", "_law_shapes_here", "_law_number"] spMemory := by
  have G_law_take := ok_take (P := P) (base := base) T
  have G_law_operand := ok_operand (P := P) (base := base) T
  have G_law_around := ok_around (P := P) (base := base) T
  refine D_law_call T (fun vs H Q E h => ?_) (fun cdv A outer s H vs Q E hr h => ?_)
  · obtain ⟨a, gr, shs, bs, ss, u, i, s, U, rfl, _⟩ := h
    rfl
  obtain ⟨a, gr, shs, bs, ss, u, i, s', U, rfl, g, S, SO, hu, hU, q⟩ := h
  refine ⟨_, (pss_cons (ps_set (i := 3) sc_law_call.nd rfl (Or.inr rfl) (pe_ix ix_list (pv 1) (pv 2) (fun _ _ => rfl))) (pss_cons (ps_set (i := 4) sc_law_call.nd rfl (Or.inl rfl) (pe_callD G_law_take hr (by omega) rfl pass0 (pa_cons (pv 0) (pa_cons (pe_op op_add (pe_ix ix_list (pv 3) pe_int (fun _ _ => rfl)) pe_int) pa_nil)))) (pss_cons (ps_set (i := 5) sc_law_call.nd rfl (Or.inr rfl) (pe_callD G_law_around hr (by omega) rfl pass0 (pa_cons (pv 1) (pa_cons (pv 2) (pa_cons (pv 4) pa_nil))))) (pss_cons (ps_setLc (i := 6) (own := [("_law_k", 7)]) (g := gName 7) (tt := (tTest (tOp rEq (tOp (rIxL K) (tOp (rIxL K) (tVar 1) (tVar 7)) (tC (V.int 0))) (tVar 5)))) rfl sc_law_call.nd rfl rfl (sw_true rfl rfl rfl (by decide +kernel)) (pi_range1 rfl (b_range T) (pa_cons (pe_callB call_len_seq (by rfl) (b_len T) PySem.boot_len (pa_cons (pv 1) pa_nil)) pa_nil)) (blkOk_by (own := [("_law_k", 7)]) (N := ["_law_state", "_law_shapes_here", "_law_number", "_law_shape", "_law_hops", "_law_parent", "_law_called", "_law_k", "_law_other", "_law_given", "_law_first", "_law_results"]) (sc := defScope st_law_call) (by decide +kernel)) (fun _ _ _ _ _ => pg_name (i := 7) sc_law_call.nd rfl (Or.inl rfl)) (fun _ _ _ _ _ => pts_one (pt_cmpR op_eq (pe_ix ix_list (pe_ix ix_list (pv 1) (pv 7) (fun _ _ => rfl)) pe_int (fun _ _ => rfl)) (pv 5) (nomark _))) (fun _ _ _ _ _ => (pv 7))) (pss_cons (ps_if (pt_cmpR (op_eqD (hu64 hr)) (pv 6) (pe_lst pa_nil) (nomark _)) (pss_one (ps_ret (pe_tup (pa_cons pe_str (pa_cons (pe_callD G_law_operand hr (by omega) rfl pass0 (pa_cons (pv 0) (pa_cons (pv 3) pa_nil))) pa_nil))))) pss_nil) (pss_cons (ps_set (i := 8) sc_law_call.nd rfl (Or.inl rfl) (pe_ix ix_list (pv 6) (pe_callD G_law_take hr (by omega) rfl pass0 (pa_cons (pv 0) (pa_cons (pe_callB call_len_seq (by rfl) (b_len T) PySem.boot_len (pa_cons (pv 6) pa_nil)) pa_nil))) (fun _ _ => rfl))) (pss_cons (ps_set (i := 9) sc_law_call.nd rfl (Or.inl rfl) (pe_callTy call_tuple_of (by rfl) (b_tuple T) (by decide +kernel) (pa_cons (pe_lc (te := tCall spOperand [] E0 (tCons (tVar 0) (tCons (tVar 3) tNil))) (own := [("_law_k", 7)]) (g := gName 7) (tt := tYes) rfl sc_law_call.nd (pi_range1 rfl (b_range T) (pa_cons (pe_ix ix_list (pe_ix ix_list (pv 1) (pv 8) (fun _ _ => rfl)) pe_int (fun _ _ => rfl)) pa_nil)) (blkOk_by (own := [("_law_k", 7)]) (N := ["_law_state", "_law_shapes_here", "_law_number", "_law_shape", "_law_hops", "_law_parent", "_law_called", "_law_k", "_law_other", "_law_given", "_law_first", "_law_results"]) (sc := defScope st_law_call) (by decide +kernel)) (fun _ _ _ _ _ => pg_name (i := 7) sc_law_call.nd rfl (Or.inl rfl)) (fun _ _ _ _ _ => pts_nil) (fun _ _ _ _ _ => (pe_callD G_law_operand hr (by omega) rfl pass0 (pa_cons (pv 0) (pa_cons (pv 3) pa_nil))))) pa_nil))) (pss_cons (ps_set (i := 10) sc_law_call.nd rfl (Or.inr rfl) (pe_callD G_law_take hr (by omega) rfl pass0 (pa_cons (pv 0) (pa_cons (pe_ix ix_list (pv 3) pe_int (fun _ _ => rfl)) pa_nil)))) (pss_cons (ps_set (i := 11) sc_law_call.nd rfl (Or.inl rfl) (pe_callTy call_tuple_of (by rfl) (b_tuple T) (by decide +kernel) (pa_cons (pe_lc (te := tMod K 10 7 3) (own := [("_law_k", 7)]) (g := gName 7) (tt := tYes) rfl sc_law_call.nd (pi_range1 rfl (b_range T) (pa_cons (pe_ix ix_list (pe_ix ix_list (pv 1) (pv 8) (fun _ _ => rfl)) pe_int (fun _ _ => rfl)) pa_nil)) (blkOk_by (own := [("_law_k", 7)]) (N := ["_law_state", "_law_shapes_here", "_law_number", "_law_shape", "_law_hops", "_law_parent", "_law_called", "_law_k", "_law_other", "_law_given", "_law_first", "_law_results"]) (sc := defScope st_law_call) (by decide +kernel)) (fun _ _ _ _ _ => pg_name (i := 7) sc_law_call.nd rfl (Or.inl rfl)) (fun _ _ _ _ _ => pts_nil) (fun _ _ _ _ _ => (pe_op op_modN (pe_callTy call_int1 (by rfl) (b_int T) (by decide +kernel) (pa_cons (pe_op op_add (pv 10) (pv 7)) pa_nil)) (pe_ix ix_list (pv 3) pe_int (fun _ _ => rfl))))) pa_nil))) (pss_one (ps_ret (pe_tup (pa_cons pe_str (pa_cons (pv 8) (pa_cons (pv 4) (pa_cons (pv 9) (pa_cons (pv 11) (pa_cons (pe_callD G_law_take hr (by omega) rfl pass0 (pa_cons (pv 0) (pa_cons pe_int pa_nil))) pa_nil)))))))))))))))))), ?_⟩
  obtain ⟨b, hb1, hb2, hb3⟩ := S.get hu
  have hlv := SO.lv u u s' (Nat.le_refl _) hu
  have hul := (List.getElem?_eq_some_iff.mp hu).1
  have hlen := SO.len
  have B := SO.b s' (List.mem_of_getElem? hu)
  refine ⟨_, rfl, _, rfl, shs, _, _, _, rfl, rfl, SqL.of S.l, atI_nat hb1, _, rfl, _, rfl, b, _, _, _, rfl, rfl, SqL.of hb2, rfl, _, _, rfl, rfl, a, gr, s'.level + 1, rfl, g, by omega, by omega, fun H1 hops hd1 t1 g1 => ?_⟩
  have S1 := S.st t1
  have b1 := hb3.at t1 hb2
  obtain ⟨u', s2, han, hu'⟩ := SO.anc hops u s' hu (by omega)
  refine ⟨_, rfl, _, rfl, _, rfl, a, gr, shs, bs, ss, u, hops, u', rfl, S1, han, by omega, ?_⟩
  have lb : (bs.map V.ref).length = ss.length := by rw [List.length_map]; exact S.e.1
  refine ⟨_, rfl, shs, _, rfl, .inl (SqL.of S1.l), ((bs.map V.ref).length : Int), rfl, by omega, by omega, fun DL hDL => lc_range (lo := 0) (n := (bs.map V.ref).length) (fun j H' => Stp S0 H1 H' ∧ ∃ ks : List Nat, H' DL = some (.lst (ns ks)) ∧ ks.length ≤ j ∧ ∀ k ∈ ks, ∃ z, ss[k]? = some z ∧ z.parent = (u' : Int)) ⟨Stp.new hDL, [], upd_same, Nat.le_refl _, fun k hk => by cases hk⟩ (fun j H' hj p => ?_) (fun H2 p => ?_)⟩
  · rw [Int.zero_add]
    obtain ⟨st, ks, hl, hkl, hks⟩ := p
    obtain ⟨z, hz⟩ : ∃ z, ss[j]? = some z := ⟨_, List.getElem?_eq_getElem (by omega)⟩
    obtain ⟨bz, z1, z2, _⟩ := (S1.st st.z).get hz
    refine ⟨rfl, _, rfl, _, rfl, shs, _, _, _, rfl, rfl, SqL.of (S1.st st.z).l, atI_nat z1, bz, _, _, _, rfl, rfl, SqL.of z2, rfl, _, rfl, rfl, _, rfl, ?_⟩
    refine ite2 (fun c => ?_) (fun c => ?_)
    · refine ⟨_, rfl, _, hl, Nat.lt_of_le_of_lt (by rw [ns, List.length_map]; omega) (small1000 (Nat.le_refl 1000)), st.over (.of hDL), ks ++ [j], ?_, by rw [List.length_append]; exact Nat.succ_le_succ hkl, fun k hk => ?_⟩
      · rw [upd_same, ns, ns, List.map_append]
        rfl
      · rcases List.mem_append.mp hk with y | y
        · exact hks k y
        · rw [List.mem_singleton.mp y]
          exact ⟨z, hz, V.int.inj (of_decide_eq_true c)⟩
    · exact ⟨st, ks, hl, by omega, hks⟩
  obtain ⟨st, ks, hl, hkl, hks⟩ := p
  have S2 := S1.st st.z
  have b2 := hb3.at st.z b1
  have g2 := g1.st0 st
  refine ⟨_, rfl, ?_⟩
  refine ⟨by show 0 ≤ sizeLine; decide, ?_⟩
  walk_at "new"; rename_i le nle H3 t3 hle
  have hl3 := t3.at hl fun z => z.elim
  rw [ns_eq] at hl3
  refine ⟨_, _, .lst (SqL.of hl3) (dp_ints _), .lst (SqL.of hle) .nil, shp_ints _, by decide, _, rfl, ?_⟩
  rw [eqv_nil]
  have g3 := g2.st0 t3
  have S3 := S2.st t3.z
  have b3 := hb3.at t3.z b2
  refine ite2 (fun c => ?_) (fun c => ?_)
  · refine ⟨_, rfl, _, rfl, a, gr, b, s', rfl, g3, b3, hb3, by omega, by omega, fun H4 v x t4 g4 hv hx => ⟨by show 2 ≤ sizeLine; decide, fun t ht => ?_⟩⟩
    have tn : Stp S0 H4 (upd H4 t (.tup [.str "put", v])) := Stp.new ht
    exact q _ _ (.put x) (t1.trans (st.z.trans (t3.z.trans (t4.trans tn.z)))) (g4.st0 tn) ⟨t, _, rfl, upd_same, v, rfl, hv.st tn⟩ (by show OpOk U.regs x; rw [hU]; exact hx)
  · have kpos : 0 < ks.length := by
      cases ks with
      | nil => exact absurd rfl c
      | cons _ _ => exact Nat.succ_pos _
    have lks : ((ks.map fun d : Nat => ((d : Nat) : Int)).map V.int).length = ks.length := by rw [List.length_map, List.length_map]
    refine ⟨_, rfl, _, rfl, _, rfl, DL, _, rfl, .inl (SqL.of hl3), a, gr, ((ks.map fun d : Nat => ((d : Nat) : Int)).map V.int).length, rfl, g3, by omega, by omega, fun H4 d4 hd4 t4 g4 => ?_⟩
    have offL := Off.of1 g1 hDL
    have hl4 := offL.at t4 hl3
    have S4 := S3.st t4
    have b4 := hb3.at t4 b3
    have hd4' : d4 < ks.length := by omega
    have hk4 : ((ks.map fun d : Nat => ((d : Nat) : Int)).map V.int)[d4]? = some (.int (ks[d4] : Nat)) := by rw [List.getElem?_map, List.getElem?_map, List.getElem?_eq_getElem hd4']; rfl
    obtain ⟨z, hz, hzp⟩ := hks ks[d4] (List.getElem_mem hd4')
    generalize ks[d4] = kk at hk4 hz
    have Bz := SO.b z (List.mem_of_getElem? hz)
    obtain ⟨bz, z1, z2, z3⟩ := S4.get hz
    refine ⟨DL, _, _, _, rfl, rfl, SqL.of hl4, atI_nat hk4, ?_⟩
    refine ⟨_, rfl, _, rfl, shs, _, _, _, rfl, rfl, SqL.of S4.l, atI_nat z1, bz, _, _, _, rfl, rfl, SqL.of z2, rfl, (z.na : Int), rfl, by omega, by omega, fun DG hDG => lc_opnds g4 b4 hb3 (by omega) (by omega) (n := z.na) (by omega) (i := 7) rfl rfl (by show 7 < 12; decide) (by decide) (by decide) hDG fun H5 vs xs t5 g5 hl5 ha hx ho => ?_⟩
    refine ⟨DG, _, rfl, .inl ⟨SqL.of hl5, fun og hog => ?_⟩⟩
    have t6 : Stp S0 H5 (upd H5 og (.tup vs)) := Stp.new hog
    have hog6 : (upd H5 og (.tup vs)) og = some (.tup vs) := upd_same
    generalize (upd H5 og (.tup vs)) = H6 at t6 hog6 ⊢
    have g6 := g5.st0 t6
    have S6 := (S4.st t5).st t6.z
    have b6 := hb3.at t6.z (hb3.at t5 b4)
    have ha6 := ha.mono fun _ _ y => y.st t6
    refine ⟨_, rfl, _, rfl, b, _, _, _, rfl, rfl, SqL.of b6, rfl, a, gr, s'.regs, rfl, g6, by omega, by omega, fun H7 fi hfi t7 g7 => ?_⟩
    have S7 := S6.st t7
    have b7 := hb3.at t7 b6
    have hog7 := t7.tup hog6
    have ha7 := ha6.mono fun _ _ y => y.st t7
    obtain ⟨bz', z1', z2', _⟩ := S7.get hz
    have nz : (s'.regs : Int) ≠ 0 := by omega
    refine ⟨_, rfl, _, rfl, shs, _, _, _, rfl, rfl, SqL.of S7.l, atI_nat z1', bz', _, _, _, rfl, rfl, SqL.of z2', rfl, (z.nr : Int), rfl, by omega, by omega, fun DR hDR => lc_range (lo := 0) (n := z.nr) (fun j H' => Stp S0 H7 H' ∧ ∃ ds : List Nat, H' DR = some (.lst (ns ds)) ∧ ds.length = j ∧ ∀ d ∈ ds, d < s'.regs) ⟨Stp.new hDR, [], upd_same, rfl, fun d hd => by cases hd⟩ (fun j H' hj p => ?_) (fun H8 p => ?_)⟩
    · obtain ⟨sj, ds, hds, hdl, hdr⟩ := p
      obtain ⟨dd, he, hdd⟩ := fmod_lt (x := ((fi : Int) + (0 + (j : Int)))) (n := s'.regs) (by omega)
      refine ⟨rfl, _, rfl, _, rfl, _, _, rfl, rfl, .inl ⟨_, rfl, _, rfl, b, _, _, _, rfl, rfl, SqL.of (hb3.at sj.z b7), rfl, _, _, rfl, rfl, nz, _, hds, Nat.lt_of_le_of_lt (by rw [ns, List.length_map]; omega) (small1000 (Nat.le_refl 1000)), sj.over (.of hDR), ds ++ [dd], ?_, by rw [List.length_append, hdl]; rfl, fun d hd => ?_⟩⟩
      · rw [upd_same, ns, ns, List.map_append]
        show some (HO.lst (_ ++ [V.int ((((fi : Int) + (0 + (j : Int)))).fmod s'.regs)])) = _
        rw [he]
        rfl
      · rcases List.mem_append.mp hd with y | y
        · exact hdr d y
        · rw [List.mem_singleton.mp y]
          exact hdd
    obtain ⟨sj, ds, hds, hdl, hdr⟩ := p
    refine ⟨DR, _, rfl, .inl ⟨SqL.of hds, fun orr horr => ?_⟩⟩
    have t9 : Stp S0 H8 (upd H8 orr (.tup (ns ds))) := Stp.new horr
    have hor9 : (upd H8 orr (.tup (ns ds))) orr = some (.tup (ns ds)) := upd_same
    generalize (upd H8 orr (.tup (ns ds))) = H9 at t9 hor9 ⊢
    have g9 := (g7.st0 sj).st0 t9
    refine ⟨_, rfl, _, rfl, _, rfl, _, rfl, _, rfl, a, gr, 5, rfl, g9, by decide, by decide, fun HA pp hpp tA gA => ⟨by show 6 ≤ sizeLine; decide, fun t ht => ?_⟩⟩
    have tn : Stp S0 HA (upd HA t (.tup [.str "call", .int kk, .int hops, .ref og, .ref orr, .int pp])) := Stp.new ht
    have tl : Stp (SG a gr) H7 (upd HA t (.tup [.str "call", .int kk, .int hops, .ref og, .ref orr, .int pp])) := sj.z.trans (t9.z.trans (tA.trans tn.z))
    refine q _ _ (.call kk hops xs ds pp) (t1.trans (st.z.trans (t3.z.trans (t4.trans (t5.trans (t6.z.trans (t7.trans tl))))))) (gA.st0 tn) ⟨t, _, rfl, upd_same, og, orr, rfl, ⟨vs, tl.tup hog7, ha7.mono fun _ _ y => y.st tl⟩, tn.tup (tA.tup hor9)⟩ ⟨⟨unS z [] [], modS_get hz, ?_, ?_, hx, hdl⟩, ?_, ?_, hpp⟩
    · show 0 ≤ z.parent
      omega
    · show anc (modS ss) u hops = some z.parent.toNat
      rw [hzp, han]
      rfl
    · rw [hU]
      exact ho
    · rw [hU]
      exact hdr
end
end WX
/-! ## WG5 -/
set_option Elab.async false
set_option linter.all false
set_option maxRecDepth 100000
set_option maxHeartbeats 4000000
/-! The generator: an instruction. -/
namespace WX
open PySem PySem.Spec PyProof.Rows L2 He
open Wn (Op Ar Ins Rg Un Mod Word wordB OpOk InsOk CellsOk anc)
local macro_rules | `(tactic| walk_at "new") => `(tactic| (intro p hp; generalize hG : upd _ p _ = H5; obtain ⟨s5, h5⟩ := gnew hG hp; clear hG))
def rgD (r : Rg) : PyData := .tuple ([(r.start : Int), r.stop, r.entry, r.r1, r.r2].map PyData.int)
theorem lay_rgs : ∀ l : List Rg, PyData.canLayAll0 (l.map rgD) = true
  | [] => rfl
  | i :: l => by
    rw [List.map_cons, PyData.canLayAll0, lay_rgs l, rgD, PyData.canLay0, lay_ints]
    rfl
theorem dep_rgs : ∀ l : List Rg, PyData.depthAll (l.map rgD) ≤ 3
  | [] => by simp [PyData.depthAll]
  | i :: l => by
    rw [List.map_cons, PyData.depthAll]
    refine Nat.max_le.mpr ⟨?_, dep_rgs l⟩
    rw [rgD, PyData.depth]
    exact Nat.succ_le_succ (dep_ints _)
theorem shp_rgs (l : List Rg) : SeqAt.shaped (.list (l.map rgD)) = true := by
  have h2 := dep_rgs l
  unfold SeqAt.shaped
  refine Bool.and_eq_true_iff.mpr ⟨by rw [PyData.canLay0]; exact lay_rgs l, decide_eq_true ?_⟩
  rw [PyData.depth]
  omega
theorem dp_rgs {K : PySem.W.Frag} {H : Hp} : ∀ (vs : List V) (l : List Rg), All2 (rgV H) vs l → DpAll K H vs (l.map rgD)
  | [], [], _ => .nil
  | [], _ :: _, h => by cases h.1
  | _ :: _, [], h => by cases h.1
  | v :: vs, r :: l, h => by
    obtain ⟨b, rfl, hb⟩ := h.2 0 v r rfl rfl
    exact .cons (.tup (SqT.of hb) (dp_ints [(r.start : Int), r.stop, r.entry, r.r1, r.r2])) (dp_rgs vs l ⟨Nat.succ.inj h.1, fun i x y e1 e2 => h.2 (i + 1) x y e1 e2⟩)
theorem eqv_rgs : ∀ l : List Rg, (!PyData.eqv (.list (l.map rgD)) (.list [])) = !l.isEmpty
  | [] => rfl
  | _ :: _ => rfl
structure InSit (H : Hp) (a gr shs tk rg : Addr) (bs : List Addr) (ss : List Shp) (u i : Nat) (s : Shp) (U : Un) (tb : List Bool) (rgs : List Rg) (rvs : List V) : Prop where
  g : GS H a gr
  S : ShsAt H a gr shs bs ss
  SO : SsOk ss
  hu : ss[u]? = some s
  regs : U.regs = s.regs
  nr : U.nr = s.nr
  len : U.code.length = tb.length
  tick : ∀ t : Nat, tb[t]? = some true → U.code[t]? = some Ins.tick
  tkH : H tk = some (.lst (tb.map V.bl))
  tkO : Off a gr tk
  rgH : H rg = some (.lst rvs)
  rgO : Off a gr rg
  rgA : All2 (WX.rgV H) rvs rgs
  rgl : rgs.length ≤ 1000
  rgk : ∀ r ∈ rgs, r.r1 < s.regs ∧ r.r2 < s.regs
  hi : i + 1 < tb.length
  tl : tb.length ≤ 100
theorem InSit.st {H H' : Hp} {a gr shs tk rg : Addr} {bs : List Addr} {ss : List Shp} {u i : Nat} {s : Shp} {U : Un} {tb : List Bool} {rgs : List Rg} {rvs : List V} (h : InSit H a gr shs tk rg bs ss u i s U tb rgs rvs) (t : Stp (SG a gr) H H') (g' : GS H' a gr) : InSit H' a gr shs tk rg bs ss u i s U tb rgs rvs :=
  { h with g := g', S := h.S.st t, tkH := h.tkO.at t h.tkH, rgH := h.rgO.at t h.rgH, rgA := h.rgA.mono fun _ _ z => z.st t }
def spInstr : Sp := fun vs H Q _ => ∃ (a gr shs tk rg : Addr) (bs : List Addr) (ss : List Shp) (u i : Nat) (s : Shp) (U : Un) (tb : List Bool) (rgs : List Rg) (rvs : List V), vs = [.ref a, .ref shs, .int u, .int i, .ref tk, .ref rg] ∧
  InSit H a gr shs tk rg bs ss u i s U tb rgs rvs ∧ ∀ H' v x, Stp (SG a gr) H H' → GS H' a gr → insV H' v x → InsOk (modS ss) u U i x → Q v H'
section
variable {P : Program} {w : World} {K : PySem.W.Frag} {mg : Str → Option Value} {base : Heap}
theorem ok_instr (T : Txt w K mg) : Def P w K mg base CX0 4 "_law_instruction" ["_law_state", "_law_shapes_here", "_law_number", "_law_index", "_law_ticks", "_law_regions_here"] spInstr := by
  have G_law_take := ok_take (P := P) (base := base) T
  have G_law_operand := ok_operand (P := P) (base := base) T
  have G_law_target := ok_target (P := P) (base := base) T
  have G_law_memory := ok_memory (P := P) (base := base) T
  have G_law_call := ok_lcall (P := P) (base := base) T
  refine D_law_instruction T (fun vs H Q E h => ?_) (fun cdv A outer s H vs Q E hr h => ?_)
  · obtain ⟨a, gr, shs, tk, rg, bs, ss, u, i, s, U, tb, rgs, rvs, rfl, _⟩ := h
    rfl
  obtain ⟨a, gr, shs, tk, rg, bs, ss, u, i, s', U, tb, rgs, rvs, rfl, I, q⟩ := h
  refine ⟨_, (pss_cons (ps_set (i := 6) sc_law_instruction.nd rfl (Or.inr rfl) (pe_ix ix_list (pv 1) (pv 2) (fun _ _ => rfl))) (pss_cons (ps_set (i := 7) sc_law_instruction.nd rfl (Or.inl rfl) (pe_callD G_law_take hr (by omega) rfl pass0 (pa_cons (pv 0) (pa_cons pe_int pa_nil)))) (pss_cons (ps_set (i := 8) sc_law_instruction.nd rfl (Or.inl rfl) (pe_callD G_law_take hr (by omega) rfl pass0 (pa_cons (pv 0) (pa_cons (pe_ix ix_list (pv 6) pe_int (fun _ _ => rfl)) pa_nil)))) (pss_cons (ps_set (i := 9) sc_law_instruction.nd rfl (Or.inl rfl) (pe_callD G_law_take hr (by omega) rfl pass0 (pa_cons (pv 0) (pa_cons pe_int pa_nil)))) (pss_cons (ps_set (i := 10) sc_law_instruction.nd rfl (Or.inl rfl) (pe_callD G_law_operand hr (by omega) rfl pass0 (pa_cons (pv 0) (pa_cons (pv 6) pa_nil)))) (pss_cons (ps_if (pt_cmpR op_lt (pv 7) pe_int (nomark _)) (pss_one (ps_ret (pe_tup (pa_cons pe_str (pa_cons (pv 8) (pa_cons (pv 10) pa_nil)))))) pss_nil) (pss_cons (ps_if (pt_cmpR op_eq (pv 7) pe_int (nomark _)) (pss_one (ps_ret (pe_tup (pa_cons (pe_ix ix_list (pe_lst (pa_cons pe_str (pa_cons pe_str pa_nil))) (pe_callD G_law_take hr (by omega) rfl pass0 (pa_cons (pv 0) (pa_cons pe_int pa_nil))) (fun _ _ => rfl)) (pa_cons (pv 8) (pa_cons (pv 10) (pa_cons (pv 9) pa_nil))))))) pss_nil) (pss_cons (ps_if (pt_cmpR op_lt (pv 7) pe_int (nomark _)) (pss_cons (ps_set (i := 11) sc_law_instruction.nd rfl (Or.inl rfl) (pe_ix ix_list (pe_lst (pa_cons pe_str (pa_cons pe_str (pa_cons pe_str (pa_cons pe_str (pa_cons pe_str (pa_cons pe_str pa_nil))))))) (pe_callD G_law_take hr (by omega) rfl pass0 (pa_cons (pv 0) (pa_cons pe_int pa_nil))) (fun _ _ => rfl))) (pss_one (ps_ret (pe_tup (pa_cons (pv 11) (pa_cons (pv 8) (pa_cons (pv 10) (pa_cons (pe_callD G_law_operand hr (by omega) rfl pass0 (pa_cons (pv 0) (pa_cons (pv 6) pa_nil))) (pa_cons (pv 9) pa_nil))))))))) pss_nil) (pss_cons (ps_if (pt_cmpR op_lt (pv 7) pe_int (nomark _)) (pss_one (ps_ret (pe_tup (pa_cons (pe_ix ix_list (pe_lst (pa_cons pe_str (pa_cons pe_str pa_nil))) (pe_callD G_law_take hr (by omega) rfl pass0 (pa_cons (pv 0) (pa_cons pe_int pa_nil))) (fun _ _ => rfl)) (pa_cons (pv 8) (pa_cons (pv 10) (pa_cons (pe_callD G_law_operand hr (by omega) rfl pass0 (pa_cons (pv 0) (pa_cons (pv 6) pa_nil))) pa_nil))))))) pss_nil) (pss_cons (ps_if (pt_cmpR op_eq (pv 7) pe_int (nomark _)) (pss_cons (ps_set (i := 12) sc_law_instruction.nd rfl (Or.inl rfl) (pe_op op_sub (pe_callD G_law_take hr (by omega) rfl pass0 (pa_cons (pv 0) (pa_cons pe_int pa_nil))) pe_int)) (pss_one (ps_ret (pe_tup (pa_cons pe_str (pa_cons (pv 10) (pa_cons (pv 12) (pa_cons (pe_op op_add (pv 12) (pe_callD G_law_take hr (by omega) rfl pass0 (pa_cons (pv 0) (pa_cons pe_int pa_nil)))) (pa_cons (pv 9) pa_nil))))))))) pss_nil) (pss_cons (ps_if (pt_cmpR op_lt (pv 7) pe_int (nomark _)) (pss_one (ps_ret (pe_callD G_law_memory hr (by omega) rfl pass0 (pa_cons (pv 0) (pa_cons (pv 1) (pa_cons (pv 2) pa_nil)))))) pss_nil) (pss_cons (ps_if (pt_cmpR op_eq (pv 7) pe_int (nomark _)) (pss_one (ps_ret (pe_tup (pa_cons pe_str (pa_cons (pe_callD G_law_target hr (by omega) rfl pass0 (pa_cons (pv 0) (pa_cons (pv 3) (pa_cons (pv 4) pa_nil)))) pa_nil))))) pss_nil) (pss_cons (ps_if (pt_cmpR op_lt (pv 7) pe_int (nomark _)) (pss_one (ps_ret (pe_tup (pa_cons pe_str (pa_cons (pv 10) (pa_cons (pe_callD G_law_target hr (by omega) rfl pass0 (pa_cons (pv 0) (pa_cons (pv 3) (pa_cons (pv 4) pa_nil)))) pa_nil)))))) pss_nil) (pss_cons (ps_if (pt_cmpR op_lt (pv 7) pe_int (nomark _)) (pss_one (ps_ret (pe_callD G_law_call hr (by omega) rfl pass0 (pa_cons (pv 0) (pa_cons (pv 1) (pa_cons (pv 2) pa_nil)))))) pss_nil) (pss_cons (ps_if (pt_cmpR op_eq (pv 7) pe_int (nomark _)) (pss_one (ps_ret (pe_tup (pa_cons pe_str (pa_cons (pe_callD G_law_take hr (by omega) rfl pass0 (pa_cons (pv 0) (pa_cons pe_int pa_nil))) (pa_cons (pv 9) pa_nil)))))) pss_nil) (pss_cons (ps_if (PW.pt (pw_and (pt_cmpR op_eq (pv 7) pe_int (nomark _)) (pw_and1 (pt_cmpR (op_neD (hu64 hr)) (pv 5) (pe_lst pa_nil) (nomark _))))) (pss_cons (ps_set (i := 13) sc_law_instruction.nd rfl (Or.inl rfl) (pe_ix ix_list (pv 5) (pe_callD G_law_take hr (by omega) rfl pass0 (pa_cons (pv 0) (pa_cons (pe_callB call_len_seq (by rfl) (b_len T) PySem.boot_len (pa_cons (pv 5) pa_nil)) pa_nil))) (fun _ _ => rfl))) (pss_one (ps_ret (pe_tup (pa_cons pe_str (pa_cons (pe_tup (pa_cons pe_str (pa_cons (pe_ix ix_tup (pv 13) pe_int (fun _ _ => rfl)) pa_nil))) (pa_cons (pe_tup (pa_cons pe_str (pa_cons (pe_ix ix_tup (pv 13) pe_int (fun _ _ => rfl)) pa_nil))) pa_nil))))))) pss_nil) (pss_cons (ps_if (pt_cmpR op_eq (pv 7) pe_int (nomark _)) (pss_one (ps_ret (pe_tup (pa_cons pe_str (pa_cons (pv 8) (pa_cons (pv 9) pa_nil)))))) pss_nil) (pss_cons (ps_if (pt_cmpR op_eq (pv 7) pe_int (nomark _)) (pss_one (ps_ret (pe_tup (pa_cons pe_str (pa_cons (pe_callTy call_tuple_of (by rfl) (b_tuple T) (by decide +kernel) (pa_cons (pe_lc (te := tCall spOperand [] E0 (tCons (tVar 0) (tCons (tVar 6) tNil))) (own := [("_law_k", 14)]) (g := gName 14) (tt := tYes) rfl sc_law_instruction.nd (pi_range1 rfl (b_range T) (pa_cons (pe_ix ix_list (pv 6) pe_int (fun _ _ => rfl)) pa_nil)) (blkOk_by (own := [("_law_k", 14)]) (N := ["_law_state", "_law_shapes_here", "_law_number", "_law_index", "_law_ticks", "_law_regions_here", "_law_shape", "_law_kind", "_law_d", "_law_p", "_law_x", "_law_op", "_law_low", "_law_region_here", "_law_k"]) (sc := defScope st_law_instruction) (by decide +kernel)) (fun _ _ _ _ _ => pg_name (i := 14) sc_law_instruction.nd rfl (Or.inl rfl)) (fun _ _ _ _ _ => pts_nil) (fun _ _ _ _ _ => (pe_callD G_law_operand hr (by omega) rfl pass0 (pa_cons (pv 0) (pa_cons (pv 6) pa_nil))))) pa_nil)) pa_nil))))) pss_nil) (pss_one (ps_ret (pe_tup (pa_cons pe_str (pa_cons (pv 10) pa_nil))))))))))))))))))))))), ?_⟩
  obtain ⟨b, hb1, hb2, hb3⟩ := I.S.get I.hu
  have B := I.SO.b s' (List.mem_of_getElem? I.hu)
  have g := I.g
  refine ⟨_, rfl, _, rfl, shs, _, _, _, rfl, rfl, SqL.of I.S.l, atI_nat hb1, ?_⟩
  refine ⟨_, rfl, a, gr, 25, rfl, g, by decide, by decide, fun H1 kd hkd t1 g1 => ?_⟩
  have b1 := hb3.at t1 hb2
  refine ⟨_, rfl, _, rfl, b, _, _, _, rfl, rfl, SqL.of b1, rfl, a, gr, s'.regs, rfl, g1, by omega, by omega, fun H2 d hd t2 g2 => ?_⟩
  refine ⟨_, rfl, a, gr, 5, rfl, g2, by decide, by decide, fun H3 pp hpp t3 g3 => ?_⟩
  have b3 := hb3.at t3 (hb3.at t2 b1)
  refine ⟨_, rfl, _, rfl, a, gr, b, s', rfl, g3, b3, hb3, by omega, by omega, fun H4 vx x t4 g4 hvx hx => ?_⟩
  have T4 : Stp (SG a gr) H H4 := t1.trans (t2.trans (t3.trans t4))
  have b4 := hb3.at t4 b3
  have I4 := I.st T4 g4
  -- an end without a heap in between
  have fin : ∀ (H5 : Hp) (nm : Str) (vs : List V) (y : Ins), Stp (SG a gr) H4 H5 → GS H5 a gr → nm = insN y → insF H5 vs y → InsOk (modS ss) u U i y → ∀ t, H5 t = none → Q (.ref t) (upd H5 t (.tup (.str nm :: vs))) := fun H5 nm vs y t5 g5 e hf ok t ht => by
    have tn : Stp S0 H5 (upd H5 t (.tup (.str nm :: vs))) := Stp.new ht
    subst e
    exact q _ _ y (T4.trans (t5.trans tn.z)) (g5.st0 tn) ⟨t, _, rfl, upd_same, hf.st tn⟩ ok
  have hx' : OpOk U.regs x := by rw [I.regs]; exact hx
  have hd' : d < U.regs := by rw [I.regs]; exact hd
  refine ⟨_, rfl, _, _, rfl, rfl, _, rfl, ite2 (fun c => ?_) (fun c1 => ?_)⟩
  · refine ⟨_, rfl, _, rfl, by show 3 ≤ sizeLine; decide, fin H4 _ _ (.move d x) Stp.refl g4 rfl ⟨vx, rfl, hvx⟩ ⟨hd', hx'⟩⟩
  refine ⟨_, rfl, rfl, _, rfl, ite2 (fun c => ?_) (fun c2 => ?_)⟩
  · refine ⟨by show 2 ≤ sizeLine; decide, fun l hl => ?_⟩
    have tn : Stp S0 H4 (upd H4 l _) := Stp.new (o := .lst ((["neg", "abs"] : List Str).map V.str)) hl
    have gl := g4.st0 tn
    refine ⟨_, rfl, a, gr, 2, rfl, gl, by decide, by decide, fun H5 e he t5 g5 => ?_⟩
    have hll : H5 l = some (.lst ((["neg", "abs"] : List Str).map V.str)) := (Off.of1 g4 hl).at t5 upd_same
    have hv5 := (hvx.st tn).st t5
    have T5 := (tn.z (S := SG a gr)).trans t5
    have ee : e = 0 ∨ e = 1 := by omega
    rcases ee with rfl | rfl
    · exact ⟨l, _, _, .str "neg", rfl, rfl, SqL.of hll, rfl, _, rfl, _, rfl, _, rfl, by show 4 ≤ sizeLine; decide, fin H5 _ _ (.neg d x pp) T5 g5 rfl ⟨vx, rfl, hv5⟩ ⟨hd', hx', hpp⟩⟩
    · exact ⟨l, _, _, .str "abs", rfl, rfl, SqL.of hll, rfl, _, rfl, _, rfl, _, rfl, by show 4 ≤ sizeLine; decide, fin H5 _ _ (.abs d x pp) T5 g5 rfl ⟨vx, rfl, hv5⟩ ⟨hd', hx', hpp⟩⟩
  refine ⟨_, rfl, _, _, rfl, rfl, _, rfl, ite2 (fun c => ?_) (fun c3 => ?_)⟩
  · refine ⟨by show 6 ≤ sizeLine; decide, fun l hl => ?_⟩
    have tn : Stp S0 H4 (upd H4 l _) := Stp.new (o := .lst ((["add", "sub", "mul", "div", "mod", "rem"] : List Str).map V.str)) hl
    have gl := g4.st0 tn
    refine ⟨_, rfl, a, gr, 6, rfl, gl, by decide, by decide, fun H5 e he t5 g5 => ?_⟩
    have hll : H5 l = some (.lst ((["add", "sub", "mul", "div", "mod", "rem"] : List Str).map V.str)) := (Off.of1 g4 hl).at t5 upd_same
    have T5 := (tn.z (S := SG a gr)).trans t5
    have b5 := hb3.at T5 b4
    obtain ⟨ar, har⟩ : ∃ ar : Ar, ((["add", "sub", "mul", "div", "mod", "rem"] : List Str).map V.str)[e]? = some (.str (arN ar)) := by
      have ee : e = 0 ∨ e = 1 ∨ e = 2 ∨ e = 3 ∨ e = 4 ∨ e = 5 := by omega
      rcases ee with rfl | rfl | rfl | rfl | rfl | rfl
      · exact ⟨.add, rfl⟩
      · exact ⟨.sub, rfl⟩
      · exact ⟨.mul, rfl⟩
      · exact ⟨.div, rfl⟩
      · exact ⟨.mod, rfl⟩
      · exact ⟨.rem, rfl⟩
    refine ⟨l, _, _, .str (arN ar), rfl, rfl, SqL.of hll, atI_nat har, ?_⟩
    refine ⟨_, rfl, _, rfl, _, rfl, _, rfl, _, rfl, a, gr, b, s', rfl, g5, b5, hb3, by omega, by omega, fun H6 vy y t6 g6 hvy hy => ⟨_, rfl, by show 5 ≤ sizeLine; decide, fin H6 _ _ (.ar ar d x y pp) (T5.trans t6) g6 rfl ⟨vx, vy, rfl, (hvx.st T5).st t6, hvy⟩ ⟨hd', hx', by rw [I.regs]; exact hy, hpp⟩⟩⟩
  refine ⟨_, rfl, _, _, rfl, rfl, _, rfl, ite2 (fun c => ?_) (fun c4 => ?_)⟩
  · refine ⟨by show 2 ≤ sizeLine; decide, fun l hl => ?_⟩
    have tn : Stp S0 H4 (upd H4 l _) := Stp.new (o := .lst ((["less", "equal"] : List Str).map V.str)) hl
    have gl := g4.st0 tn
    refine ⟨_, rfl, a, gr, 2, rfl, gl, by decide, by decide, fun H5 e he t5 g5 => ?_⟩
    have hll : H5 l = some (.lst ((["less", "equal"] : List Str).map V.str)) := (Off.of1 g4 hl).at t5 upd_same
    have T5 := (tn.z (S := SG a gr)).trans t5
    have b5 := hb3.at T5 b4
    have ee : e = 0 ∨ e = 1 := by omega
    rcases ee with rfl | rfl
    · exact ⟨l, _, _, .str "less", rfl, rfl, SqL.of hll, rfl, _, rfl, _, rfl, _, rfl, _, rfl, a, gr, b, s', rfl, g5, b5, hb3, by omega, by omega, fun H6 vy y t6 g6 hvy hy => ⟨by show 4 ≤ sizeLine; decide, fin H6 _ _ (.less d x y) (T5.trans t6) g6 rfl ⟨vx, vy, rfl, (hvx.st T5).st t6, hvy⟩ ⟨hd', hx', by rw [I.regs]; exact hy⟩⟩⟩
    · exact ⟨l, _, _, .str "equal", rfl, rfl, SqL.of hll, rfl, _, rfl, _, rfl, _, rfl, _, rfl, a, gr, b, s', rfl, g5, b5, hb3, by omega, by omega, fun H6 vy y t6 g6 hvy hy => ⟨by show 4 ≤ sizeLine; decide, fin H6 _ _ (.equal d x y) (T5.trans t6) g6 rfl ⟨vx, vy, rfl, (hvx.st T5).st t6, hvy⟩ ⟨hd', hx', by rw [I.regs]; exact hy⟩⟩⟩
  refine ⟨_, rfl, rfl, _, rfl, ite2 (fun c => ?_) (fun c5 => ?_)⟩
  · refine ⟨_, rfl, a, gr, 5, rfl, g4, by decide, by decide, fun H5 lo hlo t5 g5 => ⟨_, _, rfl, rfl, ?_⟩⟩
    exact ⟨_, rfl, _, rfl, _, rfl, _, rfl, a, gr, 5, rfl, g5, by decide, by decide, fun H6 hi hhi t6 g6 => ⟨_, _, rfl, rfl, _, rfl, by show 5 ≤ sizeLine; decide, fin H6 _ _ (.check x (lo - 2) (lo - 2 + hi) pp) (t5.trans t6) g6 rfl ⟨vx, rfl, (hvx.st t5).st t6⟩ ⟨hx', hpp⟩⟩⟩
  refine ⟨_, rfl, _, _, rfl, rfl, _, rfl, ite2 (fun c => ?_) (fun c6 => ?_)⟩
  · exact ⟨_, rfl, _, rfl, _, rfl, a, gr, shs, bs, ss, u, i, s', U, rfl, g4, I4.S, I.SO, I.hu, I.regs, fun H5 v y t5 g5 hv hy => q _ _ y (T4.trans t5) g5 hv hy⟩
  have tgt : ∀ t : Nat, t < tb.length → (i < t ∨ tb[t]? = some true) → Wn.TgtOk U i t := fun t h1 h2 => ⟨by rw [I.len]; exact h1, h2.imp id (I.tick t)⟩
  refine ⟨_, rfl, rfl, _, rfl, ite2 (fun c => ?_) (fun c7 => ?_)⟩
  · exact ⟨_, rfl, _, rfl, _, rfl, a, gr, tk, i, tb, rfl, g4, I4.tkH, I.tkO, I.hi, by have := I.tl; omega, fun H5 t ht hor t5 g5 => ⟨by show 2 ≤ sizeLine; decide, fin H5 _ _ (.jump t) t5 g5 rfl rfl (tgt t ht hor)⟩⟩
  refine ⟨_, rfl, _, _, rfl, rfl, _, rfl, ite2 (fun c => ?_) (fun c8 => ?_)⟩
  · exact ⟨_, rfl, _, rfl, _, rfl, _, rfl, a, gr, tk, i, tb, rfl, g4, I4.tkH, I.tkO, I.hi, by have := I.tl; omega, fun H5 t ht hor t5 g5 => ⟨by show 3 ≤ sizeLine; decide, fin H5 _ _ (.branch x t) t5 g5 rfl ⟨vx, rfl, hvx.st t5⟩ ⟨hx', tgt t ht hor⟩⟩⟩
  refine ⟨_, rfl, _, _, rfl, rfl, _, rfl, ite2 (fun c => ?_) (fun c9 => ?_)⟩
  · exact ⟨_, rfl, _, rfl, _, rfl, a, gr, shs, bs, ss, u, i, s', U, rfl, g4, I4.S, I.SO, I.hu, I.regs, fun H5 v y t5 g5 hv hy => q _ _ y (T4.trans t5) g5 hv hy⟩
  refine ⟨_, rfl, rfl, _, rfl, ite2 (fun c => ?_) (fun c10 => ?_)⟩
  · exact ⟨_, rfl, a, gr, 5, rfl, g4, by decide, by decide, fun H5 k hk t5 g5 => ⟨_, rfl, by show 3 ≤ sizeLine; decide, fin H5 _ _ (.raise k pp) t5 g5 rfl rfl ⟨hk, hpp⟩⟩⟩
  have putX : ∀ (H5 : Hp), Stp S0 H4 H5 → ∀ t, H5 t = none → Q (.ref t) (upd H5 t (.tup [.str "put", vx])) := fun H5 t5 => fin H5 _ _ (.put x) t5.z (g4.st0 t5) rfl ⟨vx, rfl, hvx.st t5⟩ hx'
  by_cases c20 : kd = 20
  · refine ⟨_, rfl, rfl, _, rfl, if_true_of (decide_eq_true (by rw [c20]; rfl)) ⟨_, rfl, by show 0 ≤ sizeLine; decide, ?_⟩⟩
    walk_at "new"; rename_i le nle H5 t5 hle
    have I5 := I4.st t5.z (g4.st0 t5)
    refine ⟨_, _, .lst (SqL.of I5.rgH) (dp_rgs _ _ I5.rgA), .lst (SqL.of hle) .nil, shp_rgs _, by decide, _, rfl, ?_⟩
    rw [eqv_rgs]
    by_cases hn : rgs = []
    · refine if_false_of (by rw [hn]; rfl) ?_
      exact ⟨_, rfl, rfl, _, rfl, if_false_of (decide_eq_false (by rw [c20]; decide)) ⟨_, rfl, rfl, _, rfl, if_false_of (decide_eq_false (by rw [c20]; decide)) ⟨_, rfl, by show 2 ≤ sizeLine; decide, putX H5 t5⟩⟩⟩
    have lpos : 0 < rgs.length := List.length_pos_iff.mpr hn
    refine if_true_of (by cases rgs with
      | nil => exact absurd rfl hn
      | cons _ _ => rfl) ?_
    have lv := I5.rgA.1
    refine ⟨_, rfl, _, rfl, _, rfl, rg, _, rfl, .inl (SqL.of I5.rgH), a, gr, rvs.length, rfl, I5.g, by omega, by have := I.rgl; omega, fun H6 e he t6 g6 => ?_⟩
    have I6 := I5.st t6 g6
    obtain ⟨rv, hrv, hra⟩ := I6.rgA.get (List.getElem?_eq_getElem (show e < rgs.length by omega))
    obtain ⟨rr, rfl, hrr⟩ := hra
    have hk := I.rgk _ (List.getElem_mem (show e < rgs.length by omega))
    generalize rgs[e] = rx at hrr hk
    refine ⟨rg, _, _, _, rfl, rfl, SqL.of I6.rgH, atI_nat hrv, ?_⟩
    refine ⟨_, rfl, rr, _, _, _, rfl, rfl, SqT.of hrr, rfl, by show 2 ≤ sizeLine; decide, fun o1 ho1 => ?_⟩
    have tn1 : Stp S0 H6 (upd H6 o1 (.tup [.str "reg", .int rx.r1])) := Stp.new ho1
    have op1 : opV (upd H6 o1 (.tup [.str "reg", .int rx.r1])) (.ref o1) (.reg rx.r1) := ⟨o1, rfl, upd_same⟩
    refine ⟨_, rfl, rr, _, _, _, rfl, rfl, SqT.of (tn1.tup hrr), rfl, by show 2 ≤ sizeLine; decide, fun o2 ho2 => ⟨by show 3 ≤ sizeLine; decide, ?_⟩⟩
    have tn2 : Stp S0 (upd H6 o1 (.tup [.str "reg", .int rx.r1])) (upd (upd H6 o1 (.tup [.str "reg", .int rx.r1])) o2 (.tup [.str "reg", .int rx.r2])) := Stp.new ho2
    exact fin _ _ _ (.again (.reg rx.r1) (.reg rx.r2)) (t5.z.trans (t6.trans (tn1.z.trans tn2.z))) ((g6.st0 tn1).st0 tn2) rfl ⟨.ref o1, .ref o2, rfl, op1.st tn2, o2, rfl, upd_same⟩ ⟨by show rx.r1 < U.regs; rw [I.regs]; exact hk.1, by show rx.r2 < U.regs; rw [I.regs]; exact hk.2⟩
  refine ⟨_, rfl, rfl, _, rfl, if_false_of (decide_eq_false fun z => c20 (Int.ofNat.inj (V.int.inj z))) (if_false_of rfl ?_)⟩
  refine ⟨_, rfl, rfl, _, rfl, ite2 (fun c => ?_) (fun c11 => ?_)⟩
  · exact ⟨_, rfl, _, rfl, by show 3 ≤ sizeLine; decide, fin H4 _ _ (.get d pp) Stp.refl g4 rfl rfl ⟨hd', hpp⟩⟩
  refine ⟨_, rfl, rfl, _, rfl, ite2 (fun c => ?_) (fun c12 => ?_)⟩
  · refine ⟨_, rfl, b, _, _, _, rfl, rfl, SqL.of b4, rfl, (s'.nr : Int), rfl, by omega, by omega, fun DG hDG => lc_opnds g4 b4 hb3 (by omega) (by omega) (n := s'.nr) (by omega) (i := 14) rfl rfl (by show 14 < 15; decide) (by decide) (by decide) hDG fun H5 vs xs t5 g5 hl5 ha hx ho => ?_⟩
    refine ⟨DG, _, rfl, .inl ⟨SqL.of hl5, fun og hog => ⟨by show 2 ≤ sizeLine; decide, ?_⟩⟩⟩
    have tn : Stp S0 H5 (upd H5 og (.tup vs)) := Stp.new hog
    exact fin _ _ _ (.ret xs) (t5.trans tn.z) (g5.st0 tn) rfl ⟨og, rfl, vs, upd_same, ha.mono fun _ _ y => y.st tn⟩ ⟨by rw [I.nr]; exact hx, by rw [I.regs]; exact ho⟩
  · exact ⟨_, rfl, by show 2 ≤ sizeLine; decide, putX H4 Stp.refl⟩
end
end WX
/-! ## WG6 -/
set_option Elab.async false
set_option linter.all false
set_option maxRecDepth 100000
set_option maxHeartbeats 4000000
/-! The generator: regions. -/
namespace WX
open PySem PySem.Spec PyProof.Rows L2 He
open Wn (Op Ar Ins Rg Un Mod Word wordB OpOk InsOk CellsOk anc)
local macro_rules | `(tactic| walk_at "new") => `(tactic| (intro p hp; generalize hG : upd _ p _ = H5; obtain ⟨s5, h5⟩ := gnew hG hp; clear hG))
structure RgsOk (n regs : Nat) (rgs : List Rg) : Prop where
  ok : ∀ r ∈ rgs, r.stop ≤ r.entry ∧ r.entry < n ∧ r.r1 < regs ∧ r.r2 < regs
  len : rgs.length ≤ 4
def spRegions : Sp := fun vs H Q _ => ∃ (a gr sh : Addr) (s : Shp) (n : Nat), vs = [.ref a, .ref sh, .int n] ∧ GS H a gr ∧ H sh = some (.lst (shL s)) ∧ Off a gr sh ∧ 3 ≤ s.regs ∧ s.regs ≤ 100 ∧ 2 ≤ n ∧ n ≤ 100 ∧
  ∀ H' o rvs rgs, Stp (SG a gr) H H' → GS H' a gr → H' o = some (.lst rvs) → Off a gr o → All2 (rgV H') rvs rgs → RgsOk n s.regs rgs → Q (.ref o) H'
section
variable {P : Program} {w : World} {K : PySem.W.Frag} {mg : Str → Option Value} {base : Heap}
theorem ok_regions (T : Txt w K mg) : Def P w K mg base CX0 2 "_law_regions" ["_law_state", "_law_shape", "_law_size"] spRegions := by
  have G_law_take := ok_take (P := P) (base := base) T
  refine D_law_regions T (fun vs H Q E h => ?_) (fun cdv A outer s H vs Q E hr h => ?_)
  · obtain ⟨a, gr, sh, s, n, rfl, _⟩ := h
    rfl
  obtain ⟨a, gr, sh, s', n, rfl, g, hsh, off, r0, r1, n0, n1, q⟩ := h
  refine ⟨_, (pss_cons (ps_set (i := 3) sc_law_regions.nd rfl (Or.inl rfl) (pe_lst pa_nil)) (pss_cons (ps_for (L2.passes_of rfl) rfl (pi_range1 rfl (b_range T) (pa_cons (pe_callD G_law_take hr (by omega) rfl pass0 (pa_cons (pv 0) (pa_cons pe_int pa_nil))) pa_nil)) (pg_name (i := 4) sc_law_regions.nd rfl (Or.inl rfl)) (pss_cons (ps_set (i := 5) sc_law_regions.nd rfl (Or.inl rfl) (pe_callD G_law_take hr (by omega) rfl pass0 (pa_cons (pv 0) (pa_cons (pe_op op_sub (pv 2) pe_int) pa_nil)))) (pss_cons (ps_set (i := 6) sc_law_regions.nd rfl (Or.inl rfl) (pe_op op_add (pe_op op_add (pv 5) pe_int) (pe_callD G_law_take hr (by omega) rfl pass0 (pa_cons (pv 0) (pa_cons (pe_op op_sub (pe_op op_sub (pv 2) pe_int) (pv 5)) pa_nil))))) (pss_cons (ps_set (i := 7) sc_law_regions.nd rfl (Or.inl rfl) (pe_op op_add (pv 6) (pe_callD G_law_take hr (by omega) rfl pass0 (pa_cons (pv 0) (pa_cons (pe_op op_sub (pv 2) (pv 6)) pa_nil))))) (pss_cons (ps_set (i := 8) sc_law_regions.nd rfl (Or.inl rfl) (pe_callD G_law_take hr (by omega) rfl pass0 (pa_cons (pv 0) (pa_cons (pe_ix ix_list (pv 1) pe_int (fun _ _ => rfl)) pa_nil)))) (pss_cons (ps_set (i := 9) sc_law_regions.nd rfl (Or.inl rfl) (pe_op op_modN (pe_callTy call_int1 (by rfl) (b_int T) (by decide +kernel) (pa_cons (pe_op op_add (pe_op op_add (pv 8) pe_int) (pe_callD G_law_take hr (by omega) rfl pass0 (pa_cons (pv 0) (pa_cons (pe_op op_sub (pe_ix ix_list (pv 1) pe_int (fun _ _ => rfl)) pe_int) pa_nil)))) pa_nil)) (pe_ix ix_list (pv 1) pe_int (fun _ _ => rfl)))) (pss_one (ps_expr (pe_bm PySem.F.plainAttrs_list PySem.F.slot_list_append PySem.F.type_list_append mt_append (pv 3) (pa_cons (pe_tup (pa_cons (pv 5) (pa_cons (pv 6) (pa_cons (pv 7) (pa_cons (pv 8) (pa_cons (pv 9) pa_nil)))))) pa_nil)))))))))) (pss_one (ps_ret (pv 3))))), ?_⟩
  refine ⟨by show 0 ≤ sizeLine; decide, fun o ho => ?_⟩
  have offO := Off.of1 g ho
  have tn : Stp S0 H (upd H o (.lst [])) := Stp.new ho
  refine ⟨_, rfl, a, gr, 4, rfl, g.st0 tn, by decide, by decide, fun H1 cnt hcnt t1 g1 => ?_⟩
  refine ⟨(cnt : Int), rfl, by omega, by omega, for_range (lo := 0) (n := cnt) (fun j σ H' => Stp (SG a gr) H H' ∧ GS H' a gr ∧ ∃ (o4 o5 o6 o7 o8 o9 : Option V) (rvs : List V) (rgs : List Rg), σ = [some (.ref a), some (.ref sh), some (.int n), some (.ref o), o4, o5, o6, o7, o8, o9] ∧ H' o = some (.lst rvs) ∧ All2 (rgV H') rvs rgs ∧ rgs.length ≤ j ∧ (∀ r ∈ rgs, r.stop ≤ r.entry ∧ r.entry < n ∧ r.r1 < s'.regs ∧ r.r2 < s'.regs)) ⟨tn.z.trans t1, g1, none, none, none, none, none, none, [], [], rfl, offO.at t1 upd_same, All2.nil, Nat.le_refl _, fun r hr => by cases hr⟩ ?_ ?_⟩
  · rintro j σ H' hj ⟨st, g', o4, o5, o6, o7, o8, o9, rvs, rgs, rfl, hl, ha, hln, hok⟩
    refine ⟨_, rfl, _, rfl, _, _, rfl, rfl, a, gr, n - 1, ?_, g', by omega, by omega, fun H2 sa hsa t2 g2 => ?_⟩
    · rw [Int.ofNat_sub (by omega)]
      rfl
    refine ⟨_, rfl, _, _, rfl, rfl, _, rfl, _, rfl, _, _, rfl, rfl, _, rfl, _, _, rfl, rfl, a, gr, n - 1 - sa, ?_, g2, by omega, by omega, fun H3 sb hsb t3 g3 => ⟨_, _, rfl, rfl, ?_⟩⟩
    · rw [Int.ofNat_sub (by omega), Int.ofNat_sub (by omega)]
      rfl
    refine ⟨_, rfl, _, rfl, _, rfl, _, rfl, _, _, rfl, rfl, a, gr, n - (sa + 1 + sb), ?_, g3, by omega, by omega, fun H4 se hse t4 g4 => ⟨_, _, rfl, rfl, ?_⟩⟩
    · rw [Int.ofNat_sub (by omega)]
      rfl
    have hsh4 := off.at (st.trans (t2.trans (t3.trans t4))) hsh
    refine ⟨_, rfl, _, rfl, sh, _, _, _, rfl, rfl, SqL.of hsh4, rfl, a, gr, s'.regs, rfl, g4, by omega, by omega, fun H5 fi hfi t5 g5 => ?_⟩
    have hsh5 := off.at t5 hsh4
    refine ⟨_, rfl, _, _, rfl, rfl, _, rfl, _, rfl, sh, _, _, _, rfl, rfl, SqL.of hsh5, rfl, _, _, rfl, rfl, a, gr, s'.regs - 1, ?_, g5, by omega, by omega, fun H6 sd hsd t6 g6 => ?_⟩
    · rw [Int.ofNat_sub (by omega)]
      rfl
    have hsh6 := off.at t6 hsh5
    have nz : (s'.regs : Int) ≠ 0 := by omega
    obtain ⟨fs, hfs, hfs2⟩ := fmod_lt (x := ((fi : Int) + 1 + (sd : Int))) (n := s'.regs) (by omega)
    have T6 : Stp (SG a gr) H' H6 := t2.trans (t3.trans (t4.trans (t5.trans t6)))
    refine ⟨_, _, rfl, rfl, .inl ⟨_, rfl, _, rfl, sh, _, _, _, rfl, rfl, SqL.of hsh6, rfl, _, _, rfl, rfl, nz, ?_⟩⟩
    have hl6 := offO.at T6 hl
    refine ⟨_, rfl, .inl ⟨rfl, _, SqL.of hl6⟩, _, rfl, _, rfl, _, rfl, _, rfl, _, rfl, by show 5 ≤ sizeLine; decide, fun t ht => ?_⟩
    have tt : Stp S0 H6 (upd H6 t _) := Stp.new (o := .tup [.int (sa : Int), .int ((sa : Int) + 1 + sb), .int ((sa : Int) + 1 + sb + se), .int (fi : Int), .int (((fi : Int) + 1 + (sd : Int)).fmod s'.regs)]) ht
    have hl7 := tt.at hl6 fun z => z.elim
    have rg7 : rgV (upd H6 t (.tup [.int (sa : Int), .int ((sa : Int) + 1 + sb), .int ((sa : Int) + 1 + sb + se), .int (fi : Int), .int (((fi : Int) + 1 + (sd : Int)).fmod s'.regs)])) (.ref t) ⟨sa, sa + 1 + sb, sa + 1 + sb + se, fi, fs⟩ := ⟨t, rfl, by rw [upd_same, hfs]; rfl⟩
    refine ⟨o, _, _, rfl, rfl, hl7, Nat.lt_of_le_of_lt (by rw [ha.1]; omega) (small1000 (Nat.le_refl 1000)), ?_⟩
    have tp : Stp (fun z => z = o) (upd H6 t (.tup [.int (sa : Int), .int ((sa : Int) + 1 + sb), .int ((sa : Int) + 1 + sb + se), .int (fi : Int), .int (((fi : Int) + 1 + (sd : Int)).fmod s'.regs)])) _ := Stp.put (o' := .lst (rvs ++ [.ref t])) hl7 rfl nfrz_lst
    refine ⟨(st.trans (T6.trans tt.z)).over (.of ho), (g6.st0 tt).upF offO, _, _, _, _, _, _, _, rgs ++ [⟨sa, sa + 1 + sb, sa + 1 + sb + se, fi, fs⟩], rfl, upd_same, ((ha.mono fun _ _ y => ((y.st T6).st tt).st tp).snoc (rg7.st tp)), by rw [List.length_append]; exact Nat.succ_le_succ hln, fun r hr => ?_⟩
    rcases List.mem_append.mp hr with y | y
    · exact hok r y
    · rw [List.mem_singleton.mp y]
      exact ⟨Nat.le_add_right _ _, by show sa + 1 + sb + se < n; omega, hfi, hfs2⟩
  · rintro σ H' ⟨st, g', o4, o5, o6, o7, o8, o9, rvs, rgs, rfl, hl, ha, hln, hok⟩
    exact ⟨_, rfl, q H' o rvs rgs st g' hl offO ha ⟨hok, by omega⟩⟩
end
end WX
/-! ## WG7 -/
set_option Elab.async false
set_option linter.all false
set_option maxRecDepth 100000
set_option maxHeartbeats 4000000
/-! The generator: Unit and Module. -/
namespace WX
open PySem PySem.Spec PyProof.Rows L2 He
open Wn (Op Ar Ins Rg Un Mod Word wordB OpOk InsOk CellsOk anc)
local macro_rules | `(tactic| walk_at "new") => `(tactic| (intro p hp; generalize hG : upd _ p _ = H5; obtain ⟨s5, h5⟩ := gnew hG hp; clear hG))
theorem Stp.self {S : Addr → Prop} {H H' : Hp} {a : Addr} {o o' : HO} (h : Stp S H H') (e : H a = some o) (s : S a) (f : ¬ frz o) : Stp S H (upd H' a o') := ⟨fun b u eb q w => by
  by_cases z : b = a
  · rw [z, e] at eb
    cases eb
    exact absurd (q (z ▸ s)) f
  · rw [upd_ne z]
    exact h.to b u eb q w⟩
def spIniUn (K : PySem.W.Frag) : Sp := fun vs H Q _ => ∃ (a dx : Addr) (v1 v2 v3 v4 v5 v6 v7 : V), vs = [.ref a, v1, v2, v3, v4, v5, v6, v7] ∧ H a = some (.ins (ga K "Unit") dx []) ∧
  ∀ H', Stp (fun b => b = a) H H' → H' a = some (.ins (ga K "Unit") dx [("parent", v1), ("arguments", v2), ("results", v3), ("registers", v4), ("cells", v5), ("code", v6), ("regions", v7)]) → Q .non H'
def spIniMo (K : PySem.W.Frag) : Sp := fun vs H Q _ => ∃ (a dx : Addr) (v1 v2 v3 : V), vs = [.ref a, v1, v2, v3] ∧ H a = some (.ins (ga K "Module") dx []) ∧
  ∀ H', Stp (fun b => b = a) H H' → H' a = some (.ins (ga K "Module") dx [("units", v1), ("names", v2), ("places", v3)]) → Q .non H'
section
variable {P : Program} {w : World} {K : PySem.W.Frag} {mg : Str → Option Value} {base : Heap}
theorem ok_iniUn (T : Txt w K mg) : MDef P w K mg base CX0 1 "Unit" "__init__" ["self", "parent", "arguments", "results", "registers", "cells", "code", "regions"] (spIniUn K) := by
  refine D_Unit_init T (fun vs H Q E h => ?_) (fun cdv A outer s H vs Q E hr h => ?_)
  · obtain ⟨a, dx, v1, v2, v3, v4, v5, v6, v7, rfl, _⟩ := h
    rfl
  obtain ⟨a, dx, v1, v2, v3, v4, v5, v6, v7, rfl, ha, q⟩ := h
  refine ⟨_, (pss_cons (ps_fld (pv 0) (pv 1) rfl) (pss_cons (ps_fld (pv 0) (pv 2) rfl) (pss_cons (ps_fld (pv 0) (pv 3) rfl) (pss_cons (ps_fld (pv 0) (pv 4) rfl) (pss_cons (ps_fld (pv 0) (pv 5) rfl) (pss_cons (ps_fld (pv 0) (pv 6) rfl) (pss_one (ps_fld (pv 0) (pv 7) rfl)))))))), ?_⟩
  refine ⟨_, rfl, _, rfl, a, _, dx, _, rfl, ha, cl_Unit T, na_Unit_parent T, by show 0 < 1000; decide, ?_⟩
  refine ⟨_, rfl, _, rfl, a, _, dx, _, rfl, upd_same, cl_Unit T, na_Unit_arguments T, by show 1 < 1000; decide, ?_⟩
  refine ⟨_, rfl, _, rfl, a, _, dx, _, rfl, upd_same, cl_Unit T, na_Unit_results T, by show 2 < 1000; decide, ?_⟩
  refine ⟨_, rfl, _, rfl, a, _, dx, _, rfl, upd_same, cl_Unit T, na_Unit_registers T, by show 3 < 1000; decide, ?_⟩
  refine ⟨_, rfl, _, rfl, a, _, dx, _, rfl, upd_same, cl_Unit T, na_Unit_cells T, by show 4 < 1000; decide, ?_⟩
  refine ⟨_, rfl, _, rfl, a, _, dx, _, rfl, upd_same, cl_Unit T, na_Unit_code T, by show 5 < 1000; decide, ?_⟩
  refine ⟨_, rfl, _, rfl, a, _, dx, _, rfl, upd_same, cl_Unit T, na_Unit_regions T, by show 6 < 1000; decide, ?_⟩
  exact q _ (((((((Stp.put (S := fun b => b = a) ha rfl nfrz_nil).self ha rfl nfrz_nil).self ha rfl nfrz_nil).self ha rfl nfrz_nil).self ha rfl nfrz_nil).self ha rfl nfrz_nil).self ha rfl nfrz_nil) upd_same
theorem ok_iniMo (T : Txt w K mg) : MDef P w K mg base CX0 1 "Module" "__init__" ["self", "units", "names", "places"] (spIniMo K) := by
  refine D_Module_init T (fun vs H Q E h => ?_) (fun cdv A outer s H vs Q E hr h => ?_)
  · obtain ⟨a, dx, v1, v2, v3, rfl, _⟩ := h
    rfl
  obtain ⟨a, dx, v1, v2, v3, rfl, ha, q⟩ := h
  refine ⟨_, (pss_cons (ps_fld (pv 0) (pv 1) rfl) (pss_cons (ps_fld (pv 0) (pv 2) rfl) (pss_one (ps_fld (pv 0) (pv 3) rfl)))), ?_⟩
  refine ⟨_, rfl, _, rfl, a, _, dx, _, rfl, ha, cl_Module T, na_Module_units T, by show 0 < 1000; decide, ?_⟩
  refine ⟨_, rfl, _, rfl, a, _, dx, _, rfl, upd_same, cl_Module T, na_Module_names T, by show 1 < 1000; decide, ?_⟩
  refine ⟨_, rfl, _, rfl, a, _, dx, _, rfl, upd_same, cl_Module T, na_Module_places T, by show 2 < 1000; decide, ?_⟩
  exact q _ (((Stp.put (S := fun b => b = a) ha rfl nfrz_nil).self ha rfl nfrz_nil).self ha rfl nfrz_nil) upd_same
end
end WX
/-! ## WG8 -/
set_option Elab.async false
set_option linter.all false
set_option maxRecDepth 100000
set_option maxHeartbeats 4000000
/-! The generator: a unit. -/
namespace WX
open PySem PySem.Spec PyProof.Rows L2 He
open Wn (Op Ar Ins Rg Un Mod Word wordB OpOk InsOk CellsOk anc UnOk)
local macro_rules | `(tactic| walk_at "new") => `(tactic| (intro p hp; generalize hG : upd _ p _ = H5; obtain ⟨s5, h5⟩ := gnew hG hp; clear hG))
theorem rep_flatB (n : Nat) : ((List.replicate ((n : Int)).toNat [V.bl false]).flatten) = List.replicate n (V.bl false) := by
  rw [Int.toNat_natCast]
  induction n with
  | zero => rfl
  | succ n ih => rw [List.replicate_succ, List.replicate_succ, List.flatten_cons, ih]; rfl
/-- the code so far -/
structure CIv (H6 H' : Hp) (a gr cl : Addr) (m : Mod) (u : Nat) (U0 : Un) (tb : List Bool) (n : Nat) (cs : List V) (is : List Ins) : Prop where
  st : Stp (SG a gr) H6 H'
  g : GS H' a gr
  l : H' cl = some (.lst cs)
  al : All2 (insV H') cs is
  len : is.length = n
  ok : ∀ (i : Nat) x, is[i]? = some x → InsOk m u U0 i x
  tk : ∀ (t : Nat) x, is[t]? = some x → tb[t]? = some true → x = Ins.tick
theorem CIv.app {H6 H' H5 : Hp} {a gr cl : Addr} {m : Mod} {u n : Nat} {U0 : Un} {tb : List Bool} {cs : List V} {is : List Ins} (C : CIv H6 H' a gr cl m u U0 tb n cs is) (nc : New H6 cl) (oc : Off a gr cl)
    (t : Stp (SG a gr) H' H5) (g5 : GS H5 a gr) {v : V} {x : Ins} (hv : insV H5 v x) (ok : InsOk m u U0 n x) (hk : tb[n]? = some true → x = Ins.tick) :
    H5 cl = some (.lst cs) ∧ CIv H6 (upd H5 cl (.lst (cs ++ [v]))) a gr cl m u U0 tb (n + 1) (cs ++ [v]) (is ++ [x]) := by
  have h5 := oc.at t C.l
  have tp : Stp (fun z => z = cl) H5 (upd H5 cl (.lst (cs ++ [v]))) := Stp.put h5 rfl nfrz_lst
  refine ⟨h5, (C.st.trans t).over nc, g5.upF oc, upd_same, (C.al.mono fun _ _ y => (y.st t).st tp).snoc (hv.st tp), by rw [List.length_append, C.len]; rfl, fun i y hy => ?_, fun i y hy hb => ?_⟩
  · by_cases e : i < n
    · rw [List.getElem?_append_left (by rw [C.len]; exact e)] at hy
      exact C.ok i y hy
    · have h1 := (List.getElem?_eq_some_iff.mp hy).1
      rw [List.length_append, C.len, List.length_singleton] at h1
      obtain rfl : i = n := by omega
      rw [List.getElem?_append_right (by rw [C.len]; exact Nat.le_refl _), C.len, Nat.sub_self] at hy
      cases hy
      exact ok
  · by_cases e : i < n
    · rw [List.getElem?_append_left (by rw [C.len]; exact e)] at hy
      exact C.tk i y hy hb
    · have h1 := (List.getElem?_eq_some_iff.mp hy).1
      rw [List.length_append, C.len, List.length_singleton] at h1
      obtain rfl : i = n := by omega
      rw [List.getElem?_append_right (by rw [C.len]; exact Nat.le_refl _), C.len, Nat.sub_self] at hy
      cases hy
      exact hk hb
theorem insOk_to {m : Mod} {u i : Nat} {U U0 : Un} {x : Ins} (h : InsOk m u U0 i x) (e1 : U.regs = U0.regs) (e2 : U.nr = U0.nr) (e3 : U.code.length = U0.code.length) (e4 : ∀ t : Nat, U0.code[t]? = some Ins.tick → U.code[t]? = some Ins.tick) : InsOk m u U i x := by
  have tg : ∀ t, Wn.TgtOk U0 i t → Wn.TgtOk U i t := fun t z => ⟨by rw [e3]; exact z.1, z.2.imp id (e4 t)⟩
  cases x with
  | jump t => exact tg t h
  | branch x t => exact ⟨by rw [e1]; exact h.1, tg t h.2⟩
  | tick => exact True.intro
  | _ => first
    | (simp only [InsOk, e1, e2] at h ⊢; exact h)
    | (simp only [InsOk, e1, e2] at h ⊢)
    | exact h
def spUnit (K : PySem.W.Frag) : Sp := fun vs H Q _ => ∃ (a gr shs : Addr) (bs : List Addr) (ss : List Shp) (u : Nat) (s : Shp), vs = [.ref a, .ref shs, .int u] ∧ GS H a gr ∧ ShsAt H a gr shs bs ss ∧ SsOk ss ∧ ss[u]? = some s ∧
  ∀ H' v code rgs, Stp (SG a gr) H H' → GS H' a gr → unV K H' v (unS s code rgs) → UnOk (modS ss) u (unS s code rgs) → Q v H'
section
variable {P : Program} {w : World} {K : PySem.W.Frag} {mg : Str → Option Value} {base : Heap}
theorem ok_unit (T : Txt w K mg) : Def P w K mg base CX0 5 "_law_unit" ["_law_state", "_law_shapes_here", "_law_number"] (spUnit K) := by
  have G_law_take := ok_take (P := P) (base := base) T
  have G_law_operand := ok_operand (P := P) (base := base) T
  have G_law_regions := ok_regions (P := P) (base := base) T
  have G_law_instruction := ok_instr (P := P) (base := base) T
  have I_Unit := ok_iniUn (P := P) (base := base) T
  refine D_law_unit T (fun vs H Q E h => ?_) (fun cdv A outer s H vs Q E hr h => ?_)
  · obtain ⟨a, gr, shs, bs, ss, u, s, rfl, _⟩ := h
    rfl
  obtain ⟨a, gr, shs, bs, ss, u, s', rfl, g, S, SO, hu, q⟩ := h
  refine ⟨_, (pss_cons (ps_set (i := 3) sc_law_unit.nd rfl (Or.inr rfl) (pe_ix ix_list (pv 1) (pv 2) (fun _ _ => rfl))) (pss_cons (ps_set (i := 4) sc_law_unit.nd rfl (Or.inl rfl) (pe_op op_mul (pe_ix ix_list (pv 3) pe_int (fun _ _ => rfl)) (pe_callTy call_int1 (by rfl) (b_int T) (by decide +kernel) (pa_cons (pe_cmpR op_gt (pe_ix ix_list (pv 3) pe_int (fun _ _ => rfl)) pe_int (nomark _)) pa_nil)))) (pss_cons (ps_set (i := 5) sc_law_unit.nd rfl (Or.inl rfl) (pe_op op_add (pe_op op_add pe_int (pe_op op_mul pe_int (pv 4))) (pe_callD G_law_take hr (by omega) rfl pass0 (pa_cons (pv 0) (pa_cons pe_int pa_nil))))) (pss_cons (ps_set (i := 6) sc_law_unit.nd rfl (Or.inl rfl) (pe_op op_rep (pe_lst (pa_cons pe_bl pa_nil)) (pv 5))) (pss_cons (ps_asg pe_bl (pg_sub (pv 6) pe_int set_list)) (pss_cons (ps_for (L2.passes_of rfl) rfl (pi_range2 rfl (b_range T) (pa_cons (pe_op op_add pe_int (pv 4)) (pa_cons (pe_op op_sub (pe_op op_sub (pv 5) pe_int) (pv 4)) pa_nil))) (pg_name (i := 7) sc_law_unit.nd rfl (Or.inl rfl)) (pss_one (ps_asg (pe_cmpR op_eq (pe_callD G_law_take hr (by omega) rfl pass0 (pa_cons (pv 0) (pa_cons pe_int pa_nil))) pe_int (nomark _)) (pg_sub (pv 6) (pv 7) set_list)))) (pss_cons (ps_set (i := 8) sc_law_unit.nd rfl (Or.inl rfl) (pe_callD G_law_regions hr (by omega) rfl pass0 (pa_cons (pv 0) (pa_cons (pv 3) (pa_cons (pv 5) pa_nil))))) (pss_cons (ps_set (i := 9) sc_law_unit.nd rfl (Or.inl rfl) (pe_lst (pa_cons (pe_tup (pa_cons pe_str pa_nil)) pa_nil))) (pss_cons (ps_for (L2.passes_of rfl) rfl (pi_range2 rfl (b_range T) (pa_cons pe_int (pa_cons (pe_op op_sub (pv 5) pe_int) pa_nil))) (pg_name (i := 7) sc_law_unit.nd rfl (Or.inl rfl)) (pss_one (ps_if (pt_val (pe_ix ix_list (pv 6) (pv 7) (fun _ _ => rfl))) (pss_one (ps_expr (pe_bm PySem.F.plainAttrs_list PySem.F.slot_list_append PySem.F.type_list_append mt_append (pv 9) (pa_cons (pe_tup (pa_cons pe_str pa_nil)) pa_nil)))) (pss_one (ps_if (pt_cmpR op_le (pv 7) (pv 4) (nomark _)) (pss_one (ps_expr (pe_bm PySem.F.plainAttrs_list PySem.F.slot_list_append PySem.F.type_list_append mt_append (pv 9) (pa_cons (pe_tup (pa_cons pe_str (pa_cons (pe_op op_sub (pv 7) pe_int) (pa_cons (pe_tup (pa_cons pe_str (pa_cons (pe_op op_add pe_int (pv 7)) pa_nil))) pa_nil)))) pa_nil)))) (pss_one (ps_if (pt_cmpR op_ge (pv 7) (pe_op op_sub (pe_op op_sub (pv 5) pe_int) (pv 4)) (nomark _)) (pss_one (ps_expr (pe_bm PySem.F.plainAttrs_list PySem.F.slot_list_append PySem.F.type_list_append mt_append (pv 9) (pa_cons (pe_tup (pa_cons pe_str (pa_cons (pe_tup (pa_cons pe_str (pa_cons (pe_op op_add (pe_op op_add (pe_op op_sub (pv 7) (pv 5)) pe_int) (pv 4)) pa_nil))) pa_nil))) pa_nil)))) (pss_one (ps_expr (pe_bm PySem.F.plainAttrs_list PySem.F.slot_list_append PySem.F.type_list_append mt_append (pv 9) (pa_cons (pe_callD G_law_instruction hr (by omega) rfl pass0 (pa_cons (pv 0) (pa_cons (pv 1) (pa_cons (pv 2) (pa_cons (pv 7) (pa_cons (pv 6) (pa_cons (pv 8) pa_nil))))))) pa_nil))))))))))) (pss_cons (ps_expr (pe_bm PySem.F.plainAttrs_list PySem.F.slot_list_append PySem.F.type_list_append mt_append (pv 9) (pa_cons (pe_tup (pa_cons pe_str (pa_cons (pe_callTy call_tuple_of (by rfl) (b_tuple T) (by decide +kernel) (pa_cons (pe_lc (te := tCall spOperand [] E0 (tCons (tVar 0) (tCons (tVar 3) tNil))) (own := [("_law_k", 10)]) (g := gName 10) (tt := tYes) rfl sc_law_unit.nd (pi_range1 rfl (b_range T) (pa_cons (pe_ix ix_list (pv 3) pe_int (fun _ _ => rfl)) pa_nil)) (blkOk_by (own := [("_law_k", 10)]) (N := ["_law_state", "_law_shapes_here", "_law_number", "_law_shape", "_law_wide", "_law_size", "_law_ticks", "_law_index", "_law_regions_here", "_law_code", "_law_k"]) (sc := defScope st_law_unit) (by decide +kernel)) (fun _ _ _ _ _ => pg_name (i := 10) sc_law_unit.nd rfl (Or.inl rfl)) (fun _ _ _ _ _ => pts_nil) (fun _ _ _ _ _ => (pe_callD G_law_operand hr (by omega) rfl pass0 (pa_cons (pv 0) (pa_cons (pv 3) pa_nil))))) pa_nil)) pa_nil))) pa_nil))) (pss_one (ps_ret (pe_makeD I_Unit (mk_Unit T) (g_Unit T) hr (by omega) rfl pass0 (pa_cons (pe_ix ix_list (pv 3) pe_int (fun _ _ => rfl)) (pa_cons (pe_ix ix_list (pv 3) pe_int (fun _ _ => rfl)) (pa_cons (pe_ix ix_list (pv 3) pe_int (fun _ _ => rfl)) (pa_cons (pe_ix ix_list (pv 3) pe_int (fun _ _ => rfl)) (pa_cons (pe_ix ix_list (pv 3) pe_int (fun _ _ => rfl)) (pa_cons (pe_callTy call_tuple_of (by rfl) (b_tuple T) (by decide +kernel) (pa_cons (pv 9) pa_nil)) (pa_cons (pe_callTy call_tuple_of (by rfl) (b_tuple T) (by decide +kernel) (pa_cons (pv 8) pa_nil)) pa_nil)))))))))))))))))))), ?_⟩
  obtain ⟨b, hb1, hb2, hb3⟩ := S.get hu
  have B := SO.b s' (List.mem_of_getElem? hu)
  refine ⟨_, rfl, _, rfl, shs, _, _, _, rfl, rfl, SqL.of S.l, atI_nat hb1, ?_⟩
  have hm : CMul (s'.regs : Int) (if decide ((14 : Int) < s'.regs) = true then 1 else 0) := by
    split
    · exact .inr (by decide)
    · exact .inr (by decide)
  obtain ⟨wd, hwd, hwd2⟩ : ∃ wd : Nat, (s'.regs : Int) * (if decide ((14 : Int) < s'.regs) = true then 1 else 0) = (wd : Int) ∧ (wd = 0 ∨ wd = s'.regs) := by
    split
    · exact ⟨s'.regs, by omega, .inr rfl⟩
    · exact ⟨0, by omega, .inl rfl⟩
  refine ⟨_, rfl, b, _, _, _, rfl, rfl, SqL.of hb2, rfl, _, rfl, b, _, _, _, rfl, rfl, SqL.of hb2, rfl, _, _, rfl, rfl, .inr ⟨_, rfl, _, _, rfl, rfl, hm, ?_⟩⟩
  rw [show (fun i j : Int => V.int (i * j)) (s'.regs : Int) (if decide ((14 : Int) < s'.regs) = true then 1 else 0) = V.int (wd : Int) from congrArg V.int hwd]
  refine ⟨_, rfl, _, _, rfl, rfl, .inl (by decide), _, _, rfl, rfl, _, rfl, a, gr, 14, rfl, g, by decide, by decide, fun H1 d1 hd1 t1 g1 => ⟨_, _, rfl, rfl, ?_⟩⟩
  obtain ⟨sz, hsz, hsz2⟩ : ∃ sz : Nat, (4 : Int) + 2 * (wd : Int) + (d1 : Int) = (sz : Int) ∧ sz = 4 + 2 * wd + d1 := ⟨_, by omega, rfl⟩
  rw [show (fun i j : Int => V.int (i + j)) ((4 : Int) + 2 * (wd : Int)) (d1 : Int) = V.int (sz : Int) from congrArg V.int hsz]
  have S1 := S.st t1
  have b1 := hb3.at t1 hb2
  refine ⟨by show 1 ≤ sizeLine; decide, ?_⟩
  walk_at "new"; rename_i l1 nl1 H2 t2 hl1
  have sz61 : sz ≤ 100 := by omega
  refine ⟨_, rfl, l1, _, _, rfl, rfl, hl1, by omega, by omega, ?_, ?_⟩
  · rw [Int.toNat_natCast]
    exact big1000 (by simp only [List.length_singleton]; omega)
  walk_at "new"; rename_i tk ntk H3 t3 htk
  rw [rep_flatB] at htk
  have t13 := t2.trans t3
  have g3 := g1.st0 t13
  have offT : Off a gr tk := Off.of1 (g1.st0 t2) ntk
  have nk1 : New H1 tk := (New.of ntk).back t2
  have ltk : (List.replicate sz (V.bl false)).length = sz := List.length_replicate
  refine ⟨_, rfl, tk, _, 0, 0, rfl, rfl, htk, ixN_nat (j := 0) (by rw [ltk]; omega), ?_⟩
  have wl := hwd2.elim (fun z => show wd ≤ 40 by omega) (fun z => show wd ≤ 40 by omega)
  obtain ⟨H4, hG⟩ : ∃ H4, H4 = upd H3 tk (.lst ((List.replicate sz (V.bl false)).set 0 (.bl true))) := ⟨_, rfl⟩
  show tSeq _ _ _ _ (upd H3 tk (.lst ((List.replicate sz (V.bl false)).set 0 (.bl true))))
  rw [← hG]
  have t14 : Stp S0 H1 H4 := by rw [hG]; exact t13.over nk1
  have htk4 : H4 tk = some (.lst (((List.replicate sz false).set 0 true).map V.bl)) := by
    rw [hG, upd_same, List.map_set, List.map_replicate]
  have g4 : GS H4 a gr := g1.st0 t14
  refine ⟨_, rfl, _, _, rfl, rfl, _, rfl, _, _, rfl, rfl, _, rfl, _, _, rfl, rfl, (1 : Int) + wd, (sz : Int) - 1 - wd, rfl, ⟨by omega, by omega, by omega, by omega⟩, for_range (lo := (1 : Int) + wd) (n := ((sz : Int) - 1 - wd - (1 + wd)).toNat) (fun j σ H' => Stp (SG a gr) H1 H' ∧ GS H' a gr ∧ ∃ (o7 : Option V) (tb : List Bool), σ = [some (.ref a), some (.ref shs), some (.int u), some (.ref b), some (.int wd), some (.int sz), some (.ref tk), o7, none, none, none] ∧ H' tk = some (.lst (tb.map V.bl)) ∧ tb.length = sz ∧ tb[0]? = some true ∧ tb[sz - 1]? = some false) ⟨t14.z, g4, none, _, rfl, htk4, by rw [List.length_set, List.length_replicate], ?_, ?_⟩ ?_ ?_⟩
  · rw [List.getElem?_set_self (by rw [List.length_replicate]; omega)]
  · rw [List.getElem?_set_ne (by omega), List.getElem?_replicate, if_pos (by omega)]
  · rintro j σ H' hj ⟨st, g', o7, tb, rfl, htk', ltb, h0, hlast⟩
    refine ⟨_, rfl, a, gr, 5, rfl, g', by decide, by decide, fun H5 e he t5 g5 => ?_⟩
    have htk5 := offT.at t5 htk'
    have ix : 1 + wd + j < sz - 1 - wd := by omega
    refine ⟨rfl, _, rfl, _, rfl, tk, _, ((1 + wd + j : Nat) : Int), 1 + wd + j, rfl, rfl, htk5, ixN_nat (by rw [List.length_map]; omega), ?_⟩
    refine ⟨(st.trans t5).over nk1, g5.upF offT, _, tb.set (1 + wd + j) (decide (V.int (e : Int) = V.int 0)), rfl, ?_, by rw [List.length_set]; exact ltb, ?_, ?_⟩
    · rw [upd_same, List.map_set]
    · rw [List.getElem?_set_ne (by omega)]
      exact h0
    · rw [List.getElem?_set_ne (by omega)]
      exact hlast
  rintro σ H5 ⟨st5, g5, o7, tb, rfl, htk5, ltb, h0, hlast⟩
  have off4 := hb3
  have b5 := hb3.at st5 b1
  have S5 := S1.st st5
  refine ⟨_, rfl, _, rfl, _, rfl, a, gr, b, s', sz, rfl, g5, b5, hb3, by omega, by omega, by omega, by omega, fun H6 ro rvs rgs t6 g6 hro offR hra rok => ?_⟩
  have htk6 := offT.at t6 htk5
  refine ⟨by show 1 ≤ sizeLine; decide, fun tt htt => ⟨by show 1 ≤ sizeLine; decide, fun cl hcl => ?_⟩⟩
  have tn1 : Stp S0 H6 (upd H6 tt (.tup [.str "tick"])) := Stp.new htt
  have tn2 : Stp S0 (upd H6 tt (.tup [.str "tick"])) (upd (upd H6 tt (.tup [.str "tick"])) cl (.lst [.ref tt])) := Stp.new hcl
  have ncl : New H6 cl := (New.of hcl).back tn1
  have itk : insV (upd (upd H6 tt (.tup [.str "tick"])) cl (.lst [.ref tt])) (.ref tt) .tick := ⟨tt, [], rfl, tn2.tup upd_same, rfl⟩
  have hcl7 : (upd (upd H6 tt (.tup [.str "tick"])) cl (.lst [.ref tt])) cl = some (.lst [.ref tt]) := upd_same
  have t67 := tn1.trans tn2
  have offC : Off a gr cl := Off.of1 (g6.st0 tn1) hcl
  generalize (upd (upd H6 tt (.tup [.str "tick"])) cl (.lst [.ref tt])) = H7 at itk hcl7 t67 ⊢
  clear tn1 tn2
  obtain ⟨U0, hU0⟩ : ∃ U0, U0 = unS s' (tb.map fun t => if t = true then Ins.tick else .put (.int 0)) rgs := ⟨_, rfl⟩
  have C0 : CIv H6 H7 a gr cl (modS ss) u U0 tb 1 [.ref tt] [Ins.tick] := by
    refine ⟨t67.z, g6.st0 t67, hcl7, All2.cons itk All2.nil, rfl, fun i x hx => ?_, fun i x hx _ => ?_⟩
    · cases i with
      | zero => cases hx; exact True.intro
      | succ i => cases hx
    · cases i with
      | zero => cases hx; rfl
      | succ i => cases hx
  refine ⟨_, rfl, _, _, rfl, rfl, (1 : Int), (sz : Int) - 1, rfl, ⟨by omega, by omega, by omega, by omega⟩, for_range (lo := (1 : Int)) (n := ((sz : Int) - 1 - 1).toNat) (fun j σ H' => ∃ (o7 : Option V) (cs : List V) (is : List Ins), σ = [some (.ref a), some (.ref shs), some (.int u), some (.ref b), some (.int wd), some (.int sz), some (.ref tk), o7, some (.ref ro), some (.ref cl), none] ∧ CIv H6 H' a gr cl (modS ss) u U0 tb (1 + j) cs is) ⟨o7, _, _, rfl, C0⟩ ?_ ?_⟩
  · rintro j σ H' hj ⟨o7, cs, is, rfl, C⟩
    have jz : 1 + j < sz - 1 := by omega
    have htk' := offT.at C.st htk6
    have hb : (tb.map V.bl)[1 + j]? = some (.bl (tb[1 + j]'(by omega))) := by rw [List.getElem?_map, List.getElem?_eq_getElem (by omega)]; rfl
    have lU0 : U0.code.length = tb.length := by rw [hU0]; exact List.length_map _
    have tU0 : ∀ t : Nat, tb[t]? = some true → U0.code[t]? = some Ins.tick := fun t ht => by
      rw [hU0]
      show (tb.map fun t => if t = true then Ins.tick else .put (.int 0))[t]? = _
      rw [List.getElem?_map, ht]
      rfl
    have rU0 : U0.regs = s'.regs := by rw [hU0]; rfl
    have nU0 : U0.nr = s'.nr := by rw [hU0]; rfl
    have small : cs.length < sizeLine := Nat.lt_of_le_of_lt (by rw [C.al.1, C.len]; omega) (small1000 (Nat.le_refl 1000))
    have S' := (S5.st t6).st C.st
    refine ⟨_, rfl, _, rfl, tk, _, ((1 + j : Nat) : Int), .bl (tb[1 + j]'(by omega)), rfl, rfl, SqL.of htk', atI_nat hb, _, rfl, ?_⟩
    cases hbt : tb[1 + j]'(by omega) with
    | true =>
      refine if_true_of rfl ⟨_, rfl, .inl ⟨rfl, _, SqL.of C.l⟩, by show 1 ≤ sizeLine; decide, fun t ht => ?_⟩
      have tn : Stp S0 H' (upd H' t (.tup [.str "tick"])) := Stp.new ht
      obtain ⟨hl, C'⟩ := C.app ncl offC tn.z (C.g.st0 tn) (v := .ref t) (x := Ins.tick) ⟨t, [], rfl, upd_same, rfl⟩ True.intro (fun _ => rfl)
      exact ⟨cl, _, _, rfl, rfl, hl, small, _, _, _, rfl, C'⟩
    | false =>
      have hno : tb[1 + j]? = some true → ∀ x : Ins, x = Ins.tick := fun z => by
        rw [List.getElem?_eq_getElem (by omega), hbt] at z
        cases z
      refine if_false_of rfl ⟨_, rfl, _, rfl, _, _, rfl, rfl, _, rfl, ite2 (fun c => ?_) (fun c => ?_)⟩
      · have cc : (1 : Int) + j ≤ wd := of_decide_eq_true c
        refine ⟨_, rfl, .inl ⟨rfl, _, SqL.of C.l⟩, _, rfl, _, _, rfl, rfl, _, rfl, _, _, rfl, rfl, by show 2 ≤ sizeLine; decide, fun o1 ho1 => ⟨by show 3 ≤ sizeLine; decide, fun t ht => ?_⟩⟩
        have tn1 : Stp S0 H' (upd H' o1 (.tup [.str "int", .int (100 + (1 + (j : Int)))])) := Stp.new ho1
        have op1 : opV (upd H' o1 (.tup [.str "int", .int (100 + (1 + (j : Int)))])) (.ref o1) (.int (100 + (1 + (j : Int)))) := ⟨o1, rfl, upd_same⟩
        have tn2 : Stp S0 (upd H' o1 (.tup [.str "int", .int (100 + (1 + (j : Int)))])) (upd (upd H' o1 (.tup [.str "int", .int (100 + (1 + (j : Int)))])) t (.tup [.str "move", .int (1 + (j : Int) - 1), .ref o1])) := Stp.new ht
        have tn := tn1.trans tn2
        obtain ⟨hl, C'⟩ := C.app ncl offC tn.z (C.g.st0 tn) (v := .ref t) (x := .move j (.int (100 + (1 + (j : Int))))) ⟨t, _, rfl, upd_same, .ref o1, by rw [show (1 + (j : Int) - 1) = j by omega], op1.st tn2⟩ ⟨by rw [rU0]; omega, by constructor <;> omega⟩ (fun z => hno z _)
        exact ⟨cl, _, _, rfl, rfl, hl, small, _, _, _, rfl, C'⟩
      · refine ⟨_, rfl, _, rfl, _, _, rfl, rfl, _, rfl, _, _, rfl, rfl, _, _, rfl, rfl, _, rfl, ite2 (fun c' => ?_) (fun c' => ?_)⟩
        · have cc : (sz : Int) - 1 - wd ≤ (1 : Int) + j := of_decide_eq_true c'
          obtain ⟨rg, hrg, hrg2⟩ : ∃ rg : Nat, (1 + (j : Int)) - sz + 1 + wd = (rg : Int) ∧ rg < s'.regs := ⟨1 + j + 1 + wd - sz, by omega, by omega⟩
          refine ⟨_, rfl, .inl ⟨rfl, _, SqL.of C.l⟩, _, rfl, _, rfl, _, _, rfl, rfl, _, _, rfl, rfl, _, rfl, _, _, rfl, rfl, by show 2 ≤ sizeLine; decide, fun o1 ho1 => ⟨by show 2 ≤ sizeLine; decide, fun t ht => ?_⟩⟩
          have tn1 : Stp S0 H' (upd H' o1 (.tup [.str "reg", .int ((1 + (j : Int)) - sz + 1 + wd)])) := Stp.new ho1
          have op1 : opV (upd H' o1 (.tup [.str "reg", .int ((1 + (j : Int)) - sz + 1 + wd)])) (.ref o1) (.reg rg) := ⟨o1, rfl, by rw [upd_same, hrg]; rfl⟩
          have tn2 : Stp S0 (upd H' o1 (.tup [.str "reg", .int ((1 + (j : Int)) - sz + 1 + wd)])) (upd (upd H' o1 (.tup [.str "reg", .int ((1 + (j : Int)) - sz + 1 + wd)])) t (.tup [.str "put", .ref o1])) := Stp.new ht
          have tn := tn1.trans tn2
          obtain ⟨hl, C'⟩ := C.app ncl offC tn.z (C.g.st0 tn) (v := .ref t) (x := .put (.reg rg)) ⟨t, _, rfl, upd_same, .ref o1, rfl, op1.st tn2⟩ (by show rg < U0.regs; rw [rU0]; exact hrg2) (fun z => hno z _)
          exact ⟨cl, _, _, rfl, rfl, hl, small, _, _, _, rfl, C'⟩
        · refine ⟨_, rfl, .inl ⟨rfl, _, SqL.of C.l⟩, _, rfl, _, rfl, _, rfl, _, rfl, _, rfl, _, rfl, a, gr, shs, tk, ro, bs, ss, u, 1 + j, s', U0, tb, rgs, rvs, rfl, ?_, fun H9 v x t9 g9 hv hx => ?_⟩
          · exact { g := C.g, S := S', SO := SO, hu := hu, regs := rU0, nr := nU0, len := lU0, tick := tU0, tkH := htk', tkO := offT, rgH := offR.at C.st hro, rgO := offR, rgA := hra.mono fun _ _ z => z.st C.st, rgl := by have := rok.len; omega, rgk := fun r hr => ⟨(rok.ok r hr).2.2.1, (rok.ok r hr).2.2.2⟩, hi := by omega, tl := by omega }
          · obtain ⟨hl, C'⟩ := C.app ncl offC t9 g9 hv hx fun z => hno z x
            exact ⟨cl, _, _, rfl, rfl, hl, small, _, _, _, rfl, C'⟩
  rintro σ H8 ⟨o7', cs, is, rfl, C⟩
  have htk8 := offT.at C.st htk6
  have b8 := hb3.at C.st (hb3.at t6 b5)
  have S8 := (S5.st t6).st C.st
  have small : cs.length < sizeLine := Nat.lt_of_le_of_lt (by rw [C.al.1, C.len]; omega) (small1000 (Nat.le_refl 1000))
  refine ⟨_, rfl, .inl ⟨rfl, _, SqL.of C.l⟩, _, rfl, b, _, _, _, rfl, rfl, SqL.of b8, rfl, (s'.nr : Int), rfl, by omega, by omega, fun DG hDG => lc_opnds C.g b8 hb3 (by omega) (by omega) (n := s'.nr) (by omega) (i := 10) rfl rfl (by show 10 < 11; decide) (by decide) (by decide) hDG fun H9 vs xs t9 g9 hl9 ha hx ho => ?_⟩
  refine ⟨DG, _, rfl, .inl ⟨SqL.of hl9, fun og hog => ⟨by show 2 ≤ sizeLine; decide, fun t ht => ?_⟩⟩⟩
  have tog : Stp S0 H9 (upd H9 og (.tup vs)) := Stp.new hog
  have tt2 : Stp S0 (upd H9 og (.tup vs)) (upd (upd H9 og (.tup vs)) t (.tup [.str "return", .ref og])) := Stp.new ht
  have len1 : 1 + ((sz : Int) - 1 - 1).toNat = sz - 1 := by omega
  have t9' : Stp (SG a gr) H8 (upd (upd H9 og (.tup vs)) t (.tup [.str "return", .ref og])) := t9.trans (tog.z.trans tt2.z)
  obtain ⟨hl, C'⟩ := C.app ncl offC t9' ((g9.st0 tog).st0 tt2) (v := .ref t) (x := .ret xs) ⟨t, _, rfl, upd_same, og, rfl, vs, tt2.tup upd_same, ha.mono fun _ _ y => (y.st tog).st tt2⟩ ⟨by rw [hx, hU0]; rfl, by rw [hU0]; exact ho⟩ (fun z => by rw [len1, hlast] at z; cases z)
  refine ⟨cl, _, _, rfl, rfl, hl, small, ?_⟩
  generalize (upd (upd (upd H9 og (.tup vs)) t (.tup [.str "return", .ref og])) cl (.lst (cs ++ [.ref t]))) = H10 at C' ⊢
  generalize cs ++ [V.ref t] = cs' at C' ⊢
  have lastIs : ∀ (i : Nat) x, (is ++ [Ins.ret xs])[i]? = some x → i + 1 < (is ++ [Ins.ret xs]).length ∨ ∃ vs, x = .ret vs := fun i x hx => by
    have hlt := (List.getElem?_eq_some_iff.mp hx).1
    by_cases e : i + 1 < (is ++ [Ins.ret xs]).length
    · exact .inl e
    · rw [List.length_append, List.length_singleton] at hlt e
      obtain rfl : i = is.length := by omega
      rw [List.getElem?_append_right (Nat.le_refl _), Nat.sub_self] at hx
      cases hx
      exact .inr ⟨_, rfl⟩
  generalize is ++ [Ins.ret xs] = code at C' lastIs
  have lcode : code.length = sz := by rw [C'.len]; omega
  have b10 := hb3.at C'.st (hb3.at t6 b5)
  have hro10 := offR.at C'.st hro
  have hra10 := hra.mono fun _ _ z => z.st C'.st
  refine ⟨_, rfl, b, _, _, _, rfl, rfl, SqL.of b10, rfl, _, rfl, b, _, _, _, rfl, rfl, SqL.of b10, rfl, _, rfl, b, _, _, _, rfl, rfl, SqL.of b10, rfl, _, rfl, b, _, _, _, rfl, rfl, SqL.of b10, rfl, _, rfl, b, _, _, _, rfl, rfl, SqL.of b10, rfl, ?_⟩
  refine ⟨_, rfl, cl, _, rfl, .inl ⟨SqL.of C'.l, fun oc hoc => ?_⟩⟩
  have tc : Stp S0 H10 (upd H10 oc (.tup cs')) := Stp.new hoc
  refine ⟨_, rfl, ro, _, rfl, .inl ⟨SqL.of (tc.at hro10 fun z => z.elim), fun orr horr => ?_⟩⟩
  have tr : Stp S0 (upd H10 oc (.tup cs')) (upd (upd H10 oc (.tup cs')) orr (.tup rvs)) := Stp.new horr
  have hoc2 : (upd (upd H10 oc (.tup cs')) orr (.tup rvs)) oc = some (.tup cs') := tr.tup upd_same
  have hor2 : (upd (upd H10 oc (.tup cs')) orr (.tup rvs)) orr = some (.tup rvs) := upd_same
  have t12 := tc.trans tr
  generalize (upd (upd H10 oc (.tup cs')) orr (.tup rvs)) = H12 at hoc2 hor2 t12 ⊢
  intro x dx hxn hdxn hne
  have nx0 : upd H12 dx (.own x) x = none := by rw [upd_ne (Ne.symm hne)]; exact hxn
  have ta : Stp S0 H12 (upd (upd H12 dx (.own x)) x (.ins (ga K "Unit") dx [])) := (Stp.new hdxn).trans (Stp.new nx0)
  refine ⟨x, dx, _, _, _, _, _, _, _, rfl, upd_same, fun H13 tb2 hx13 => ⟨rfl, ?_⟩⟩
  have nx12 : New H12 x := .of hxn
  have t13' : Stp S0 H12 H13 := (ta.z.trans tb2).s0 fun b z => by rw [show b = x from z]; exact nx12
  have tAll : Stp S0 H10 H13 := t12.trans t13'
  refine q H13 _ code rgs (t1.trans (st5.trans (t6.trans (C'.st.trans tAll.z)))) (C'.g.st0 tAll) ⟨x, dx, _, oc, orr, cs', rvs, rfl, hx13, rfl, rfl, rfl, rfl, t13'.tup hoc2, t13'.tup hor2, C'.al.mono fun _ _ z => z.st tAll, hra10.mono fun _ _ z => z.st tAll⟩ ?_
  have tk' : ∀ t : Nat, tb[t]? = some true → code[t]? = some Ins.tick := fun t ht => by
    have hlt := (List.getElem?_eq_some_iff.mp ht).1
    have e := List.getElem?_eq_getElem (l := code) (i := t) (by omega)
    rw [e, C'.tk t _ e ht]
  refine ⟨tk' 0 h0, by show code.length ≤ 100; omega, fun i x hx => insOk_to (C'.ok i x hx) (by rw [hU0]; rfl) (by rw [hU0]; rfl) ?_ fun t ht => ?_, lastIs, B.2.2.1, by show s'.nr ≤ 100; omega, by show s'.regs ≤ 100; omega, by show s'.cells ≤ 100; omega, fun r hr => ?_⟩
  · rw [hU0]
    show code.length = (tb.map _).length
    rw [List.length_map, lcode, ltb]
  · rw [hU0] at ht
    refine tk' t ?_
    have ht' : (tb.map fun t => if t = true then Ins.tick else .put (.int 0))[t]? = some Ins.tick := ht
    rw [List.getElem?_map, Option.map_eq_some_iff] at ht'
    obtain ⟨y, hy, hy2⟩ := ht'
    cases y with
    | true => exact hy
    | false => cases hy2
  · obtain ⟨h1, h2, h3, h4⟩ := rok.ok r hr
    exact ⟨h1, by show r.entry < code.length; omega, h3, h4⟩
end
end WX
/-! ## WG9 -/
set_option Elab.async false
set_option linter.all false
set_option maxRecDepth 100000
set_option maxHeartbeats 4000000
/-! The generator: from the shapes' module to the module. -/
namespace WX
open PySem PySem.Spec PyProof.Rows L2 He
open Wn (Op Ar Ins Rg Un Mod Word wordB OpOk InsOk CellsOk anc UnOk ModOk)
/-- the head of a unit: all that anc, cells and calls read -/
def hdU (U : Un) : Int × Nat × Nat × Nat × Nat := (U.parent, U.na, U.nr, U.regs, U.cells)
theorem hd_get {m m' : Mod} (h : m.map hdU = m'.map hdU) {u : Nat} {U : Un} (e : m[u]? = some U) : ∃ U', m'[u]? = some U' ∧ hdU U = hdU U' := by
  have h1 : (m.map hdU)[u]? = (m'.map hdU)[u]? := by rw [h]
  rw [List.getElem?_map, List.getElem?_map, e] at h1
  cases e' : m'[u]? with
  | none => rw [e'] at h1; cases h1
  | some U' =>
    rw [e'] at h1
    exact ⟨U', rfl, Option.some.inj h1⟩
theorem hd_none {m m' : Mod} (h : m.map hdU = m'.map hdU) {u : Nat} (e : m[u]? = none) : m'[u]? = none := by
  have h1 : (m.map hdU)[u]? = (m'.map hdU)[u]? := by rw [h]
  rw [List.getElem?_map, List.getElem?_map, e] at h1
  cases e' : m'[u]? with
  | none => rfl
  | some U' => rw [e'] at h1; cases h1
theorem anc_hd {m m' : Mod} (h : m.map hdU = m'.map hdU) : ∀ (n u : Nat), Wn.anc m u n = Wn.anc m' u n
  | 0, u => rfl
  | n + 1, u => by
    simp only [Wn.anc]
    cases e : m[u]? with
    | none => rw [hd_none h e]
    | some U =>
      obtain ⟨U', e', hh⟩ := hd_get h e
      have hp : U.parent = U'.parent := congrArg Prod.fst hh
      rw [e']
      simp only [hp]
      rw [anc_hd h n]
theorem insOk_mod {m m' : Mod} (h : m.map hdU = m'.map hdU) {u i : Nat} {U : Un} {x : Ins} (ok : InsOk m u U i x) : InsOk m' u U i x := by
  have cel : ∀ a b c, CellsOk m u a b c → CellsOk m' u a b c := fun a b c z => by
    obtain ⟨u', U', h1, h2, h3⟩ := z
    obtain ⟨U2, e2, hh⟩ := hd_get h h2
    have hc : U'.cells = U2.cells := congrArg (fun z => z.2.2.2.2) hh
    exact ⟨u', U2, by rw [← anc_hd h]; exact h1, e2, by rw [← hc]; exact h3⟩
  cases x with
  | load d a b c y => exact ⟨ok.1, ok.2.1, cel _ _ _ ok.2.2⟩
  | store a b c y z => exact ⟨ok.1, ok.2.1, cel _ _ _ ok.2.2⟩
  | call v n as ds p =>
    obtain ⟨⟨U', h1, h2, h3, h4, h5⟩, h6⟩ := ok
    obtain ⟨U2, e2, hh⟩ := hd_get h h1
    have hp : U'.parent = U2.parent := congrArg (fun z => z.1) hh
    have ha : U'.na = U2.na := congrArg (fun z => z.2.1) hh
    have hr : U'.nr = U2.nr := congrArg (fun z => z.2.2.1) hh
    exact ⟨⟨U2, e2, by rw [← hp]; exact h2, by rw [← anc_hd h, ← hp]; exact h3, by rw [← ha]; exact h4, by rw [← hr]; exact h5⟩, h6⟩
  | _ => exact ok
theorem unOk_mod {m m' : Mod} (h : m.map hdU = m'.map hdU) {u : Nat} {U : Un} (ok : UnOk m u U) : UnOk m' u U := { ok with ins := fun i x e => insOk_mod h (ok.ins i x e) }
end WX
/-! ## WG10 -/
set_option Elab.async false
set_option linter.all false
set_option maxRecDepth 100000
set_option maxHeartbeats 4000000
/-! The generator: shapes. -/
namespace WX
open PySem PySem.Spec PyProof.Rows L2 He
open Wn (Op Ar Ins Rg Un Mod Word wordB OpOk InsOk CellsOk anc UnOk ModOk)
local macro_rules | `(tactic| walk_at "new") => `(tactic| (intro p hp; generalize hG : upd _ p _ = H5; obtain ⟨s5, h5⟩ := gnew hG hp; clear hG))
def spShapes : Sp := fun vs H Q _ => ∃ (a gr : Addr), vs = [.ref a] ∧ GS H a gr ∧ ∀ H' shs bs ss, Stp (SG a gr) H H' → GS H' a gr → ShsAt H' a gr shs bs ss → SsOk ss → 0 < ss.length → Q (.ref shs) H'
theorem SsOk.add {ss : List Shp} (S : SsOk ss) {s : Shp} (h : ss.length ≤ 3) (hr : ss.length = 0 → s.parent = -1 ∧ s.level = 0) (hu : 0 < ss.length → ∃ (p : Nat) (sp : Shp), s.parent = (p : Int) ∧ p < ss.length ∧ ss[p]? = some sp ∧ s.level = sp.level + 1)
    (hb : 3 ≤ s.regs ∧ s.regs ≤ 40 ∧ s.na ≤ s.regs ∧ s.nr ≤ 20 ∧ s.cells ≤ 20) : SsOk (ss ++ [s]) := by
  have at_ : ∀ (u : Nat) z, (ss ++ [s])[u]? = some z → (u < ss.length ∧ ss[u]? = some z) ∨ (u = ss.length ∧ z = s) := fun u z e => by
    by_cases c : u < ss.length
    · rw [List.getElem?_append_left c] at e
      exact .inl ⟨c, e⟩
    · have h1 := (List.getElem?_eq_some_iff.mp e).1
      rw [List.length_append, List.length_singleton] at h1
      obtain rfl : u = ss.length := by omega
      rw [List.getElem?_append_right (Nat.le_refl _), Nat.sub_self] at e
      cases e
      exact .inr ⟨rfl, rfl⟩
  refine ⟨fun z e => ?_, fun u z e hz => ?_, fun z hz => ?_, by rw [List.length_append, List.length_singleton]; omega⟩
  · rcases at_ 0 z e with ⟨_, e'⟩ | ⟨e', rfl⟩
    · exact S.root z e'
    · exact hr e'.symm
  · rcases at_ u z e with ⟨_, e'⟩ | ⟨e', rfl⟩
    · obtain ⟨p, sp, h1, h2, h3, h4⟩ := S.up u z e' hz
      exact ⟨p, sp, h1, h2, by rw [List.getElem?_append_left (List.getElem?_eq_some_iff.mp h3).1]; exact h3, h4⟩
    · obtain ⟨p, sp, h1, h2, h3, h4⟩ := hu (by omega)
      exact ⟨p, sp, h1, by omega, by rw [List.getElem?_append_left (List.getElem?_eq_some_iff.mp h3).1]; exact h3, h4⟩
  · rcases List.mem_append.mp hz with y | y
    · exact S.b z y
    · rw [List.mem_singleton.mp y]
      exact hb
theorem ShsAt.add {H5 : Hp} {a gr o cl : Addr} {bs : List Addr} {ss : List Shp} {s : Shp} (S : ShsAt H5 a gr o bs ss) (hno : ∀ b ∈ bs, b ≠ o) (g5 : GS H5 a gr) (hcl : H5 cl = none) {L : List V} (e : L = shL s) :
    (upd H5 cl (.lst L)) o = some (.lst (bs.map V.ref)) ∧ ShsAt (upd (upd H5 cl (.lst L)) o (.lst (bs.map V.ref ++ [.ref cl]))) a gr o (bs ++ [cl]) (ss ++ [s]) ∧ (∀ b ∈ bs ++ [cl], b ≠ o) ∧ GS (upd (upd H5 cl (.lst L)) o (.lst (bs.map V.ref ++ [.ref cl]))) a gr := by
  subst e
  have offC := Off.of1 g5 hcl
  have nco : cl ≠ o := fun z => by
    rw [z, S.l] at hcl
    cases hcl
  refine ⟨by rw [upd_ne (Ne.symm nco)]; exact S.l, ⟨by rw [upd_same, List.map_append]; rfl, ?_, S.off⟩, fun b hb => ?_, (g5.upF offC).upF S.off⟩
  · refine All2.snoc ⟨S.e.1, fun i b z h1 h2 => ?_⟩ ⟨by rw [upd_ne nco]; exact upd_same, offC⟩
    have hz := S.e.2 i b z h1 h2
    have nbc : b ≠ cl := fun y => by
      have := hz.1
      rw [y, hcl] at this
      cases this
    exact ⟨by rw [upd_ne (hno b (List.mem_of_getElem? h1)), upd_ne nbc]; exact hz.1, hz.2⟩
  · rcases List.mem_append.mp hb with y | y
    · exact hno b y
    · rw [List.mem_singleton.mp y]
      exact nco
section
variable {P : Program} {w : World} {K : PySem.W.Frag} {mg : Str → Option Value} {base : Heap}
theorem ok_shapes (T : Txt w K mg) : Def P w K mg base CX0 2 "_law_shapes" ["_law_state"] spShapes := by
  have G_law_take := ok_take (P := P) (base := base) T
  refine D_law_shapes T (fun vs H Q E h => ?_) (fun cdv A outer s H vs Q E hr h => ?_)
  · obtain ⟨a, gr, rfl, _⟩ := h
    rfl
  obtain ⟨a, gr, rfl, g, q⟩ := h
  refine ⟨_, (pss_cons (ps_set (i := 1) sc_law_shapes.nd rfl (Or.inl rfl) (pe_lst pa_nil)) (pss_cons (ps_set (i := 2) sc_law_shapes.nd rfl (Or.inl rfl) (pe_op op_mul pe_int (pe_callTy call_int1 (by rfl) (b_int T) (by decide +kernel) (pa_cons (pe_cmpR op_eq (pe_callD G_law_take hr (by omega) rfl pass0 (pa_cons (pv 0) (pa_cons pe_int pa_nil))) pe_int (nomark _)) pa_nil)))) (pss_cons (ps_for (L2.passes_of rfl) rfl (pi_range1 rfl (b_range T) (pa_cons (pe_op op_add pe_int (pe_callD G_law_take hr (by omega) rfl pass0 (pa_cons (pv 0) (pa_cons pe_int pa_nil)))) pa_nil)) (pg_name (i := 3) sc_law_shapes.nd rfl (Or.inl rfl)) (pss_cons (ps_set (i := 4) sc_law_shapes.nd rfl (Or.inl rfl) (pe_un un_neg pe_int)) (pss_cons (ps_set (i := 5) sc_law_shapes.nd rfl (Or.inl rfl) pe_int) (pss_cons (ps_set (i := 6) sc_law_shapes.nd rfl (Or.inl rfl) pe_int) (pss_cons (ps_set (i := 7) sc_law_shapes.nd rfl (Or.inl rfl) pe_int) (pss_cons (ps_if (pt_cmpR op_gt (pv 3) pe_int (nomark _)) (pss_cons (ps_set (i := 4) sc_law_shapes.nd rfl (Or.inl rfl) (pe_callD G_law_take hr (by omega) rfl pass0 (pa_cons (pv 0) (pa_cons (pv 3) pa_nil)))) (pss_cons (ps_set (i := 5) sc_law_shapes.nd rfl (Or.inl rfl) (pe_op op_add (pe_ix ix_list (pe_ix ix_list (pv 1) (pv 4) (fun _ _ => rfl)) pe_int (fun _ _ => rfl)) pe_int)) (pss_cons (ps_set (i := 6) sc_law_shapes.nd rfl (Or.inl rfl) (pe_callD G_law_take hr (by omega) rfl pass0 (pa_cons (pv 0) (pa_cons (pe_op op_add pe_int (pv 2)) pa_nil)))) (pss_one (ps_set (i := 7) sc_law_shapes.nd rfl (Or.inl rfl) (pe_callD G_law_take hr (by omega) rfl pass0 (pa_cons (pv 0) (pa_cons (pe_op op_add (pe_op op_add pe_int (pv 2)) (pe_op op_fdivN (pv 2) pe_int)) pa_nil)))))))) pss_nil) (pss_cons (ps_set (i := 8) sc_law_shapes.nd rfl (Or.inl rfl) (pe_op op_add (pe_op op_add (pe_op op_add pe_int (pv 2)) (pe_op op_fdivN (pv 2) pe_int)) (pe_callD G_law_take hr (by omega) rfl pass0 (pa_cons (pv 0) (pa_cons pe_int pa_nil))))) (pss_cons (ps_if (pt_cmpR op_eq (pe_callD G_law_take hr (by omega) rfl pass0 (pa_cons (pv 0) (pa_cons pe_int pa_nil))) pe_int (nomark _)) (pss_one (ps_set (i := 8) sc_law_shapes.nd rfl (Or.inl rfl) (pe_op op_add pe_int (pe_callD G_law_take hr (by omega) rfl pass0 (pa_cons (pv 0) (pa_cons pe_int pa_nil)))))) pss_nil) (pss_one (ps_expr (pe_bm PySem.F.plainAttrs_list PySem.F.slot_list_append PySem.F.type_list_append mt_append (pv 1) (pa_cons (pe_lst (pa_cons (pv 4) (pa_cons (pv 6) (pa_cons (pv 7) (pa_cons (pv 8) (pa_cons (pe_callD G_law_take hr (by omega) rfl pass0 (pa_cons (pv 0) (pa_cons pe_int pa_nil))) (pa_cons (pv 5) pa_nil))))))) pa_nil)))))))))))) (pss_one (ps_ret (pv 1)))))), ?_⟩
  refine ⟨by show 0 ≤ sizeLine; decide, fun o ho => ?_⟩
  have offO := Off.of1 g ho
  have tn : Stp S0 H (upd H o (.lst [])) := Stp.new ho
  refine ⟨_, rfl, a, gr, 4, rfl, g.st0 tn, by decide, by decide, fun H1 d1 hd1 t1 g1 => ⟨rfl, .inr ⟨_, rfl, _, _, rfl, rfl, .inl (by decide), ?_⟩⟩⟩
  obtain ⟨mr, hmr, hmr2⟩ : ∃ mr : Nat, (3 : Int) * (if decide (V.int (d1 : Int) = V.int 0) = true then 1 else 0) = (mr : Int) ∧ (mr = 0 ∨ mr = 3) := by
    split
    · exact ⟨3, rfl, .inr rfl⟩
    · exact ⟨0, rfl, .inl rfl⟩
  rw [show (fun i j : Int => V.int (i * j)) (3 : Int) (if decide (V.int (d1 : Int) = V.int 0) = true then 1 else 0) = V.int (mr : Int) from congrArg V.int hmr]
  obtain ⟨md, hmd, hmd2⟩ : ∃ md : Nat, (mr : Int).fdiv 3 = (md : Int) ∧ md ≤ 1 := by
    rcases hmr2 with rfl | rfl
    · exact ⟨0, rfl, by decide⟩
    · exact ⟨1, rfl, by decide⟩
  refine ⟨_, rfl, a, gr, 4, rfl, g1, by decide, by decide, fun H2 cnt hcnt t2 g2 => ⟨_, _, rfl, rfl, (1 : Int) + cnt, rfl, by omega, by omega, for_range (lo := 0) (n := ((1 : Int) + cnt).toNat) (fun j σ H' => ∃ (o3 o4 o5 o6 o7 o8 : Option V) (bs : List Addr) (ss : List Shp), σ = [some (.ref a), some (.ref o), some (.int mr), o3, o4, o5, o6, o7, o8] ∧ Stp (SG a gr) H H' ∧ GS H' a gr ∧ ShsAt H' a gr o bs ss ∧ (∀ b ∈ bs, b ≠ o) ∧ ss.length = j ∧ SsOk ss) ⟨none, none, none, none, none, none, [], [], rfl, tn.z.trans (t1.trans t2), g2, ⟨offO.at (t1.trans t2) upd_same, All2.nil, offO⟩, (fun b hb => by cases hb), rfl, ⟨fun s h => by simp at h, fun u s h => by simp at h, fun s h => by simp at h, by decide⟩⟩ ?_ ?_⟩⟩
  · rintro j σ H' hj ⟨o3, o4, o5, o6, o7, o8, bs, ss, rfl, st, g', S, hno, hlen, SO⟩
    rw [Int.zero_add]
    refine ⟨_, rfl, _, rfl, _, _, rfl, rfl, _, rfl, ?_⟩
    by_cases j0 : j = 0
    · refine if_false_of (decide_eq_false (by rw [j0]; decide)) ?_
      refine ⟨_, rfl, _, _, rfl, rfl, _, rfl, _, _, rfl, rfl, (by refine ⟨?_, ?_⟩ <;> first | decide | omega), _, _, rfl, rfl, _, rfl, a, gr, 7, rfl, g', by decide, by decide, fun HA rx hrx tA gA => ⟨_, _, rfl, rfl, ?_⟩⟩
      refine ⟨_, rfl, a, gr, 5, rfl, gA, by decide, by decide, fun HB cx hcx tB gB => ⟨rfl, _, rfl, ite2 (fun _ => ?_) (fun _ => ?_)⟩⟩
      · refine ⟨_, rfl, a, gr, 8, rfl, gB, by decide, by decide, fun HC r8 hr8 tC gC => ⟨_, _, rfl, rfl, ?_⟩⟩
        have small : (bs.map V.ref).length < sizeLine := Nat.lt_of_le_of_lt (by rw [List.length_map, S.e.1]; omega) (small1000 (Nat.le_refl 1000))
        have SC := S.st (tA.trans (tB.trans tC))
        refine ⟨_, rfl, .inl ⟨rfl, _, SqL.of SC.l⟩, _, rfl, _, rfl, _, rfl, _, rfl, _, rfl, a, gr, 5, rfl, gC, by decide, by decide, fun HD ce hce tD gD => ⟨_, rfl, by show 6 ≤ sizeLine; decide, fun cl hcl => ?_⟩⟩
        obtain ⟨hl, S', hno', g2'⟩ := ShsAt.add (s := ⟨-1, 0, 0, 15 + r8, ce, 0⟩) (SC.st tD) hno gD hcl (L := [.int (-1), .int 0, .int 0, .int (15 + (r8 : Int)), .int ce, .int 0]) (by simp [shL])
        refine ⟨o, _, _, rfl, rfl, hl, small, _, _, _, _, _, _, bs ++ [cl], ss ++ [⟨-1, 0, 0, 15 + r8, ce, 0⟩], rfl, ?_, g2', S', hno', by rw [List.length_append, hlen]; rfl, SO.add (by omega) (fun _ => ⟨rfl, rfl⟩) (fun z => by omega) ⟨by show 3 ≤ 15 + r8; omega, by show 15 + r8 ≤ 40; omega, Nat.zero_le _, Nat.zero_le _, by show ce ≤ 20; omega⟩⟩
        exact ((st.trans (tA.trans (tB.trans (tC.trans tD)))).trans (Stp.new hcl).z).over (.of ho)
      · have small : (bs.map V.ref).length < sizeLine := Nat.lt_of_le_of_lt (by rw [List.length_map, S.e.1]; omega) (small1000 (Nat.le_refl 1000))
        have SB := S.st (tA.trans tB)
        refine ⟨_, rfl, .inl ⟨rfl, _, SqL.of SB.l⟩, _, rfl, _, rfl, _, rfl, _, rfl, _, rfl, a, gr, 5, rfl, gB, by decide, by decide, fun HD ce hce tD gD => ⟨_, rfl, by show 6 ≤ sizeLine; decide, fun cl hcl => ?_⟩⟩
        obtain ⟨hl, S', hno', g2'⟩ := ShsAt.add (s := ⟨-1, 0, 0, 3 + mr + md + rx, ce, 0⟩) (SB.st tD) hno gD hcl (L := [.int (-1), .int 0, .int 0, .int (3 + (mr : Int) + (mr : Int).fdiv 3 + (rx : Int)), .int ce, .int 0]) (by rw [hmd]; simp [shL])
        refine ⟨o, _, _, rfl, rfl, hl, small, _, _, _, _, _, _, bs ++ [cl], ss ++ [⟨-1, 0, 0, 3 + mr + md + rx, ce, 0⟩], rfl, ?_, g2', S', hno', by rw [List.length_append, hlen]; rfl, SO.add (by omega) (fun _ => ⟨rfl, rfl⟩) (fun z => by omega) ⟨by show 3 ≤ 3 + mr + md + rx; omega, by show 3 + mr + md + rx ≤ 40; omega, Nat.zero_le _, Nat.zero_le _, by show ce ≤ 20; omega⟩⟩
        exact ((st.trans (tA.trans (tB.trans tD))).trans (Stp.new hcl).z).over (.of ho)
    · refine if_true_of (decide_eq_true (by omega)) ?_
      refine ⟨_, rfl, _, rfl, a, gr, j, rfl, g', by omega, by omega, fun HP p hp tP gP => ?_⟩
      obtain ⟨sp, hsp⟩ : ∃ sp, ss[p]? = some sp := ⟨_, List.getElem?_eq_getElem (by omega)⟩
      have SP := S.st tP
      obtain ⟨b, hb1, hb2, hb3⟩ := SP.get hsp
      refine ⟨_, rfl, _, rfl, o, _, _, _, rfl, rfl, SqL.of SP.l, atI_nat hb1, b, _, _, _, rfl, rfl, SqL.of hb2, rfl, _, _, rfl, rfl, ?_⟩
      refine ⟨_, rfl, _, rfl, _, _, rfl, rfl, a, gr, 4 + mr, (by simp), gP, by omega, by omega, fun HN na hna tN gN => ?_⟩
      refine ⟨_, rfl, _, rfl, _, _, rfl, rfl, _, rfl, _, _, rfl, rfl, (by refine ⟨?_, ?_⟩ <;> first | decide | omega), _, _, rfl, rfl, a, gr, 3 + mr + md, (by rw [hmd]; simp), gN, by omega, by omega, fun HR nr hnr tR gR => ?_⟩
      have tPR := tP.trans (tN.trans tR)
      have SR := S.st tPR
      refine ⟨_, rfl, _, _, rfl, rfl, _, rfl, _, _, rfl, rfl, (by refine ⟨?_, ?_⟩ <;> first | decide | omega), _, _, rfl, rfl, _, rfl, a, gr, 7, rfl, gR, by decide, by decide, fun HA rx hrx tA gA => ⟨_, _, rfl, rfl, ?_⟩⟩
      refine ⟨_, rfl, a, gr, 5, rfl, gA, by decide, by decide, fun HB cx hcx tB gB => ⟨rfl, _, rfl, ite2 (fun _ => ?_) (fun _ => ?_)⟩⟩
      · refine ⟨_, rfl, a, gr, 8, rfl, gB, by decide, by decide, fun HC r8 hr8 tC gC => ⟨_, _, rfl, rfl, ?_⟩⟩
        have small : (bs.map V.ref).length < sizeLine := Nat.lt_of_le_of_lt (by rw [List.length_map, S.e.1]; omega) (small1000 (Nat.le_refl 1000))
        have SC := SR.st (tA.trans (tB.trans tC))
        refine ⟨_, rfl, .inl ⟨rfl, _, SqL.of SC.l⟩, _, rfl, _, rfl, _, rfl, _, rfl, _, rfl, a, gr, 5, rfl, gC, by decide, by decide, fun HD ce hce tD gD => ⟨_, rfl, by show 6 ≤ sizeLine; decide, fun cl hcl => ?_⟩⟩
        obtain ⟨hl, S', hno', g2'⟩ := ShsAt.add (s := ⟨p, na, nr, 15 + r8, ce, sp.level + 1⟩) (SC.st tD) hno gD hcl (L := [.int p, .int na, .int nr, .int (15 + (r8 : Int)), .int ce, .int ((sp.level : Int) + 1)]) (by simp [shL])
        refine ⟨o, _, _, rfl, rfl, hl, small, _, _, _, _, _, _, bs ++ [cl], ss ++ [⟨p, na, nr, 15 + r8, ce, sp.level + 1⟩], rfl, ?_, g2', S', hno', by rw [List.length_append, hlen]; rfl, SO.add (by omega) (fun z => by omega) (fun _ => ⟨p, sp, rfl, by omega, hsp, rfl⟩) ⟨by show 3 ≤ 15 + r8; omega, by show 15 + r8 ≤ 40; omega, by show na ≤ 15 + r8; omega, by show nr ≤ 20; omega, by show ce ≤ 20; omega⟩⟩
        exact ((st.trans (tPR.trans (tA.trans (tB.trans (tC.trans tD))))).trans (Stp.new hcl).z).over (.of ho)
      · have small : (bs.map V.ref).length < sizeLine := Nat.lt_of_le_of_lt (by rw [List.length_map, S.e.1]; omega) (small1000 (Nat.le_refl 1000))
        have SB := SR.st (tA.trans tB)
        refine ⟨_, rfl, .inl ⟨rfl, _, SqL.of SB.l⟩, _, rfl, _, rfl, _, rfl, _, rfl, _, rfl, a, gr, 5, rfl, gB, by decide, by decide, fun HD ce hce tD gD => ⟨_, rfl, by show 6 ≤ sizeLine; decide, fun cl hcl => ?_⟩⟩
        obtain ⟨hl, S', hno', g2'⟩ := ShsAt.add (s := ⟨p, na, nr, 3 + mr + md + rx, ce, sp.level + 1⟩) (SB.st tD) hno gD hcl (L := [.int p, .int na, .int nr, .int (3 + (mr : Int) + (mr : Int).fdiv 3 + (rx : Int)), .int ce, .int ((sp.level : Int) + 1)]) (by rw [hmd]; simp [shL])
        refine ⟨o, _, _, rfl, rfl, hl, small, _, _, _, _, _, _, bs ++ [cl], ss ++ [⟨p, na, nr, 3 + mr + md + rx, ce, sp.level + 1⟩], rfl, ?_, g2', S', hno', by rw [List.length_append, hlen]; rfl, SO.add (by omega) (fun z => by omega) (fun _ => ⟨p, sp, rfl, by omega, hsp, rfl⟩) ⟨by show 3 ≤ 3 + mr + md + rx; omega, by show 3 + mr + md + rx ≤ 40; omega, by show na ≤ 3 + mr + md + rx; omega, by show nr ≤ 20; omega, by show ce ≤ 20; omega⟩⟩
        exact ((st.trans (tPR.trans (tA.trans (tB.trans tD)))).trans (Stp.new hcl).z).over (.of ho)
  · rintro σ H' ⟨o3, o4, o5, o6, o7, o8, bs, ss, rfl, st, g', S, hno, hlen, SO⟩
    exact ⟨_, rfl, q H' o bs ss st g' S SO (by omega)⟩
end
end WX
/-! ## WG11 -/
set_option Elab.async false
set_option linter.all false
set_option maxRecDepth 100000
set_option maxHeartbeats 4000000
/-! The generator: the draws' state. -/
namespace WX
open PySem PySem.Spec PyProof.Rows L2 He
open Wn (Op Ar Ins Rg Un Mod Word wordB OpOk InsOk CellsOk anc UnOk ModOk)
theorem SqL.st {K : PySem.W.Frag} {H H' : Hp} {a : Addr} {xs : List V} (h : SqL K H a xs) (s : Stp S0 H H') : SqL K H' a xs := by
  rcases h with (z | ⟨ow, z⟩) | z
  · exact .inl (.inl (s.at z fun y => y.elim))
  · exact .inl (.inr ⟨ow, s.at z fun y => y.elim⟩)
  · exact .inr z
def spStart (K : PySem.W.Frag) : Sp := fun vs H Q _ => ∃ (sc : Addr) (ns : List Int), vs = [.ref sc] ∧ SqL K H sc (ns.map V.int) ∧ ns.length ≤ 1000 ∧ ∀ H' a gr, Stp S0 H H' → GS H' a gr → New H a → New H gr → Q (.ref a) H'
section
variable {P : Program} {w : World} {K : PySem.W.Frag} {mg : Str → Option Value} {base : Heap}
theorem ok_start (T : Txt w K mg) : Def P w K mg base CX0 2 "_law_start" ["_law_script"] (spStart K) := by
  have G_law_take := ok_take (P := P) (base := base) T
  refine D_law_start T (fun vs H Q E h => ?_) (fun cdv A outer s H vs Q E hr h => ?_)
  · obtain ⟨sc, ns, rfl, _⟩ := h
    rfl
  obtain ⟨sc, ns, rfl, hsc, hns, q⟩ := h
  refine ⟨_, (pss_cons (ps_set (i := 1) sc_law_start.nd rfl (Or.inl rfl) (pe_lst pa_nil)) (pss_cons (ps_set (i := 2) sc_law_start.nd rfl (Or.inl rfl) pe_int) (pss_cons (ps_for (L2.passes_of rfl) rfl (pi_list (pv 0)) (pg_name (i := 3) sc_law_start.nd rfl (Or.inl rfl)) (pss_cons (ps_set (i := 2) sc_law_start.nd rfl (Or.inl rfl) (pe_op op_modN (pe_callTy call_int1 (by rfl) (b_int T) (by decide +kernel) (pa_cons (pe_op op_add (pe_op op_add (pe_op op_mul (pv 2) pe_int) (pv 3)) pe_int) pa_nil)) pe_int)) (pss_one (ps_if (pt_cmpR op_ge (pv 3) (pe_op op_pow pe_int pe_int) (nomark _)) (pss_one (ps_expr (pe_bm PySem.F.plainAttrs_list PySem.F.slot_list_append PySem.F.type_list_append mt_append (pv 1) (pa_cons (pv 3) pa_nil)))) pss_nil)))) (pss_cons (ps_set (i := 4) sc_law_start.nd rfl (Or.inl rfl) (pe_lst (pa_cons (pv 1) (pa_cons pe_int (pa_cons (pe_op op_add pe_int (pe_op op_modN (pe_callTy call_int1 (by rfl) (b_int T) (by decide +kernel) (pa_cons (pv 2) pa_nil)) pe_int)) (pa_cons pe_int (pa_cons pe_int (pa_cons pe_int (pa_cons pe_int (pa_cons pe_int (pa_cons pe_int (pa_cons pe_int (pa_cons pe_int pa_nil))))))))))))) (pss_cons (ps_asg (pe_op op_add pe_int (pe_callD G_law_take hr (by omega) rfl pass0 (pa_cons (pv 4) (pa_cons pe_int pa_nil)))) (pg_sub (pv 4) pe_int set_list)) (pss_cons (ps_asg (pe_callD G_law_take hr (by omega) rfl pass0 (pa_cons (pv 4) (pa_cons pe_int pa_nil))) (pg_sub (pv 4) pe_int set_list)) (pss_one (ps_ret (pv 4))))))))), ?_⟩
  refine ⟨by show 0 ≤ sizeLine; decide, fun o ho => ?_⟩
  have tn : Stp S0 H (upd H o (.lst [])) := Stp.new ho
  refine ⟨_, rfl, sc, rfl, ⟨_, SqL.st hsc tn⟩, ?_⟩
  refine for_list (xs := ns.map V.int) (fun j σ H' => ∃ (sd : Int) (o3 : Option V) (gs : List Int), σ = [some (.ref sc), some (.ref o), some (.int sd), o3, none] ∧ Stp S0 H H' ∧ H' o = some (.lst (gs.map V.int)) ∧ gs.length ≤ j) ⟨11, none, [], rfl, tn, upd_same, Nat.le_refl _⟩ (fun j σ H' _ p => by obtain ⟨_, _, _, _, st, _⟩ := p; exact SqL.st hsc st) ?_ ?_
  · rintro j x σ H' hx ⟨sd, o3, gs, rfl, st, hg, hl⟩
    obtain ⟨c, rfl⟩ : ∃ c : Int, x = .int c := by
      rw [List.getElem?_map, Option.map_eq_some_iff] at hx
      obtain ⟨c, _, e⟩ := hx
      exact ⟨c, e.symm⟩
    have hj : j < (ns.map V.int).length := (List.getElem?_eq_some_iff.mp hx).1
    rw [List.length_map] at hj
    refine ⟨_, rfl, _, _, rfl, rfl, .inr (by decide), _, rfl, _, _, rfl, rfl, _, _, rfl, rfl, .inl ⟨_, rfl, _, _, rfl, rfl, (by show (2147483647 : Int) ≠ 0; decide), ?_⟩⟩
    refine ⟨_, rfl, _, _, rfl, rfl, ⟨by decide, by decide, by decide⟩, _, _, rfl, rfl, _, rfl, ite2 (fun c => ?_) (fun c => ?_)⟩
    · refine ⟨_, rfl, .inl ⟨rfl, _, SqL.of hg⟩, _, rfl, o, _, _, rfl, rfl, hg, Nat.lt_of_le_of_lt (by rw [List.length_map]; omega) (small1000 (Nat.le_refl 1000)), _, _, gs ++ [_], rfl, st.over (.of ho), by rw [upd_same, List.map_append]; rfl, by rw [List.length_append, List.length_singleton]; omega⟩
    · exact ⟨_, _, gs, rfl, st, hg, by omega⟩
  · rintro σ H1 ⟨sd, o3, gs, rfl, st, hg, hl⟩
    refine ⟨_, rfl, _, rfl, .inl ⟨_, rfl, _, _, rfl, rfl, (by show (2147483600 : Int) ≠ 0; decide), _, _, rfl, rfl, by show 11 ≤ sizeLine; decide, fun a ha => ?_⟩⟩
    have tn2 : Stp S0 H1 (upd H1 a _) := Stp.new (o := .lst (.ref o :: ([0, 1 + sd.fmod 2147483600, 0, 0, 1, 1, 0, 0, 0, 0] : List Int).map V.int)) ha
    have nao : a ≠ o := fun z => by rw [z, hg] at ha; cases ha
    have g0 : GS _ a o := ⟨⟨[0, 1 + sd.fmod 2147483600, 0, 0, 1, 1, 0, 0, 0, 0], rfl, upd_same⟩, ⟨gs, tn2.at hg fun z => z.elim⟩⟩
    refine ⟨_, rfl, a, o, 900, rfl, g0, by decide, by decide, fun H3 d hd t3 g3 => ?_⟩
    obtain ⟨xs, lx, hs⟩ := g3.st
    refine ⟨_, _, rfl, rfl, _, rfl, a, _, 5, 5, rfl, rfl, hs, ixN_nat (j := 5) (by rw [List.length_cons, List.length_map, lx]; decide), ?_⟩
    obtain ⟨g4, t4, _⟩ := g3.put lx hs 4 (1 + (d : Int))
    refine ⟨_, rfl, a, o, 80, rfl, g4, by decide, by decide, fun H5 d5 hd5 t5 g5 => ?_⟩
    obtain ⟨ys, ly, hs5⟩ := g5.st
    refine ⟨_, rfl, a, _, 6, 6, rfl, rfl, hs5, ixN_nat (j := 6) (by rw [List.length_cons, List.length_map, ly]; decide), ?_⟩
    obtain ⟨g6, t6, _⟩ := g5.put ly hs5 5 (d5 : Int)
    have na : New H a := (New.of ha).back st
    refine ⟨_, rfl, q _ a o ?_ g6 na (.of ho)⟩
    refine (st.z.trans (tn2.z.trans (t3.trans (t4.trans (t5.trans t6))))).s0 fun b z => ?_
    rcases z with z | z
    · rw [z]; exact na
    · rw [z]; exact .of ho
end
end WX
/-! ## WG12 -/
set_option Elab.async false
set_option linter.all false
set_option maxRecDepth 100000
set_option maxHeartbeats 4000000
/-! The generator: the module. -/
namespace WX
open PySem PySem.Spec PyProof.Rows L2 He
open Wn (Op Ar Ins Rg Un Mod Word wordB OpOk InsOk CellsOk anc UnOk ModOk)
theorem get_snoc {α : Type} {l : List α} {x y : α} {i : Nat} (h : (l ++ [x])[i]? = some y) : l[i]? = some y ∨ (i = l.length ∧ y = x) := by
  by_cases c : i < l.length
  · rw [List.getElem?_append_left c] at h
    exact .inl h
  · have h1 := (List.getElem?_eq_some_iff.mp h).1
    rw [List.length_append, List.length_singleton] at h1
    obtain rfl : i = l.length := by omega
    rw [List.getElem?_append_right (Nat.le_refl _), Nat.sub_self] at h
    cases h
    exact .inr ⟨rfl, rfl⟩
theorem hd_mod {us : Mod} {ss : List Shp} (hl : us.length = ss.length) (h : ∀ (i : Nat) U, us[i]? = some U → ∃ s code rgs, ss[i]? = some s ∧ U = unS s code rgs ∧ UnOk (modS ss) i U) : us.map hdU = (modS ss).map hdU := by
  refine List.ext_getElem? fun i => ?_
  unfold modS
  rw [List.getElem?_map, List.getElem?_map, List.getElem?_map]
  cases e : us[i]? with
  | none =>
    have : ss[i]? = none := by
      rw [List.getElem?_eq_none_iff] at e ⊢
      omega
    rw [this]
    rfl
  | some U =>
    obtain ⟨s, code, rgs, h1, rfl, _⟩ := h i U e
    rw [h1]
    rfl
theorem modOk_of {us : Mod} {ss : List Shp} (hl : us.length = ss.length) (SO : SsOk ss) (ne : 0 < ss.length) (h : ∀ (i : Nat) U, us[i]? = some U → ∃ s code rgs, ss[i]? = some s ∧ U = unS s code rgs ∧ UnOk (modS ss) i U) : ModOk us := by
  have hm := hd_mod hl h
  refine ⟨fun u U hu => ?_, ?_⟩
  · obtain ⟨_, _, _, _, _, ok⟩ := h u U hu
    exact unOk_mod hm.symm ok
  · have hu : us[0]? = some (us[0]'(by omega)) := List.getElem?_eq_getElem (by omega)
    obtain ⟨s, code, rgs, h1, h2, _⟩ := h 0 _ hu
    refine ⟨_, hu, ?_⟩
    rw [h2]
    show s.parent < 0
    rw [(SO.root s h1).1]
    decide
theorem plV.st {S : Addr → Prop} {A B : Hp} (t : Stp S A B) {v : V} {p : Int × Int} (h : plV A v p) : plV B v p := by
  obtain ⟨x, q1, q2⟩ := h
  exact ⟨x, q1, t.tup q2⟩
def nms5 : List Str := ["constraint_error", "program_error", "storage_error", "end_error", "mine"]
def spModule (K : PySem.W.Frag) : Sp := fun vs H Q _ => ∃ (a gr : Addr), vs = [.ref a] ∧ GS H a gr ∧ ∀ H' mo m nms pls, Stp (SG a gr) H H' → GS H' a gr → moV K H' mo m nms pls → ModOk m → Q (.ref mo) H'
section
variable {P : Program} {w : World} {K : PySem.W.Frag} {mg : Str → Option Value} {base : Heap}
theorem ok_module (T : Txt w K mg) : Def P w K mg base CX0 6 "_law_module" ["_law_state"] (spModule K) := by
  have G_law_shapes := ok_shapes (P := P) (base := base) T
  have G_law_unit := ok_unit (P := P) (base := base) T
  have G_law_place := ok_place (P := P) (base := base) T
  have I_Module := ok_iniMo (P := P) (base := base) T
  refine D_law_module T (fun vs H Q E h => ?_) (fun cdv A outer s H vs Q E hr h => ?_)
  · obtain ⟨a, gr, rfl, _⟩ := h
    rfl
  obtain ⟨a, gr, rfl, g, q⟩ := h
  refine ⟨_, (pss_cons (ps_set (i := 1) sc_law_module.nd rfl (Or.inr rfl) (pe_callD G_law_shapes hr (by omega) rfl pass0 (pa_cons (pv 0) pa_nil))) (pss_cons (ps_setLc (te := tCall (spUnit K) [] E0 (tCons (tVar 0) (tCons (tVar 1) (tCons (tVar 3) tNil)))) (i := 2) (own := [("_law_number", 3)]) (g := gName 3) (tt := tYes) rfl sc_law_module.nd rfl rfl (sw_true rfl rfl rfl (by decide +kernel)) (pi_range1 rfl (b_range T) (pa_cons (pe_callB call_len_seq (by rfl) (b_len T) PySem.boot_len (pa_cons (pv 1) pa_nil)) pa_nil)) (blkOk_by (own := [("_law_number", 3)]) (N := ["_law_state", "_law_shapes_here", "_law_units", "_law_number", "_law_names", "_law_places", "_law_k"]) (sc := defScope st_law_module) (by decide +kernel)) (fun _ _ _ _ _ => pg_name (i := 3) sc_law_module.nd rfl (Or.inl rfl)) (fun _ _ _ _ _ => pts_nil) (fun _ _ _ _ _ => (pe_callD G_law_unit hr (by omega) rfl pass0 (pa_cons (pv 0) (pa_cons (pv 1) (pa_cons (pv 3) pa_nil)))))) (pss_cons (ps_set (i := 4) sc_law_module.nd rfl (Or.inl rfl) (pe_tup (pa_cons pe_str (pa_cons pe_str (pa_cons pe_str (pa_cons pe_str (pa_cons pe_str pa_nil))))))) (pss_cons (ps_set (i := 5) sc_law_module.nd rfl (Or.inl rfl) (pe_callTy call_tuple_of (by rfl) (b_tuple T) (by decide +kernel) (pa_cons (pe_lc (te := tCall spPlace [] E0 (tCons (tVar 0) tNil)) (own := [("_law_k", 6)]) (g := gName 6) (tt := tYes) rfl sc_law_module.nd (pi_range1 rfl (b_range T) (pa_cons pe_int pa_nil)) (blkOk_by (own := [("_law_k", 6)]) (N := ["_law_state", "_law_shapes_here", "_law_units", "_law_number", "_law_names", "_law_places", "_law_k"]) (sc := defScope st_law_module) (by decide +kernel)) (fun _ _ _ _ _ => pg_name (i := 6) sc_law_module.nd rfl (Or.inl rfl)) (fun _ _ _ _ _ => pts_nil) (fun _ _ _ _ _ => (pe_callD G_law_place hr (by omega) rfl pass0 (pa_cons (pv 0) pa_nil)))) pa_nil))) (pss_one (ps_ret (pe_makeD I_Module (mk_Module T) (g_Module T) hr (by omega) rfl pass0 (pa_cons (pe_callTy call_tuple_of (by rfl) (b_tuple T) (by decide +kernel) (pa_cons (pv 2) pa_nil)) (pa_cons (pv 4) (pa_cons (pv 5) pa_nil)))))))))), ?_⟩
  refine ⟨_, rfl, a, gr, rfl, g, fun H1 shs bs ss t1 g1 S SO ne => ?_⟩
  have lbs : (bs.map V.ref).length = ss.length := by rw [List.length_map, S.e.1]
  have hs4 := SO.len
  refine ⟨_, rfl, shs, _, rfl, .inl (SqL.of S.l), ((bs.map V.ref).length : Int), rfl, by omega, by omega, fun D hD => lc_range (lo := 0) (n := (bs.map V.ref).length) (fun j H' => Stp (SG a gr) H1 H' ∧ GS H' a gr ∧ ∃ vs us, H' D = some (.lst vs) ∧ All2 (unV K H') vs us ∧ us.length = j ∧ ∀ (i : Nat) U, us[i]? = some U → ∃ s code rgs, ss[i]? = some s ∧ U = unS s code rgs ∧ UnOk (modS ss) i U) ⟨Stp.new hD, g1.upF (Off.of1 g1 hD), [], [], upd_same, All2.nil, rfl, fun i U hi => by cases hi⟩ (fun j H' hj p => ?_) (fun H2 p => ?_)⟩
  · obtain ⟨st, g', vs, us, hl, hall, hlen, hus⟩ := p
    obtain ⟨s', hs'⟩ : ∃ s', ss[j]? = some s' := ⟨_, List.getElem?_eq_getElem (by omega)⟩
    rw [Int.zero_add]
    refine ⟨rfl, _, rfl, _, rfl, _, rfl, a, gr, shs, bs, ss, j, s', rfl, g', S.st st, SO, hs', fun H3 v code rgs t3 g3 hv hok => ?_⟩
    have offD := Off.of1 g1 hD
    have hlD := offD.at t3 hl
    have tp : Stp (fun z => z = D) H3 (upd H3 D (.lst (vs ++ [v]))) := Stp.put hlD rfl nfrz_lst
    refine ⟨vs, hlD, Nat.lt_of_le_of_lt (by rw [hall.1]; omega) (small1000 (Nat.le_refl 1000)), (st.trans t3).over (.of hD), g3.upF offD, vs ++ [v], us ++ [unS s' code rgs], upd_same, (hall.mono fun _ _ z => (z.st t3).st tp).snoc (hv.st tp), by rw [List.length_append, hlen]; rfl, fun i U hi => ?_⟩
    rcases get_snoc hi with y | ⟨y, z⟩
    · exact hus i U y
    · rw [hlen] at y
      subst y
      exact ⟨s', code, rgs, hs', z, z ▸ hok⟩
  · obtain ⟨st, g', vs, us, hl, hall, hlen, hus⟩ := p
    have okM : ModOk us := modOk_of (hlen.trans lbs) SO ne hus
    have offD := Off.of1 g1 hD
    refine ⟨by show 5 ≤ sizeLine; decide, fun n hn => ?_⟩
    have tn : Stp S0 H2 (upd H2 n (.tup (nms5.map V.str))) := Stp.new hn
    have g2 := g'.st0 tn
    have hn2 : (upd H2 n (.tup (nms5.map V.str))) n = some (.tup (nms5.map V.str)) := upd_same
    show tSeq _ _ _ _ (upd H2 n (.tup (nms5.map V.str)))
    generalize (upd H2 n (.tup (nms5.map V.str))) = H3 at tn g2 hn2 ⊢
    refine ⟨(5 : Int), rfl, by decide, by decide, fun DP hDP => lc_range (lo := 0) (n := 5) (fun j H' => Stp (SG a gr) H3 H' ∧ GS H' a gr ∧ ∃ vs ps, H' DP = some (.lst vs) ∧ All2 (plV H') vs ps ∧ ps.length = j) ⟨Stp.new hDP, g2.upF (Off.of1 g2 hDP), [], [], upd_same, All2.nil, rfl⟩ (fun j H' hj p => ?_) (fun H4 p => ?_)⟩
    · obtain ⟨st4, g4, vs4, ps, hl4, hall4, hlen4⟩ := p
      refine ⟨rfl, _, rfl, a, gr, rfl, g4, fun H5 v p t5 g5 hv => ?_⟩
      have offP := Off.of1 g2 hDP
      have hlP := offP.at t5 hl4
      have tp : Stp (fun z => z = DP) H5 (upd H5 DP (.lst (vs4 ++ [v]))) := Stp.put hlP rfl nfrz_lst
      exact ⟨vs4, hlP, Nat.lt_of_le_of_lt (by rw [hall4.1]; omega) (small1000 (Nat.le_refl 1000)), (st4.trans t5).over (.of hDP), g5.upF offP, vs4 ++ [v], ps ++ [p], upd_same, (hall4.mono fun _ _ z => plV.st tp (plV.st t5 z)).snoc (plV.st tp hv), by rw [List.length_append, hlen4]; rfl⟩
    · obtain ⟨st4, g4, vs4, ps, hl4, hall4, hlen4⟩ := p
      refine ⟨DP, _, rfl, .inl ⟨SqL.of hl4, fun pl hpl => ?_⟩⟩
      have tpl : Stp S0 H4 (upd H4 pl (.tup vs4)) := Stp.new hpl
      have hp6 : (upd H4 pl (.tup vs4)) pl = some (.tup vs4) := upd_same
      generalize (upd H4 pl (.tup vs4)) = H6 at tpl hp6 ⊢
      have t36 : Stp (SG a gr) H3 H6 := st4.trans tpl.z
      have hD6 : H6 D = some (.lst vs) := offD.at (tn.z.trans t36) hl
      refine ⟨_, rfl, D, _, rfl, .inl ⟨SqL.of hD6, fun tu htu => ?_⟩⟩
      have ttu : Stp S0 H6 (upd H6 tu (.tup vs)) := Stp.new htu
      have hu7 : (upd H6 tu (.tup vs)) tu = some (.tup vs) := upd_same
      refine ⟨_, rfl, _, rfl, ?_⟩
      generalize (upd H6 tu (.tup vs)) = H7 at ttu hu7 ⊢
      intro x dx hxn hdxn hne
      have nx0 : upd H7 dx (.own x) x = none := by rw [upd_ne (Ne.symm hne)]; exact hxn
      have ta : Stp S0 H7 (upd (upd H7 dx (.own x)) x (.ins (ga K "Module") dx [])) := (Stp.new hdxn).trans (Stp.new nx0)
      refine ⟨x, dx, _, _, _, rfl, upd_same, fun H8 tb hx8 => ⟨rfl, ?_⟩⟩
      have nx7 : New H7 x := .of hxn
      have t78 : Stp S0 H7 H8 := (ta.z.trans tb).s0 fun b z => by rw [show b = x from z]; exact nx7
      have tAll : Stp (SG a gr) H2 H8 := tn.z.trans (t36.trans (ttu.z.trans t78.z))
      have t48 : Stp S0 H4 H8 := tpl.trans (ttu.trans t78)
      refine q H8 x us nms5 ps (t1.trans (st.trans tAll)) (g4.st0 t48) ⟨dx, _, tu, n, pl, vs, vs4, ⟨hx8, rfl, rfl, rfl, t78.tup hu7, (t36.trans (ttu.z.trans t78.z)).tup hn2, (ttu.trans t78).tup hp6, hall.mono fun _ _ z => z.st tAll, hall4.mono fun _ _ z => plV.st t48 z, rfl, hlen4⟩⟩ okM
end
end WX
/-! ## WA1 -/
set_option Elab.async false
set_option linter.all false
set_option maxRecDepth 100000
set_option maxHeartbeats 4000000
/-! The law's comparison: like data give True. -/
namespace WX
open PySem PySem.Spec PyProof.Rows L2 He
open Wn (Op Ar Ins Rg Un Mod G Out Word)
theorem SqT.ty {K : PySem.W.Frag} {H : Hp} {a : Addr} {xs : List V} (h : SqT K H a xs) : TyX K H (.ref a) (.type "tuple") := by
  rcases h with (z | ⟨ow, z⟩) | ⟨oc, its, n, q, hc, _⟩
  · exact .base (.tup z)
  · exact .fTuple z
  · exact .kTuple q hc
/-- like data, n deep -/
def Alk (K : PySem.W.Frag) (H : Hp) : Nat → V → V → Prop
  | 0, _, _ => False
  | n + 1, v, d => (∃ s : Str, v = .str s ∧ d = .str s) ∨ (∃ i : Int, v = .int i ∧ d = .int i) ∨ ∃ (a b : Addr) (xs ys : List V), v = .ref a ∧ d = .ref b ∧ SqT K H a xs ∧ SqT K H b ys ∧ ys.length ≤ 10000000 ∧ All2 (Alk K H n) xs ys
def spAlike (K : PySem.W.Frag) (n : Nat) : Sp := fun vs H Q _ => ∃ v d, vs = [v, d] ∧ Alk K H n v d ∧ Q (.bl true) H
section
variable {P : Program} {w : World} {K : PySem.W.Frag} {mg : Str → Option Value} {base : Heap}
theorem ok_alike (T : Txt w K mg) (n : Nat) : Def P w K mg base CX0 (n + 1) "_law_alike" ["_law_answer", "_law_due"] (spAlike K n) := by
  induction n with
  | zero => exact D_law_alike T (k := 0) (fun vs H Q E h => by obtain ⟨_, _, _, h, _⟩ := h; exact h.elim) (fun cdv A outer s H vs Q E hr h => by obtain ⟨_, _, _, h, _⟩ := h; exact h.elim)
  | succ n ih =>
    have G_law_alike := ih
    refine D_law_alike T (k := n + 1) (fun vs H Q E h => ?_) (fun cdv A outer s H vs Q E hr h => ?_)
    · obtain ⟨v, d, rfl, _⟩ := h
      rfl
    obtain ⟨v, d, rfl, h, q⟩ := h
    refine ⟨_, (pss_cons (ps_if (pt_val (pe_callB call_isi (by rfl) (b_isinstance T) (by decide +kernel) (pa_cons (pv 1) (pa_cons (pe_bltn (v := .ty "tuple") (u := .type "tuple") rfl (b_tuple T) (by decide +kernel) rfl) pa_nil)))) (pss_cons (ps_if (PW.pt (pw_or (pt_not (pt_val (pe_callB call_isi (by rfl) (b_isinstance T) (by decide +kernel) (pa_cons (pv 0) (pa_cons (pe_bltn (v := .ty "tuple") (u := .type "tuple") rfl (b_tuple T) (by decide +kernel) rfl) pa_nil))))) (pw_or1 (pt_cmpR op_ne (pe_callB call_len_seq (by rfl) (b_len T) PySem.boot_len (pa_cons (pv 0) pa_nil)) (pe_callB call_len_seq (by rfl) (b_len T) PySem.boot_len (pa_cons (pv 1) pa_nil)) (nomark _))))) (pss_one (ps_ret pe_bl)) pss_nil) (pss_cons (ps_for (L2.passes_of rfl) rfl (pi_range1 rfl (b_range T) (pa_cons (pe_callB call_len_seq (by rfl) (b_len T) PySem.boot_len (pa_cons (pv 1) pa_nil)) pa_nil)) (pg_name (i := 2) sc_law_alike.nd rfl (Or.inl rfl)) (pss_one (ps_if (pt_not (pt_val (pe_callD G_law_alike hr (by omega) rfl pass0 (pa_cons (pe_ix ix_tup (pv 0) (pv 2) (fun _ _ => rfl)) (pa_cons (pe_ix ix_tup (pv 1) (pv 2) (fun _ _ => rfl)) pa_nil))))) (pss_one (ps_ret pe_bl)) pss_nil))) (pss_one (ps_ret pe_bl)))) pss_nil) (pss_cons (ps_if (pt_val (pe_callB call_isi (by rfl) (b_isinstance T) (by decide +kernel) (pa_cons (pv 1) (pa_cons (pe_bltn (v := .ty "str") (u := .type "str") rfl (b_str T) (by decide +kernel) rfl) pa_nil)))) (pss_one (ps_ret (pe_and (pe_callB call_isi (by rfl) (b_isinstance T) (by decide +kernel) (pa_cons (pv 0) (pa_cons (pe_bltn (v := .ty "str") (u := .type "str") rfl (b_str T) (by decide +kernel) rfl) pa_nil))) (pe_one (pe_cmpR op_eq (pv 0) (pv 1) (nomark _)))))) pss_nil) (pss_one (ps_ret (pe_and (pe_callB call_isi (by rfl) (b_isinstance T) (by decide +kernel) (pa_cons (pv 0) (pa_cons (pe_bltn (v := .ty "int") (u := .type "int") rfl (b_int T) (by decide +kernel) rfl) pa_nil))) (pe_and (pe_not (pe_callB call_isi (by rfl) (b_isinstance T) (by decide +kernel) (pa_cons (pv 0) (pa_cons (pe_bltn (v := .ty "bool") (u := .type "bool") rfl (b_bool T) (by decide +kernel) rfl) pa_nil)))) (pe_one (pe_cmpR op_eq (pv 0) (pv 1) (nomark _))))))))), ?_⟩
    rcases h with ⟨x, rfl, rfl⟩ | ⟨i, rfl, rfl⟩ | ⟨a, b, xs, ys, rfl, rfl, ha, hb, hl, hall⟩
    · refine ⟨_, rfl, .str x, .ty "tuple", .type "str", .type "tuple", false, rfl, .ty _, .base (.str x), kit_ty (by decide +kernel), _, rfl, if_false_of rfl ?_⟩
      refine ⟨_, rfl, .str x, .ty "str", .type "str", .type "str", true, rfl, .ty _, .base (.str x), kit_ty (by decide +kernel), _, rfl, if_true_of rfl ?_⟩
      refine ⟨_, rfl, .str x, .ty "str", .type "str", .type "str", true, rfl, .ty _, .base (.str x), kit_ty (by decide +kernel), _, rfl, if_true_of rfl ⟨_, rfl, _, rfl, rfl, ?_⟩⟩
      rw [decide_eq_true rfl]
      exact q
    · refine ⟨_, rfl, .int i, .ty "tuple", .type "int", .type "tuple", false, rfl, .ty _, .base (.int i), kit_ty (by decide +kernel), _, rfl, if_false_of rfl ?_⟩
      refine ⟨_, rfl, .int i, .ty "str", .type "int", .type "str", false, rfl, .ty _, .base (.int i), kit_ty (by decide +kernel), _, rfl, if_false_of rfl ?_⟩
      refine ⟨_, rfl, .int i, .ty "int", .type "int", .type "int", true, rfl, .ty _, .base (.int i), kit_ty (by decide +kernel), _, rfl, if_true_of rfl ?_⟩
      refine ⟨_, rfl, .int i, .ty "bool", .type "int", .type "bool", false, rfl, .ty _, .base (.int i), kit_ty (by decide +kernel), ?_⟩
      refine ⟨_, rfl, _, rfl, if_true_of rfl ⟨_, rfl, _, rfl, rfl, ?_⟩⟩
      rw [decide_eq_true rfl]
      exact q
    · refine ⟨_, rfl, .ref b, .ty "tuple", .type "tuple", .type "tuple", true, rfl, .ty _, SqT.ty hb, kit_ty (by decide +kernel), _, rfl, if_true_of rfl ?_⟩
      refine ⟨_, rfl, .ref a, .ty "tuple", .type "tuple", .type "tuple", true, rfl, .ty _, SqT.ty ha, kit_ty (by decide +kernel), _, rfl, if_false_of rfl ?_⟩
      have el : (!decide (V.int (xs.length : Int) = V.int (ys.length : Int))) = false := by rw [hall.1, decide_eq_true rfl]; rfl
      refine ⟨_, rfl, a, xs, rfl, .inr ha, _, rfl, b, ys, rfl, .inr hb, rfl, _, rfl, if_false_of el ?_⟩
      refine ⟨_, rfl, b, ys, rfl, .inr hb, (ys.length : Int), rfl, by omega, by omega, for_range (lo := 0) (n := ys.length) (fun j σ H' => ∃ o, σ = [some (.ref a), some (.ref b), o] ∧ H' = H) ⟨none, rfl, rfl⟩ ?_ ?_⟩
      · rintro j σ H' hj ⟨o, rfl, rfl⟩
        rw [Int.zero_add]
        have e1 : xs[j]? = some (xs[j]'(by rw [hall.1]; exact hj)) := List.getElem?_eq_getElem _
        have e2 : ys[j]? = some (ys[j]'hj) := List.getElem?_eq_getElem _
        refine ⟨_, rfl, _, rfl, a, _, _, _, rfl, rfl, ha, atI_nat e1, _, rfl, _, rfl, b, _, _, _, rfl, rfl, hb, atI_nat e2, _, _, rfl, hall.2 j _ _ e1 e2, _, rfl, if_false_of rfl ⟨_, rfl, rfl⟩⟩
      · rintro σ H' ⟨o, rfl, rfl⟩
        exact q
end
end WX
/-! ## WA2 -/
set_option Elab.async false
set_option linter.all false
set_option maxRecDepth 100000
set_option maxHeartbeats 4000000
/-! The law. -/
namespace WX
open PySem PySem.Spec PyProof.Rows L2 He
open Wn (Op Ar Ins Rg Un Mod G Out Word EnvOk ModOk UnOk mu)
local macro_rules | `(tactic| walk_at "new") => `(tactic| (intro p hp; generalize hG : upd _ p _ = H5; obtain ⟨s5, h5⟩ := gnew hG hp; clear hG))
theorem All2.both {α β γ : Type} {R : α → β → Prop} {S : γ → β → Prop} {T : α → γ → Prop} {l : List α} {m : List β} {k : List γ} (h1 : All2 R l m) (h2 : All2 S k m) (f : ∀ a b c, R a b → S c b → T a c) : All2 T l k := by
  refine ⟨h1.1.trans h2.1.symm, fun i a c e1 e2 => ?_⟩
  have hi : i < m.length := by rw [← h1.1]; exact (List.getElem?_eq_some_iff.mp e1).1
  exact f a _ c (h1.2 i a _ e1 (List.getElem?_eq_getElem hi)) (h2.2 i c _ e2 (List.getElem?_eq_getElem hi))
theorem All2.rfl' {α : Type} {R : α → α → Prop} {l : List α} (f : ∀ x ∈ l, R x x) : All2 R l l := ⟨rfl, fun i a b e1 e2 => by
  rw [e1] at e2
  cases e2
  exact f a (List.mem_of_getElem? e1)⟩
section
variable {K : PySem.W.Frag} {H : Hp}
theorem alk_int {n : Nat} (i : Int) : Alk K H (n + 1) (.int i) (.int i) := .inr (.inl ⟨i, rfl, rfl⟩)
theorem alk_str {n : Nat} (x : Str) : Alk K H (n + 1) (.str x) (.str x) := .inl ⟨x, rfl, rfl⟩
theorem alk_tup {n : Nat} {a b : Addr} {xs ys : List V} (h1 : SqT K H a xs) (h2 : SqT K H b ys) (hl : ys.length ≤ 10000000) (h : All2 (Alk K H n) xs ys) : Alk K H (n + 1) (.ref a) (.ref b) := .inr (.inr ⟨a, b, xs, ys, rfl, rfl, h1, h2, hl, h⟩)
theorem alk_ev {n : Nat} {v d : V} {x : Bool × Int} (h1 : evV H v x) (h2 : evV H d x) : Alk K H (n + 2) v d := by
  obtain ⟨a, rfl, ha⟩ := h1
  obtain ⟨b, rfl, hb⟩ := h2
  exact alk_tup (.inl (.inl ha)) (.inl (.inl hb)) (by show 2 ≤ 10000000; decide) (All2.cons (alk_str _) (All2.cons (alk_int _) All2.nil))
theorem alk_sn {n : Nat} {v d : V} {x : Nat × Nat × List Int} (hx : x.2.2.length ≤ 10000000) (h1 : snV H v x) (h2 : snV H d x) : Alk K H (n + 3) v d := by
  obtain ⟨a, a2, rfl, ha, ha2⟩ := h1
  obtain ⟨b, b2, rfl, hb, hb2⟩ := h2
  refine alk_tup (.inl (.inl ha)) (.inl (.inl hb)) (by show 3 ≤ 10000000; decide) (All2.cons (alk_int _) (All2.cons (alk_int _) (All2.cons (alk_tup (.inl (.inl ha2)) (.inl (.inl hb2)) (by rw [List.length_map]; exact hx) (All2.rfl' fun z hz => ?_)) All2.nil)))
  obtain ⟨i, _, rfl⟩ := List.mem_map.mp hz
  exact alk_int i
theorem alk_end {n : Nat} (nms : List Str) (pls : List (Int × Int)) (o : Out) : All2 (Alk K H (n + 1)) (endL nms pls o) (endL nms pls o) := by
  cases o with
  | exc k q => exact All2.cons (alk_str _) (All2.cons (alk_str _) (All2.cons (alk_int _) (All2.cons (alk_int _) All2.nil)))
  | _ => exact All2.cons (alk_str _) All2.nil
theorem endL_len (nms : List Str) (pls : List (Int × Int)) (o : Out) : (endL nms pls o).length ≤ 10000000 := by
  cases o with
  | exc k q => show 4 ≤ 10000000; decide
  | _ => show 1 ≤ 10000000; decide
end
theorem whole_ex {m : Mod} {ins : List Int} {fuel : Nat} (hE : EnvOk ⟨m, ins⟩) (hf : fuel ≤ 100) : ∃ o g, Whole m ins fuel o g ∧ Wn.SeenOk g ∧ g.evs.length ≤ 25600 := by
  obtain ⟨U, hU, hpar⟩ := hE.m.main
  have hU : m[0]? = some U := hU
  have UO := hE.m.un 0 U hU
  have okS : Wn.StOk ⟨m, ins⟩ 0 [0] (g0 U fuel) (List.replicate U.regs 0) := by
    refine ⟨⟨U, hU, List.length_replicate⟩, Wn.words_rep _, fun c hc => ?_, ?_, by show 1 ≤ 10; decide⟩
    · rw [List.mem_singleton.mp hc]
      exact Wn.words_rep _
    · refine ⟨U, hU, ?_, ?_⟩
      · show (some (List.replicate U.cells (0 : Int)).length : Option Nat) = some U.cells
        rw [List.length_replicate]
      · rw [if_pos hpar]
  have mu0 := Wn.mu_start UO fuel
  have hm : mu U fuel 0 < 50000 := by rw [mu0]; omega
  have h0 := (List.getElem?_eq_some_iff.mp UO.tick).1
  obtain ⟨⟨o, g⟩, hr, _, hp⟩ := Wn.run_pot hE 50000 0 0 [0] (g0 U fuel) _ U okS hU h0 hm
  refine ⟨o, g, ⟨U, hU, hr⟩, Wn.run_seen hE 50000 0 0 [0] (g0 U fuel) _ U okS hU h0 hm (fun x hx => by cases hx) _ hr, ?_⟩
  have hp2 : g.evs.length + 256 * g.fuel ≤ 0 + mu U fuel 0 := hp
  rw [mu0] at hp2
  omega
theorem eqv_ints : ∀ l : List Int, PyData.eqvAll (l.map PyData.int) (l.map PyData.int) = true
  | [] => rfl
  | i :: l => by simp [PyData.eqvAll, PyData.eqv, eqv_ints l]
theorem ne_ints (l : List Int) : (!PyData.eqv (.list (l.map PyData.int)) (.list (l.map PyData.int))) = false := by
  simp [PyData.eqv, eqv_ints l]
/-- the two events' tuples, the two endings -/
theorem alk_run {K : PySem.W.Frag} {H : Hp} {t ea pa du te e : Addr} {l l' : List V} {nms : List Str} {pls : List (Int × Int)} {o : Out} {evs : List (Bool × Int)} (ht : H t = some (.tup [.ref ea, .ref pa])) (hea : H ea = some (.tup l)) (hl : All2 (evV H) l evs) (hpa : SqT K H pa (endL nms pls o))
    (hdu : H du = some (.tup [.ref te, .ref e])) (hte : H te = some (.tup l')) (hl' : All2 (evV H) l' evs) (he : H e = some (.tup (endL nms pls o))) (hn : evs.length ≤ 25600) : Alk K H 4 (.ref t) (.ref du) :=
  alk_tup (.inl (.inl ht)) (.inl (.inl hdu)) (by show 2 ≤ 10000000; decide) (All2.cons (alk_tup (.inl (.inl hea)) (.inl (.inl hte)) (by rw [hl'.1]; omega) (hl.both hl' fun _ _ _ y z => alk_ev y z)) (All2.cons (alk_tup hpa (.inl (.inl he)) (endL_len _ _ _) (alk_end _ _ _)) All2.nil))
def spLaw (K : PySem.W.Frag) : Sp := fun vs H Q _ => ∃ (sc : Addr) (ns : List Int), vs = [.ref sc] ∧ SqL K H sc (ns.map V.int) ∧ ns.length ≤ 1000 ∧ ∀ H', Q (.bl true) H'
section
variable {P : Program} {w : World} {K : PySem.W.Frag} {mg : Str → Option Value} {base : Heap}
theorem ok_law (T : Txt w K mg) {fd : FuncData} (F : FunD K "law" "law" (defArgs st_law) (defBody st_law) (defScope st_law) [] [] (ga K "law") fd) : FnOk P w K mg base CX0 62 (ga K "law") fd ["_law_script"] (spLaw K) := by
  have G_law_start := ok_start (P := P) (base := base) T
  have G_law_take := ok_take (P := P) (base := base) T
  have G_law_module := ok_module (P := P) (base := base) T
  have G_law_begin := ok_lbegin (P := P) (base := base) T
  have G_law_alike := ok_alike (P := P) (base := base) T 4
  have G_run_module := ok_runmod (P := P) (base := base) T
  have G_trace_module := ok_trace (P := P) (base := base) T
  refine F.ok sc_law (k := 61) (fun vs H Q E h => ?_) (fun cdv A outer s H vs Q E hr h => ?_)
  · obtain ⟨sc, ns, rfl, _⟩ := h
    rfl
  obtain ⟨sc, ns, rfl, hsc, hns, q⟩ := h
  refine ⟨_, (pss_cons (ps_set (i := 1) sc_law.nd rfl (Or.inr rfl) (pe_callD G_law_start hr (by omega) rfl pass0 (pa_cons (pv 0) pa_nil))) (pss_cons (ps_set (i := 2) sc_law.nd rfl (Or.inl rfl) (pe_callD G_law_module hr (by omega) rfl pass0 (pa_cons (pv 1) pa_nil))) (pss_cons (ps_setLc (te := tOp (rI0 fun i j => V.int (i - j)) (tCall spTake [] E0 (tCons (tVar 1) (tCons (tC (V.int 9)) tNil))) (tC (V.int 3))) (i := 3) (own := [("_law_k", 4)]) (g := gName 4) (tt := tYes) rfl sc_law.nd rfl rfl (sw_true rfl rfl rfl (by decide +kernel)) (pi_range1 rfl (b_range T) (pa_cons (pe_callD G_law_take hr (by omega) rfl pass0 (pa_cons (pv 1) (pa_cons pe_int pa_nil))) pa_nil)) (blkOk_by (own := [("_law_k", 4)]) (N := ["_law_script", "_law_state", "_law_module_here", "_law_inputs", "_law_k", "_law_units", "_law_limit", "_law_run_here", "_law_due", "_law_passed", "_law_noted"]) (sc := defScope st_law) (by decide +kernel)) (fun _ _ _ _ _ => pg_name (i := 4) sc_law.nd rfl (Or.inl rfl)) (fun _ _ _ _ _ => pts_nil) (fun _ _ _ _ _ => (pe_op op_sub (pe_callD G_law_take hr (by omega) rfl pass0 (pa_cons (pv 1) (pa_cons pe_int pa_nil))) pe_int))) (pss_cons (ps_set (i := 5) sc_law.nd rfl (Or.inl rfl) (pe_callD G_law_take hr (by omega) rfl pass0 (pa_cons (pv 1) (pa_cons pe_int pa_nil)))) (pss_cons (ps_set (i := 6) sc_law.nd rfl (Or.inl rfl) (pe_callD G_law_take hr (by omega) rfl pass0 (pa_cons (pv 1) (pa_cons pe_int pa_nil)))) (pss_cons (ps_set (i := 7) sc_law.nd rfl (Or.inl rfl) (pe_callD G_law_begin hr (by omega) rfl pass0 (pa_cons (pv 2) (pa_cons (pe_callTy call_list_of (by rfl) (b_list T) (by decide +kernel) (pa_cons (pv 3) pa_nil)) (pa_cons (pv 5) (pa_cons (pv 6) pa_nil)))))) (pss_cons (ps_set (i := 8) sc_law.nd rfl (Or.inl rfl) (pe_tup (pa_cons (pe_callTy call_tuple_of (by rfl) (b_tuple T) (by decide +kernel) (pa_cons (pe_dget (hu_of hr) (pv 7) pe_str (fun _ _ => rfl)) pa_nil)) (pa_cons (pe_dget (hu_of hr) (pv 7) pe_str (fun _ _ => rfl)) pa_nil)))) (pss_cons (ps_set (i := 9) sc_law.nd rfl (Or.inl rfl) (pe_callTy call_list_of (by rfl) (b_list T) (by decide +kernel) (pa_cons (pv 3) pa_nil))) (pss_cons (ps_if (PW.pt (pw_or (pt_not (pt_val (pe_callD G_law_alike hr (by omega) rfl pass0 (pa_cons (pe_callKD G_run_module hr (by omega) rfl pass0 (pa_cons (pv 2) (pa_cons (pv 9) pa_nil)) (pk_cons (pv 5) pk_nil)) (pa_cons (pv 8) pa_nil))))) (pw_or1 (pt_cmpR (op_neD (hu64 hr)) (pv 9) (pv 3) (nomark _))))) (pss_one (ps_ret pe_bl)) pss_nil) (pss_cons (ps_set (i := 10) sc_law.nd rfl (Or.inl rfl) (pe_callKD G_trace_module hr (by omega) rfl pass0 (pa_cons (pv 2) (pa_cons (pv 9) pa_nil)) (pk_cons (pv 5) (pk_cons (pv 6) pk_nil)))) (pss_cons (ps_if (PW.pt (pw_or (pt_not (pt_val (pe_callB call_isi (by rfl) (b_isinstance T) (by decide +kernel) (pa_cons (pv 10) (pa_cons (pe_bltn (v := .ty "list") (u := .type "list") rfl (b_list T) (by decide +kernel) rfl) pa_nil))))) (pw_or (pt_not (pt_val (pe_callD G_law_alike hr (by omega) rfl pass0 (pa_cons (pe_callTy call_tuple_of (by rfl) (b_tuple T) (by decide +kernel) (pa_cons (pv 10) pa_nil)) (pa_cons (pe_callTy call_tuple_of (by rfl) (b_tuple T) (by decide +kernel) (pa_cons (pe_dget (hu_of hr) (pv 7) pe_str (fun _ _ => rfl)) pa_nil)) pa_nil))))) (pw_or1 (pt_cmpR (op_neD (hu64 hr)) (pv 9) (pv 3) (nomark _)))))) (pss_one (ps_ret pe_bl)) pss_nil) (pss_one (ps_ret (pe_callD G_law_alike hr (by omega) rfl pass0 (pa_cons (pe_callKD G_run_module hr (by omega) rfl pass0 (pa_cons (pv 2) (pa_cons (pe_callTy call_list_of (by rfl) (b_list T) (by decide +kernel) (pa_cons (pv 3) pa_nil)) pa_nil)) (pk_cons (pv 5) pk_nil)) (pa_cons (pv 8) pa_nil)))))))))))))))), ?_⟩
  refine ⟨_, rfl, sc, ns, rfl, hsc, hns, fun H1 a gr t1 g1 na ng => ?_⟩
  refine ⟨_, rfl, a, gr, rfl, g1, fun H2 mo m nms pls t2 g2 hmo2 okM => ?_⟩
  refine ⟨_, rfl, a, gr, 5, rfl, g2, by decide, by decide, fun H3 cnt hcnt t3 g3 => ⟨(cnt : Int), rfl, by omega, by omega, fun D hD => lc_range (lo := 0) (n := cnt) (fun j H' => Stp (SG a gr) H3 H' ∧ GS H' a gr ∧ ∃ ins : List Int, H' D = some (.lst (ins.map V.int)) ∧ ins.length ≤ j ∧ ∀ x ∈ ins, Word x) ⟨Stp.new hD, g3.upF (Off.of1 g3 hD), [], upd_same, Nat.le_refl _, fun x hx => by cases hx⟩ (fun j H' hj p => ?_) (fun H4 p => ?_)⟩⟩
  · obtain ⟨st, g', ins, hl, hlen, hw⟩ := p
    refine ⟨rfl, _, rfl, a, gr, 9, rfl, g', by decide, by decide, fun H5 d hd t5 g5 => ⟨_, _, rfl, rfl, ?_⟩⟩
    have offD := Off.of1 g3 hD
    have hlD := offD.at t5 hl
    refine ⟨_, hlD, Nat.lt_of_le_of_lt (by rw [List.length_map]; omega) (small1000 (Nat.le_refl 1000)), (st.trans t5).over (.of hD), g5.upF offD, ins ++ [(d : Int) - 3], by rw [upd_same, List.map_append]; rfl, by rw [List.length_append, List.length_singleton]; omega, fun x hx => ?_⟩
    rcases List.mem_append.mp hx with y | y
    · exact hw x y
    · rw [List.mem_singleton.mp y]
      constructor <;> omega
  obtain ⟨st, g4, ins, hl, hlen, hw⟩ := p
  refine ⟨_, rfl, a, gr, 61, rfl, g4, by decide, by decide, fun H5 fu hfu t5 g5 => ?_⟩
  refine ⟨_, rfl, a, gr, 301, rfl, g5, by decide, by decide, fun H6 lim hlim t6 g6 => ?_⟩
  have hl6 := (Off.of1 g3 hD).at (t5.trans t6) hl
  have hmo6 := hmo2.st (t3.trans (st.trans (t5.trans t6)))
  have hE : EnvOk ⟨m, ins⟩ := ⟨okM, hw⟩
  obtain ⟨o, g, W, sk, ev⟩ := whole_ex hE (fuel := fu) (by omega)
  -- the law's own run
  refine ⟨_, rfl, _, rfl, D, _, rfl, .inl (SqL.of hl6), fun l hln => ?_⟩
  have tl : Stp S0 H6 (upd H6 l (.lst (ins.map V.int))) := Stp.new hln
  have hl7 : (upd H6 l (.lst (ins.map V.int))) l = some (.lst (ins.map V.int)) := upd_same
  generalize (upd H6 l (.lst (ins.map V.int))) = H7 at tl hl7 ⊢
  refine ⟨_, rfl, _, rfl, mo, l, fu, lim, m, ins, nms, pls, o, g, rfl, hmo6.st tl, hl7, hE, by omega, by omega, W, fun H8 L v e eL st8 ll hv he => ?_⟩
  obtain ⟨le, hle1, hle2⟩ := ll.md
  obtain ⟨ls, hls1, hls2⟩ := ll.sn
  refine ⟨_, rfl, _, _, rfl, DGet.k (k := .inr "events") ll.run, L.md, _, rfl, .inl ⟨SqL.of hle1, fun te hte => ?_⟩⟩
  have tte : Stp S0 H8 (upd H8 te (.tup le)) := Stp.new hte
  have hte9 : (upd H8 te (.tup le)) te = some (.tup le) := upd_same
  generalize (upd H8 te (.tup le)) = H9 at tte hte9 ⊢
  refine ⟨_, rfl, _, _, rfl, DGet.k (k := .inr "ending") (tte.at ll.run fun z => z.elim), by show 2 ≤ sizeLine; decide, fun du hdu => ?_⟩
  have tdu : Stp S0 H9 (upd H9 du (.tup [.ref te, v.en])) := Stp.new hdu
  have hdu10 : (upd H9 du (.tup [.ref te, v.en])) du = some (.tup [.ref te, .ref e]) := by rw [← hv]; exact upd_same
  generalize (upd H9 du (.tup [.ref te, v.en])) = H10 at tdu hdu10 ⊢
  have t8A := tte.trans tdu
  have hD10 : H10 D = some (.lst (ins.map V.int)) := (tl.trans (st8.trans t8A)).at hl6 fun z => z.elim
  refine ⟨_, rfl, D, _, rfl, .inl (SqL.of hD10), fun ps hps => ?_⟩
  have tps : Stp S0 H10 (upd H10 ps (.lst (ins.map V.int))) := Stp.new hps
  have hpsB : (upd H10 ps (.lst (ins.map V.int))) ps = some (.lst (ins.map V.int)) := upd_same
  generalize (upd H10 ps (.lst (ins.map V.int))) = HB at tps hpsB ⊢
  have t8B := t8A.trans tps
  have hDB : HB D = some (.lst (ins.map V.int)) := tps.at hD10 fun z => z.elim
  have hmoB : moV K HB mo m nms pls := hmo6.st (tl.trans (st8.trans t8B))
  have hduB := tps.tup hdu10
  have hteB := (tdu.trans tps).tup hte9
  have heB := t8B.tup he
  have hrunB := t8B.at ll.run fun z => z.elim
  have hle2B : All2 (evV HB) le g.evs := hle2.mono fun _ _ z => z.st t8B
  have hlsB := t8B.at hls1 fun z => z.elim
  have hls2B : All2 (snV HB) ls (g.seen.take lim) := by rw [← eL]; exact hls2.mono fun _ _ z => z.st t8B
  -- the first run
  refine ⟨_, rfl, _, rfl, _, rfl, rfl, rfl, mo, ps, fu, m, ins, nms, pls, o, g, rfl, hmoB, hpsB, hE, by omega, W, fun HC t ea pa sC ht hea hpa => ?_⟩
  obtain ⟨lev, hea1, hea2⟩ := hea
  refine ⟨_, rfl, _, _, rfl, alk_run ht hea1 hea2 hpa (sC.tup hduB) (sC.tup hteB) (hle2B.mono fun _ _ z => z.st sC) (sC.tup heB) ev, _, rfl, if_false_of rfl ?_⟩
  refine ⟨_, rfl, _, rfl, _, _, .lst (SqL.of (sC.at hpsB fun z => z.elim)) (dp_ints ins), .lst (SqL.of (sC.at hDB fun z => z.elim)) (dp_ints ins), shp_ints _, shp_ints _, _, rfl, if_false_of (ne_ints ins) ?_⟩
  -- the trace
  refine ⟨_, rfl, _, rfl, _, rfl, _, rfl, rfl, rfl, mo, ps, fu, lim, m, ins, nms, pls, o, g, rfl, hmoB.st sC, sC.at hpsB fun z => z.elim, hE, by omega, by omega, W, fun HE sn sE hsn => ?_⟩
  obtain ⟨lsn, hsn1, hsn2⟩ := hsn
  have tBE := sC.trans sE
  refine ⟨_, rfl, .ref sn, .ty "list", .type "list", .type "list", true, rfl, .ty _, .base (.lst hsn1), kit_ty (by decide +kernel), _, rfl, if_false_of rfl ?_⟩
  refine ⟨_, rfl, sn, _, rfl, .inl ⟨SqL.of hsn1, fun ta hta => ?_⟩⟩
  have tta : Stp S0 HE (upd HE ta (.tup lsn)) := Stp.new hta
  have hta2 : (upd HE ta (.tup lsn)) ta = some (.tup lsn) := upd_same
  generalize (upd HE ta (.tup lsn)) = HF at tta hta2 ⊢
  have tBF := tBE.trans tta
  refine ⟨_, rfl, _, _, rfl, DGet.k (k := .inr "seen") (tBF.at hrunB fun z => z.elim), L.sn, _, rfl, .inl ⟨SqL.of (tBF.at hlsB fun z => z.elim), fun tb htb => ?_⟩⟩
  have ttb : Stp S0 HF (upd HF tb (.tup ls)) := Stp.new htb
  have htb2 : (upd HF tb (.tup ls)) tb = some (.tup ls) := upd_same
  generalize (upd HF tb (.tup ls)) = HG at ttb htb2 ⊢
  have tBG := tBF.trans ttb
  have tEG := tta.trans ttb
  have slen : (g.seen.take lim).length ≤ 10000000 := Nat.le_trans (List.length_take_le _ _) (by omega)
  have alkS : Alk K HG 4 (.ref ta) (.ref tb) := by
    refine alk_tup (.inl (.inl (ttb.tup hta2))) (.inl (.inl htb2)) (by rw [hls2B.1]; exact slen) ⟨hsn2.1.trans hls2B.1.symm, fun i x y e1 e2 => ?_⟩
    obtain ⟨z, hz, r1⟩ := hsn2.get' e1
    obtain ⟨z', hz', r2⟩ := hls2B.get' e2
    rw [hz] at hz'
    cases hz'
    exact alk_sn (n := 0) (Nat.le_trans (sk z (List.mem_of_mem_take (List.mem_of_getElem? hz))) (by decide)) (snV.st tEG r1) (snV.st tBG r2)
  refine ⟨_, _, rfl, alkS, _, rfl, if_false_of rfl ?_⟩
  refine ⟨_, rfl, _, rfl, _, _, .lst (SqL.of (tBG.at hpsB fun z => z.elim)) (dp_ints ins), .lst (SqL.of (tBG.at hDB fun z => z.elim)) (dp_ints ins), shp_ints _, shp_ints _, _, rfl, if_false_of (ne_ints ins) ?_⟩
  -- the last run
  refine ⟨_, rfl, _, rfl, D, _, rfl, .inl (SqL.of (tBG.at hDB fun z => z.elim)), fun l2 hl2 => ?_⟩
  have tl2 : Stp S0 HG (upd HG l2 (.lst (ins.map V.int))) := Stp.new hl2
  have hl22 : (upd HG l2 (.lst (ins.map V.int))) l2 = some (.lst (ins.map V.int)) := upd_same
  generalize (upd HG l2 (.lst (ins.map V.int))) = HI at tl2 hl22 ⊢
  have tBI := tBG.trans tl2
  refine ⟨_, rfl, rfl, rfl, mo, l2, fu, m, ins, nms, pls, o, g, rfl, hmoB.st tBI, hl22, hE, by omega, W, fun HJ t2 ea2 pa2 sJ ht2 hea2 hpa2 => ?_⟩
  obtain ⟨lev2, hf1, hf2⟩ := hea2
  have tBJ := tBI.trans sJ
  exact ⟨_, rfl, _, _, rfl, alk_run ht2 hf1 hf2 hpa2 (tBJ.tup hduB) (tBJ.tup hteB) (hle2B.mono fun _ _ z => z.st tBJ) (tBJ.tup heB) ev, q _⟩
end
end WX
/-! ## WEnd -/
set_option Elab.async false
set_option linter.all false
set_option maxRecDepth 100000
set_option maxHeartbeats 0
/-! The end. -/
namespace WX
open PySem PySem.Spec PyProof.Rows L2 He
theorem law_at {w : World} {h : Heap} {mg : Str → Option Value} {f : Addr} (Y : hookW.says w h) (G : h.Ns mainGlobals mg) (hmg : mg ("law" : Str) = some (.ref f)) :
    ∃ (K : PySem.W.Frag) (fd : FuncData), K.In h ∧ (∀ (s : Shared) (v : Value), BindsTo s fd ⟨[v], []⟩ [("_law_script", v)]) ∧
      ∀ (P : Program) (base : Heap), FnOk P w K mg base CX0 62 f fd ["_law_script"] (spLaw K) := by
  obtain ⟨K, X, e⟩ := Y
  have e1 : obsT fa fn ts K = valT fn ts w := congrArg (fun z : AlW => z.1) e
  have e2 : exB K = true := congrArg (fun z : AlW => z.2.1) e
  have e3 : fnA K (gfA K) = d_rows.val := congrArg (fun z : AlW => z.2.2) e
  have T : Txt w K mg := txt_of X G e1 e2 e3
  have ef := hmg.symm.trans (g_law T)
  cases ef
  obtain ⟨fd, F⟩ := F_law T
  have b := FunD.bindsA (ps := ["_law_script"]) F fun _ _ _ _ _ _ us hl => match us, hl with | [_], _ => rfl
  exact ⟨K, fd, X, fun s v => b s [v] rfl, fun P base => ok_law (P := P) (base := base) T F⟩
end WX
open PySem PySem.W PySem.Calls PyProof.Rows
theorem PySem.Challenge.cw_windowada_k33_whole_run_and_trace_holds : PySem.Challenge.rw_windowada_k33_whole_run_and_trace.Holds := by
  w_on; o_law
  refine HandSHeadRun.head_any (r := WX.RR) (q := WX.qv) (H := WX.hookW) (ob := WX.ob) (M := 6000) (loose := WX.names) (d := HandSHeadRun.topDef WX.RR.prog 79) (kwd := []) WX.ob_eq
    (by kernel_rfl) (fun s => by kernel_rfl) WX.run (by kernel_rfl) (by kernel_rfl) (by kernel_rfl) (by rfl) (by first | assumption | decide +kernel) (by decide +kernel) ⟨rfl, rfl, rfl, rfl, rfl, by decide +kernel⟩ ?hw ?hc
  case hw => w_witness2
  case hc =>
    refine L2.walk_ofE (l := PySem.Challenge.rw_windowada_k33_whole_run_and_trace) (n := 63) (k := 62) (x := "_law_script") (CX := L2.CX0) rfl (by decide) (by kernel_rfl) ⟨rfl, by decide, by decide⟩ ?F (fun _ _ _ _ z => z)
    intro w mg fa h Y G hmg0
    have hmg : mg ("law" : PySem.Str) = some (.ref fa) := by
      have e : (HandSHeadRun.topDef WX.RR.prog 79).name = ("law" : PySem.Str) := by kernel_rfl
      rw [← e]
      exact hmg0
    obtain ⟨K, fd, X, hb, hF⟩ := WX.law_at Y G hmg
    exact ⟨K, fd, WX.spLaw K, X, hb, fun H a ns hl _ hS => ⟨a, ns, rfl, hS, by omega, fun _ => rfl⟩, fun base _ _ => hF _ base⟩
