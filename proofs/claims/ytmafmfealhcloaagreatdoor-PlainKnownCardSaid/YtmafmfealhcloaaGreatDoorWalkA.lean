/-
  Steps of the program's operations, as conditions on values and on the heap.
-/
import Derived.Orders
import Derived.Recover
import Derived.Laws.NewBlocks
namespace Go.W

/-! environments -/
abbrev Env := Nat → Value
def up (e : Env) (d : Nat) (v : Value) : Env := fun k => bif Nat.beq k d then v else e k
def put (e : Env) : Option Tmp → Value → Env
  | some d, v => up e d v
  | none, _ => e
def act (n : Nat) (e : Env) (ds : List Deferred) : Act := ⟨Array.ofFn (n := n) (fun i => e i.val), ds⟩
def ev (n : Nat) (e : Env) : Operand → Value
  | .tmp t => bif Nat.blt t n then e t else undef
  | .const v => v
  | .global g => .pointer (some ⟨g, 0, none⟩)
  | .func f => .func (.func f) #[] #[]

theorem act_eval (n : Nat) (e : Env) (ds : List Deferred) : (act n e ds).eval = ev n e := by
  funext o
  cases o with
  | tmp t =>
    simp only [Act.eval, act, ev]
    by_cases h : t < n
    · have : Nat.blt t n = true := by simpa using h
      simp [this, Array.getD, h]
    · have : Nat.blt t n = false := by
        cases hb : Nat.blt t n with
        | false => rfl
        | true => exact absurd (by simpa using hb) h
      simp [this, Array.getD, h]
  | const v => rfl
  | global g => rfl
  | func f => rfl

theorem act_put (n : Nat) (e : Env) (ds : List Deferred) (dst : Option Tmp) (v : Value) : (act n e ds).put dst v = act n (put e dst v) ds := by
  cases dst with
  | none => rfl
  | some d =>
    simp only [Act.put, act, put]
    congr 1
    apply Array.ext
    · simp
    · intro i h1 h2
      have h3 : i < n := by simpa using h1
      rw [Array.getElem_setIfInBounds (by simpa using h3)]
      simp only [Array.getElem_ofFn, up]
      by_cases hd : i = d
      · subst hd; simp
      · have : Nat.beq i d = false := by
          cases hb : Nat.beq i d with
          | false => rfl
          | true => exact absurd (Nat.eq_of_beq_eq_true hb) hd
        simp [this, Ne.symm hd]

theorem act_defers (n : Nat) (e : Env) (ds : List Deferred) : (act n e ds).defers = ds := rfl

/-! slices: what a typed slice is -/
structure Sl where
  base : Option (Nat × Nat)
  len : Nat
  cap : Nat
def Sl.adr (s : Sl) : Option Addr := match s.base with | none => none | some (b, o) => some ⟨b, o, none⟩
abbrev Sl.val (s : Sl) : Value := .slice s.adr s.len s.cap

/-! calls -/
def CallW (P : Program) (f : FuncId) (args : Array Value) (w : World) (K : Value → World → Prop) (X : List PanicEntry → World → Prop) : Prop :=
  Calls P f args w fun e w' => match e with
    | .returned v => K v w'
    | .panicked ch => X ch w'
    | .outgrown => False

theorem calls_mono {P : Program} {f : FuncId} {args : Array Value} {w : World} {R R' : Ending → World → Prop} (h : Calls P f args w R) (hr : ∀ e w', R e w' → R' e w') : Calls P f args w R' :=
  fun cs => let ⟨e, w', fr, r, x⟩ := h cs; ⟨e, w', fr, hr _ _ r, x⟩

theorem CallW.mono {P : Program} {f : FuncId} {args : Array Value} {w : World} {K K' : Value → World → Prop} {X X' : List PanicEntry → World → Prop}
    (h : CallW P f args w K X) (hk : ∀ v w', K v w' → K' v w') (hx : ∀ c w', X c w' → X' c w') : CallW P f args w K' X' :=
  calls_mono h fun e w' => by cases e <;> simp <;> first | exact hk _ _ | exact hx _ _

/-! the outcome of one operation -/
def res (P : Program) (r : Result Next) (K : Value → World → Prop) (Kd : Deferred → World → Prop) (X : List PanicEntry → World → Prop) : Prop :=
  match r with
  | .ok (.value v) w' => K v w'
  | .ok .skip w' => K undef w'
  | .ok (.defer d) w' => Kd d w'
  | .ok (.enter f args) w' => CallW P f args w' K X
  | .halt (.panic v) w' => X [{ v, recovered := false }] w'
  | _ => False

theorem upon_of_res {P : Program} {o : Oper} {a : Act} {next : Act → World → Prop} {Q : Exit → Act → World → Prop} {r : Result Next}
    (h : res P r (fun v w' => next (a.put o.dst v) w') (fun d w' => next ({ a with defers := d :: a.defers }.put o.dst undef) w') (fun ch w' => Q (.panic ch) a w')) : o.upon P a next Q r := by
  unfold res at h
  split at h
  · exact h
  · exact h
  · exact h
  · refine calls_mono h fun e w' he => ?_
    cases e <;> simp at he ⊢ <;> exact he
  · exact h
  · exact h.elim

end Go.W

namespace Go.W

/-- what the walk asks of a type: its size in cells, its zero -/
structure TI where
  size : Nat
  zero : Option Value
/-- the program's types, quickly looked up -/
structure TT (P : Program) where
  und : TypeId → Option TypeDesc
  inf : TypeId → Option TI
  und_ok : ∀ t d, und t = some d → P.underlying t = some d
  inf_ok : ∀ t i, inf t = some i → ∃ j, P.info? t = some j ∧ j.size = i.size ∧ j.zero = i.zero

/-! types of single cells, as far as a walk wants to know them -/
inductive Ty where
  | int (k : IntKind) | bool | str | slice | ptr | map | float (k : FloatKind) | raw
abbrev Ty.T : Ty → Type
  | .int _ => Int | .bool => Bool | .str => ByteArray | .slice => Sl | .ptr => Option (Nat × Nat) | .map => Option Nat | .float _ => Nat | .raw => Value
def Ty.val : (t : Ty) → t.T → Value
  | .int k, x => .int k x | .bool, x => .bool x | .str, x => .string x | .slice, x => x.val | .ptr, x => .pointer (x.map fun p => ⟨p.1, p.2, none⟩) | .map, x => .map x | .float k, x => .float k x | .raw, x => x
def leaf : TypeDesc → Ty
  | .int k => .int k | .bool => .bool | .string => .str | .slice _ => .slice | .pointer _ => .ptr | .map _ _ => .map | .float k => .float k | _ => .raw
def isAggW : TypeDesc → Bool
  | .struct _ | .array _ _ => true
  | _ => false
def leavesOf {P : Program} (T : TT P) : Nat → TypeId → List Ty
  | 0, _ => []
  | d + 1, t => match T.und t with
    | some (.struct fs) => fs.toList.flatMap fun f => leavesOf T d f.type
    | some (.array n e) => (List.replicate n (leavesOf T d e)).flatten
    | some td => [leaf td]
    | none => []

/-- any value of a type -/
def cellsAny : List Ty → (List Value → Prop) → Prop
  | [], K => K []
  | t :: ts, K => ∃ x : t.T, cellsAny ts fun vs => K (t.val x :: vs)
def anyW {P : Program} (T : TT P) (t : TypeId) (K : Value → Prop) : Prop :=
  match T.und t with
  | some td => bif isAggW td then cellsAny (leavesOf T 8 t) (fun vs => K (.agg vs.toArray)) else ∃ x : (leaf td).T, K ((leaf td).val x)
  | none => False
def anysW {P : Program} (T : TT P) : List TypeId → (List Value → Prop) → Prop
  | [], K => K []
  | t :: ts, K => anyW T t fun v => anysW T ts fun vs => K (v :: vs)

theorem cellsAny_some : ∀ (ts : List Ty) (K : List Value → Prop), cellsAny ts K → ∃ vs, K vs
  | [], _, h => ⟨_, h⟩
  | _ :: ts, _, ⟨_, h⟩ => let ⟨_, k⟩ := cellsAny_some ts _ h; ⟨_, k⟩
theorem anyW_some {P : Program} {T : TT P} {t : TypeId} {K : Value → Prop} (h : anyW T t K) : ∃ v, K v := by
  unfold anyW at h
  split at h
  · rename_i td _
    cases hb : isAggW td <;> simp only [hb, cond_true, cond_false] at h
    · obtain ⟨x, h⟩ := h; exact ⟨_, h⟩
    · obtain ⟨vs, k⟩ := cellsAny_some _ _ h; exact ⟨_, k⟩
  · exact h.elim
theorem anysW_some {P : Program} {T : TT P} : ∀ (ts : List TypeId) (K : List Value → Prop), anysW T ts K → ∃ vs, K vs
  | [], _, h => ⟨_, h⟩
  | _ :: ts, _, h => let ⟨_, h⟩ := anyW_some h; let ⟨_, k⟩ := anysW_some ts _ h; ⟨_, k⟩

/-- a result of a call, typed -/
def retW {P : Program} (T : TT P) (ts : List TypeId) (v : Value) (K : Value → Prop) : Prop :=
  match ts with
  | [] => v = .tuple #[] ∧ K (.tuple #[])
  | [t] => anyW T t fun u => v = u ∧ K u
  | ts => anysW T ts fun vs => v = .tuple vs.toArray ∧ K (.tuple vs.toArray)
theorem retW_sound {P : Program} {T : TT P} {ts : List TypeId} {v : Value} {K : Value → Prop} (h : retW T ts v K) : K v := by
  unfold retW at h
  split at h
  · exact h.1 ▸ h.2
  · obtain ⟨u, rfl, k⟩ := anyW_some h; exact k
  · obtain ⟨vs, rfl, k⟩ := anysW_some _ _ h; exact k

/-! memory -/
def loadCellsW (w : World) (b o : Nat) : List Ty → (List Value → Prop) → Prop
  | [], K => K []
  | t :: ts, K => ∃ x : t.T, w.cell? ⟨b, o, none⟩ = some (t.val x) ∧ loadCellsW w b (o + 1) ts fun vs => K (t.val x :: vs)
def loadW {P : Program} (T : TT P) (t : TypeId) (a : Value) (w : World) (K : Value → Prop) : Prop :=
  match a with
  | .pointer (some a) =>
    match a.spot with
    | none => match T.und t with
      | some td => bif isAggW td then
          match T.inf t with
          | some i => bif Nat.beq (leavesOf T 8 t).length i.size then loadCellsW w a.block a.off (leavesOf T 8 t) (fun vs => K (.agg vs.toArray)) else False
          | none => False
        else ∃ x : (leaf td).T, w.cell? ⟨a.block, a.off, none⟩ = some ((leaf td).val x) ∧ K ((leaf td).val x)
      | none => False
    | some _ => False
  | _ => False
def storeCellsW (w : World) (b o : Nat) : List Value → (World → Prop) → Prop
  | [], K => K w
  | v :: vs, K => match v with
    | .agg _ | .tuple _ => False
    | v => (w.cell? ⟨b, o, none⟩).isSome = true ∧ w.frozen? ⟨b, o, none⟩ = false ∧ ∀ w', w' = w.setCell ⟨b, o, none⟩ v → storeCellsW w' b (o + 1) vs K
def cellsL : Value → List Value
  | .agg cs => cs.toList
  | v => [v]
def storeW {P : Program} (T : TT P) (t : TypeId) (a v : Value) (w : World) (K : World → Prop) : Prop :=
  match a with
  | .pointer (some a) =>
    match a.spot with
    | none => match T.inf t with
      | some i => match T.und t with
        | some td => bif isAggW td then (bif Nat.beq (cellsL v).length i.size then storeCellsW w a.block a.off (cellsL v) K else False)
          else (bif Nat.beq i.size 1 then storeCellsW w a.block a.off [v] K else False)
        | none => False
      | none => False
    | some _ => False
  | _ => False
def newW (w : World) (o : Obj) (K : Nat → World → Prop) : Prop := ∀ b w', b = w.heap.size → w' = w.alloc o → K b w'

theorem add_none {a : Addr} (h : a.spot = none) (i : Nat) : a.add i = ⟨a.block, a.off + i, none⟩ := by
  obtain ⟨b, o, s⟩ := a
  simp only at h; subst h
  unfold Addr.add
  split <;> simp_all
theorem run_load_some {P : Program} {w : World} {a : Addr} {v : Value} (h : w.cell? a = some v) : (load a).run P w = .ok v w := by simp [h]

theorem loadCellsW_sound {P : Program} {w : World} {b : Nat} : ∀ (ts : List Ty) (a : Addr) (i : Nat) (acc : Array Value) (K : List Value → Prop), a.spot = none → a.block = b →
    loadCellsW w b (a.off + i) ts K → ∃ vs, K vs ∧ (loadCellsFrom a i ts.length acc).run P w = .ok (acc ++ vs.toArray) w
  | [], a, i, acc, K, _, _, h => ⟨[], h, by simp [loadCellsFrom]⟩
  | t :: ts, a, i, acc, K, hs, hb, h => by
    obtain ⟨x, hc, h⟩ := h
    obtain ⟨vs, k, hr⟩ := loadCellsW_sound (P := P) ts a (i + 1) (acc.push (t.val x)) _ hs hb h
    refine ⟨t.val x :: vs, k, ?_⟩
    have hc' : w.cell? (a.add i) = some (t.val x) := by rw [add_none hs, hb]; exact hc
    simp only [List.length_cons, loadCellsFrom, Sem.run_bind, run_load_some hc', Result.andThen_ok, hr]
    simp
theorem run_isAgg {P : Program} {T : TT P} {t : TypeId} {td : TypeDesc} (h : T.und t = some td) (w : World) : (isAgg t).run P w = .ok (isAggW td) w := by
  unfold isAgg underlying
  simp only [Sem.run_bind, run_program, Result.andThen_ok, T.und_ok _ _ h, Sem.run_pure]
  cases td <;> rfl
theorem run_sizeOf' {P : Program} {T : TT P} {t : TypeId} {i : TI} (h : T.inf t = some i) (w : World) : (sizeOf t).run P w = .ok i.size w := by
  obtain ⟨j, hj, hs, _⟩ := T.inf_ok _ _ h
  unfold sizeOf typeInfo
  simp [hj, hs]
theorem loadW_sound {P : Program} {T : TT P} {t : TypeId} {a : Value} {w : World} {K : Value → Prop} (h : loadW T t a w K) : ∃ v, K v ∧ (Instr.loadAt t a).run P w = .ok v w := by
  unfold loadW at h
  split at h <;> try exact h.elim
  rename_i a
  split at h <;> try exact h.elim
  rename_i hs
  split at h <;> try exact h.elim
  rename_i td htd
  simp only [Instr.loadAt, Instr.sureAddr, loadVar, pure_bind, Sem.run_bind, run_isAgg htd, Result.andThen_ok]
  cases hb : isAggW td <;> simp only [hb, cond_true, cond_false] at h
  · obtain ⟨x, hc, k⟩ := h
    refine ⟨_, k, ?_⟩
    have : a = ⟨a.block, a.off, none⟩ := by obtain ⟨b, o, s⟩ := a; simp only at hs; subst hs; rfl
    rw [this]; simp only [Bool.false_eq_true, if_false]; exact run_load_some hc
  · split at h <;> try exact h.elim
    rename_i i hi
    cases hl : Nat.beq (leavesOf T 8 t).length i.size <;> simp only [hl, cond_true, cond_false] at h
    have hl' := Nat.eq_of_beq_eq_true hl
    obtain ⟨vs, k, hr⟩ := loadCellsW_sound (P := P) (leavesOf T 8 t) a 0 #[] _ hs rfl (by simpa using h)
    refine ⟨_, k, ?_⟩
    simp only [if_true, Sem.run_bind, run_sizeOf' hi, Result.andThen_ok, loadCells, ← hl', hr, Sem.run_pure]
    simp

theorem storeCellsW_sound {P : Program} {b : Nat} : ∀ (vs : List Value) (w : World) (a : Addr) (i : Nat) (K : World → Prop), a.spot = none → a.block = b →
    storeCellsW w b (a.off + i) vs K → ∃ w', K w' ∧ (storeCells a vs i).run P w = .ok () w'
  | [], w, a, i, K, _, _, h => ⟨w, h, by simp [storeCells]⟩
  | v :: vs, w, a, i, K, hs, hb, h => by
    unfold storeCellsW at h
    have hv : v.oneCell' = true ∧ ((w.cell? ⟨b, a.off + i, none⟩).isSome = true ∧ w.frozen? ⟨b, a.off + i, none⟩ = false ∧ ∀ w', w' = w.setCell ⟨b, a.off + i, none⟩ v → storeCellsW w' b (a.off + i + 1) vs K) := by
      cases v <;> first | exact h.elim | exact ⟨rfl, h⟩
    obtain ⟨h1, h2, h3, h⟩ := hv
    obtain ⟨w', k, hr⟩ := storeCellsW_sound (P := P) vs _ a (i + 1) K hs hb (h _ rfl)
    refine ⟨w', k, ?_⟩
    have ha : a.add i = ⟨b, a.off + i, none⟩ := by rw [add_none hs, hb]
    obtain ⟨u, hu⟩ := Option.isSome_iff_exists.1 h2
    simp only [storeCells, Sem.run_bind, run_store _ _ _ _ _ h1, ha, hu, h3, Bool.false_eq_true, if_false, Result.andThen_ok, hr]
theorem cellsL_eq (v : Value) : cellsL v = v.cells.toList := by cases v <;> rfl
theorem storeW_sound {P : Program} {T : TT P} {t : TypeId} {a v : Value} {w : World} {K : World → Prop} (h : storeW T t a v w K) : ∃ w', K w' ∧ (Instr.storeAt t a v).run P w = .ok () w' := by
  unfold storeW at h
  split at h <;> try exact h.elim
  rename_i a
  split at h <;> try exact h.elim
  rename_i hs
  split at h <;> try exact h.elim
  rename_i i hi
  split at h <;> try exact h.elim
  rename_i td htd
  cases hb : isAggW td <;> simp only [hb, cond_true, cond_false] at h
  · cases hl : Nat.beq i.size 1 <;> simp only [hl, cond_true, cond_false] at h
    have hl' := Nat.eq_of_beq_eq_true hl
    have hcell : v.cells = #[v] := by
      unfold storeCellsW at h
      cases v <;> first | rfl | exact h.elim
    obtain ⟨w', k, hr⟩ := storeCellsW_sound (P := P) [v] w a 0 K hs rfl (by simpa using h)
    refine ⟨w', k, ?_⟩
    have hsz : v.cells.size = i.size := by rw [hcell, hl']; rfl
    have hl2 : v.cells.toList = [v] := by rw [hcell]
    simp only [Instr.storeAt, Instr.sureAddr, storeVar, pure_bind, Sem.run_bind, run_sizeOf' hi, Result.andThen_ok, hsz, ne_eq, not_true_eq_false, if_false, hl2, hr]
  · cases hl : Nat.beq (cellsL v).length i.size <;> simp only [hl, cond_true, cond_false] at h
    have hl' := Nat.eq_of_beq_eq_true hl
    obtain ⟨w', k, hr⟩ := storeCellsW_sound (P := P) (cellsL v) w a 0 K hs rfl (by simpa using h)
    refine ⟨w', k, ?_⟩
    have hsz : v.cells.size = i.size := by rw [← hl', cellsL_eq]; simp
    simp only [Instr.storeAt, Instr.sureAddr, storeVar, pure_bind, Sem.run_bind, run_sizeOf' hi, Result.andThen_ok, hsz, ne_eq, not_true_eq_false, if_false, ← cellsL_eq, hr]

end Go.W

namespace Go.W
set_option linter.unusedSimpArgs false
set_option linter.unusedVariables false

def kindBeq (a b : IntKind) : Bool := match a, b with
  | .i8, .i8 | .i16, .i16 | .i32, .i32 | .i64, .i64 | .u8, .u8 | .u16, .u16 | .u32, .u32 | .u64, .u64 => true
  | _, _ => false
theorem kindBeq_eq {a b : IntKind} (h : kindBeq a b = true) : a = b := by cases a <;> cases b <;> first | rfl | exact absurd h (by decide)

def bAnd (k : IntKind) (x y : Int) : Int := k.wrap (BitVec.ofInt k.bits x &&& BitVec.ofInt k.bits y).toNat
def bOr (k : IntKind) (x y : Int) : Int := k.wrap (BitVec.ofInt k.bits x ||| BitVec.ofInt k.bits y).toNat
def bXor (k : IntKind) (x y : Int) : Int := k.wrap (BitVec.ofInt k.bits x ^^^ BitVec.ofInt k.bits y).toNat
def bAndNot (k : IntKind) (x y : Int) : Int := k.wrap (BitVec.ofInt k.bits x &&& ~~~ BitVec.ofInt k.bits y).toNat
def shl (k : IntKind) (x : Int) (n : Nat) : Int := k.wrap (x * 2 ^ (min n k.bits))
def shr (k : IntKind) (x : Int) (n : Nat) : Int := x.fdiv (2 ^ (min n k.bits))
def strEq (x y : ByteArray) : Bool := x.toList == y.toList

/-- two operands -/
def binW {P : Program} (T : TT P) (op : BinOp) (xt : TypeId) (x y : Value) (K : Value → Prop) : Prop :=
  match op, x, y with
  | .shl, .int k a, .int _ b => 0 ≤ b ∧ K (.int k (shl k a b.toNat))
  | .shr, .int k a, .int _ b => 0 ≤ b ∧ K (.int k (shr k a b.toNat))
  | op, .int k a, .int k' b => bif kindBeq k k' then
      match op with
      | .add => K (.int k (k.wrap (a + b)))
      | .sub => K (.int k (k.wrap (a - b)))
      | .mul => K (.int k (k.wrap (a * b)))
      | .quo => b ≠ 0 ∧ K (.int k (k.wrap (a.tdiv b)))
      | .rem => b ≠ 0 ∧ K (.int k (a.tmod b))
      | .and => K (.int k (bAnd k a b))
      | .or => K (.int k (bOr k a b))
      | .xor => K (.int k (bXor k a b))
      | .andNot => K (.int k (bAndNot k a b))
      | .eql => K (.bool (a == b))
      | .neq => K (.bool (a != b))
      | .lss => K (.bool (decide (a < b)))
      | .leq => K (.bool (decide (a ≤ b)))
      | .gtr => K (.bool (decide (a > b)))
      | .geq => K (.bool (decide (a ≥ b)))
      | _ => False
    else False
  | .eql, .string a, .string b => K (.bool (strEq a b))
  | .neq, .string a, .string b => K (.bool (!strEq a b))
  | .add, .string a, .string b => (((a.size + b.size : Nat) : Int) ≤ IntKind.i64.max) ∧ K (.string (a ++ b))
  | .eql, .bool a, .bool b => match T.und xt with | some .bool => K (.bool (a == b)) | _ => False
  | .neq, .bool a, .bool b => match T.und xt with | some .bool => K (.bool (!(a == b))) | _ => False
  | .eql, .pointer a, .pointer none => match T.und xt with | some (.pointer _) => K (.bool a.isNone) | _ => False
  | .neq, .pointer a, .pointer none => match T.und xt with | some (.pointer _) => K (.bool (!a.isNone)) | _ => False
  | .eql, .func _ _ _, .nilFunc => match T.und xt with | some (.func _ _ _) => K (.bool false) | _ => False
  | .neq, .func _ _ _, .nilFunc => match T.und xt with | some (.func _ _ _) => K (.bool true) | _ => False
  | .eql, .nilFunc, .nilFunc => match T.und xt with | some (.func _ _ _) => K (.bool true) | _ => False
  | .neq, .nilFunc, .nilFunc => match T.und xt with | some (.func _ _ _) => K (.bool false) | _ => False
  | .eql, .iface _ _, .nilIface => match T.und xt with | some (.interface _) => K (.bool false) | _ => False
  | .neq, .iface _ _, .nilIface => match T.und xt with | some (.interface _) => K (.bool true) | _ => False
  | .eql, .nilIface, .nilIface => match T.und xt with | some (.interface ms) => bif ms.isEmpty then K (.bool true) else False | _ => False
  | .neq, .nilIface, .nilIface => match T.und xt with | some (.interface ms) => bif ms.isEmpty then K (.bool false) else False | _ => False
  | .eql, .map a, .map none => match T.und xt with | some (.map _ _) => K (.bool a.isNone) | _ => False
  | .neq, .map a, .map none => match T.und xt with | some (.map _ _) => K (.bool (!a.isNone)) | _ => False
  | .eql, .slice a _ _, .slice none _ _ => match T.und xt with | some (.slice _) => K (.bool a.isNone) | _ => False
  | .neq, .slice a _ _, .slice none _ _ => match T.und xt with | some (.slice _) => K (.bool (!a.isNone)) | _ => False
  | _, _, _ => False

theorem run_underlying' {P : Program} {T : TT P} {t : TypeId} {td : TypeDesc} (h : T.und t = some td) (w : World) : (underlying t).run P w = .ok td w := by
  simp [underlying, T.und_ok _ _ h]
/-- the guard ahead of '==' does nothing at these operands -/
def guardless : Value → Value → Bool
  | .nilIface, .nilIface | .agg _, .agg _ => false
  | _, _ => true
theorem run_eqGuard {P : Program} {w : World} {op : BinOp} {t : TypeId} {x y : Operand} {a b : Value} (h : guardless a b = true) : (eqGuard op t x y a b).run P w = .ok () w := by
  cases op <;> first
    | rfl
    | (cases a <;> cases b <;> first | rfl | exact absurd h Bool.false_ne_true)
theorem eqGuardIn_nil {P : Program} {T : TT P} {w : World} {d : Nat} {t : TypeId} {ms} (h : T.und t = some (.interface ms)) (he : ms.isEmpty = true) : (Op.eqGuardIn (d + 1) t .nilIface .nilIface).run P w = .ok false w := by
  simp only [Op.eqGuardIn, Sem.run_bind, run_underlying' h, Result.andThen_ok, he]; rfl
theorem run_eqGuardW {P : Program} {T : TT P} {op : BinOp} {xt : TypeId} {a b : Value} {x y : Operand} {K : Value → Prop} {w : World} (h : binW T op xt a b K) : (eqGuard op xt x y a b).run P w = .ok () w := by
  by_cases hn : guardless a b = true
  · exact run_eqGuard hn
  · have key : a = .nilIface ∧ b = .nilIface ∧ (∃ ms, T.und xt = some (.interface ms) ∧ ms.isEmpty = true) := by
      cases a <;> cases b <;> first
        | exact absurd rfl hn
        | (exfalso; unfold binW at h; cases op <;> exact h)
        | (refine ⟨rfl, rfl, ?_⟩
           unfold binW at h
           cases op <;> first
             | exact h.elim
             | (simp only at h
                split at h <;> try exact h.elim
                rename_i ms hms
                refine ⟨ms, hms, ?_⟩
                cases hb : ms.isEmpty with
                | true => rfl
                | false => rw [hb] at h; exact h.elim))
    obtain ⟨rfl, rfl, ms, hms, he⟩ := key
    unfold eqGuard
    have hg : (Op.eqGuardIn Op.maxDepth xt .nilIface .nilIface).run P w = .ok false w := by
      exact eqGuardIn_nil (d := 9999) hms he
    cases op <;> first
      | rfl
      | (simp only [Sem.run_bind, hg]
         split <;> first | rfl | simp [hg])

theorem run_binOp_neq {P : Program} {xt : TypeId} {x y : Value} {w : World} {b : Bool} (h : (Op.equalIn 10000 xt x y).run P w = .ok b w)
    (h1 : binOp .neq xt x y = (do pure (.bool (!(← Op.equal xt x y))) : Sem Value)) : (binOp .neq xt x y).run P w = .ok (.bool (!b)) w := by
  rw [h1]; simp only [Op.equal, Op.maxDepth, Sem.run_bind, h, Result.andThen_ok, Sem.run_pure]
theorem run_binOp_eql' {P : Program} {xt : TypeId} {x y : Value} {w : World} {b : Bool} (h : (Op.equalIn 10000 xt x y).run P w = .ok b w)
    (h1 : binOp .eql xt x y = (do pure (.bool (← Op.equal xt x y)) : Sem Value)) : (binOp .eql xt x y).run P w = .ok (.bool b) w := by
  rw [h1]; simp only [Op.equal, Op.maxDepth, Sem.run_bind, h, Result.andThen_ok, Sem.run_pure]

section
variable {P : Program} {T : TT P} {t : TypeId} {w : World} {d : Nat}
theorem eq_bool (h : T.und t = some .bool) (a c : Bool) : (Op.equalIn (d + 1) t (.bool a) (.bool c)).run P w = .ok (a == c) w := by
  simp only [Op.equalIn, Sem.run_bind, run_underlying' h, Result.andThen_ok]; rfl
theorem eq_ptr {e : TypeId} (h : T.und t = some (.pointer e)) (a : Option Addr) : (Op.equalIn (d + 1) t (.pointer a) (.pointer none)).run P w = .ok a.isNone w := by
  simp only [Op.equalIn, Sem.run_bind, run_underlying' h, Result.andThen_ok]; cases a <;> rfl
theorem eq_func {p r : Array TypeId} {v : Bool} (h : T.und t = some (.func p r v)) (f : Fn) (a c : Array Value) : (Op.equalIn (d + 1) t (.func f a c) .nilFunc).run P w = .ok false w := by
  simp only [Op.equalIn, Sem.run_bind, run_underlying' h, Result.andThen_ok]; rfl
theorem eq_nilFunc {p r : Array TypeId} {v : Bool} (h : T.und t = some (.func p r v)) : (Op.equalIn (d + 1) t .nilFunc .nilFunc).run P w = .ok true w := by
  simp only [Op.equalIn, Sem.run_bind, run_underlying' h, Result.andThen_ok]; rfl
theorem eq_iface {m} (h : T.und t = some (.interface m)) (f : TypeId) (a : Value) : (Op.equalIn (d + 1) t (.iface f a) .nilIface).run P w = .ok false w := by
  simp only [Op.equalIn, Sem.run_bind, run_underlying' h, Result.andThen_ok]; rfl
theorem eq_nilIface {m} (h : T.und t = some (.interface m)) : (Op.equalIn (d + 1) t .nilIface .nilIface).run P w = .ok true w := by
  simp only [Op.equalIn, Sem.run_bind, run_underlying' h, Result.andThen_ok]; rfl
theorem eq_map {k e : TypeId} (h : T.und t = some (.map k e)) (a : Option Nat) : (Op.equalIn (d + 1) t (.map a) (.map none)).run P w = .ok a.isNone w := by
  simp only [Op.equalIn, Sem.run_bind, run_underlying' h, Result.andThen_ok]; cases a <;> rfl
theorem eq_slice {e : TypeId} (h : T.und t = some (.slice e)) (a : Option Addr) (l c l' c' : Nat) : (Op.equalIn (d + 1) t (.slice a l c) (.slice none l' c')).run P w = .ok a.isNone w := by
  simp only [Op.equalIn, Sem.run_bind, run_underlying' h, Result.andThen_ok]; cases a <;> rfl
end

theorem binW_sound {P : Program} {T : TT P} {op : BinOp} {xt : TypeId} {x y : Value} {K : Value → Prop} (h : binW T op xt x y K) : ∃ v, K v ∧ ∀ w, (binOp op xt x y).run P w = .ok v w := by
  unfold binW at h
  split at h
  case h_1 => obtain ⟨hb, k⟩ := h; exact ⟨_, k, fun w => by simp [binOp, Op.shift, shl, Int.not_lt.2 hb]⟩
  case h_2 => obtain ⟨hb, k⟩ := h; exact ⟨_, k, fun w => by simp [binOp, Op.shift, shr, Int.not_lt.2 hb]⟩
  case h_3 =>
    rename_i k a k' b e1 e2
    cases hk : kindBeq k k' <;> simp only [hk, cond_true, cond_false] at h
    obtain rfl := kindBeq_eq hk
    cases op <;> simp only at h <;> first
      | exact h.elim
      | exact absurd rfl e1
      | exact absurd rfl e2
      | exact ⟨_, h, fun w => by simp [binOp, Op.intArith, Op.intBits, Op.intCmp, bAnd, bOr, bXor, bAndNot]⟩
      | (obtain ⟨hz, k⟩ := h; exact ⟨_, k, fun w => by simp [binOp, Op.intDiv, hz]⟩)
  case h_4 => exact ⟨_, h, fun _ => rfl⟩
  case h_5 => exact ⟨_, h, fun _ => rfl⟩
  case h_6 => obtain ⟨hb, k⟩ := h; exact ⟨_, k, fun w => by simp only [binOp, Op.stringOp]; rw [if_neg (by simpa using hb)]; rfl⟩
  case h_7 => (split at h <;> try exact h.elim); rename_i htd; refine ⟨_, h, fun w => ?_⟩; exact run_binOp_eql' (eq_bool (d := 9999) htd _ _) rfl
  case h_8 => (split at h <;> try exact h.elim); rename_i htd; refine ⟨_, h, fun w => ?_⟩; exact run_binOp_neq (eq_bool (d := 9999) htd _ _) rfl
  case h_9 => (split at h <;> try exact h.elim); rename_i htd; refine ⟨_, h, fun w => ?_⟩; exact run_binOp_eql' (eq_ptr (d := 9999) htd _) rfl
  case h_10 => (split at h <;> try exact h.elim); rename_i htd; refine ⟨_, h, fun w => ?_⟩; exact run_binOp_neq (eq_ptr (d := 9999) htd _) rfl
  case h_11 => (split at h <;> try exact h.elim); rename_i htd; refine ⟨_, h, fun w => ?_⟩; exact run_binOp_eql' (eq_func (d := 9999) htd _ _ _) rfl
  case h_12 => (split at h <;> try exact h.elim); rename_i htd; refine ⟨_, h, fun w => ?_⟩; exact run_binOp_neq (eq_func (d := 9999) htd _ _ _) rfl
  case h_13 => (split at h <;> try exact h.elim); rename_i htd; refine ⟨_, h, fun w => ?_⟩; exact run_binOp_eql' (eq_nilFunc (d := 9999) htd) rfl
  case h_14 => (split at h <;> try exact h.elim); rename_i htd; refine ⟨_, h, fun w => ?_⟩; exact run_binOp_neq (eq_nilFunc (d := 9999) htd) rfl
  case h_15 => (split at h <;> try exact h.elim); rename_i htd; refine ⟨_, h, fun w => ?_⟩; exact run_binOp_eql' (eq_iface (d := 9999) htd _ _) rfl
  case h_16 => (split at h <;> try exact h.elim); rename_i htd; refine ⟨_, h, fun w => ?_⟩; exact run_binOp_neq (eq_iface (d := 9999) htd _ _) rfl
  case h_17 => (split at h <;> try exact h.elim); rename_i ms htd; cases he : ms.isEmpty <;> simp only [he, cond_true, cond_false] at h; refine ⟨_, h, fun w => ?_⟩; exact run_binOp_eql' (eq_nilIface (d := 9999) htd) rfl
  case h_18 => (split at h <;> try exact h.elim); rename_i ms htd; cases he : ms.isEmpty <;> simp only [he, cond_true, cond_false] at h; refine ⟨_, h, fun w => ?_⟩; exact run_binOp_neq (eq_nilIface (d := 9999) htd) rfl
  case h_19 => (split at h <;> try exact h.elim); rename_i htd; refine ⟨_, h, fun w => ?_⟩; exact run_binOp_eql' (eq_map (d := 9999) htd _) rfl
  case h_20 => (split at h <;> try exact h.elim); rename_i htd; refine ⟨_, h, fun w => ?_⟩; exact run_binOp_neq (eq_map (d := 9999) htd _) rfl
  case h_21 => (split at h <;> try exact h.elim); rename_i htd; refine ⟨_, h, fun w => ?_⟩; exact run_binOp_eql' (eq_slice (d := 9999) htd _ _ _ _ _) rfl
  case h_22 => (split at h <;> try exact h.elim); rename_i htd; refine ⟨_, h, fun w => ?_⟩; exact run_binOp_neq (eq_slice (d := 9999) htd _ _ _ _ _) rfl
  case h_23 => exact h.elim

end Go.W

namespace Go.W
set_option linter.unusedSimpArgs false
set_option linter.unusedVariables false

def zeroL {P : Program} (T : TT P) (t : TypeId) : Option (List Value) := match T.inf t with
  | some i => match i.zero with | some v => some (cellsL v) | none => none
  | none => none
def allocW {P : Program} (T : TT P) (t : TypeId) (w : World) (K : Value → World → Prop) : Prop :=
  match zeroL T t with
  | some cs => newW w (.cells cs.toArray t (0, 0)) fun b w' => K (.pointer (some ⟨b, 0, none⟩)) w'
  | none => False
def boxW (t : TypeId) (v : Value) (w : World) (K : Value → World → Prop) : Prop :=
  newW w (.cells (cellsL v).toArray t (0, 0)) fun b w' => K (.pointer (some ⟨b, 0, none⟩)) w'

theorem zeroL_run {P : Program} {T : TT P} {t : TypeId} {cs : List Value} (h : zeroL T t = some cs) (w : World) : ∃ v, (zeroValue t).run P w = .ok v w ∧ v.cells = cs.toArray := by
  unfold zeroL at h
  split at h
  · rename_i i hi
    split at h
    · rename_i v hv
      obtain ⟨j, hj, _, hz⟩ := T.inf_ok _ _ hi
      refine ⟨v, by simp [zeroValue, typeInfo, hj, hz, hv], ?_⟩
      have := Option.some.inj h
      rw [← this, cellsL_eq]
    · exact absurd h (by simp)
  · exact absurd h (by simp)
theorem allocW_sound {P : Program} {T : TT P} {t : TypeId} {w : World} {K : Value → World → Prop} (h : allocW T t w K) : ∃ v w', K v w' ∧ (Instr.alloc t true (.tuple #[])).run P w = .ok v w' := by
  unfold allocW at h
  split at h <;> try exact h.elim
  rename_i cs hcs
  obtain ⟨v, hr, hv⟩ := zeroL_run hcs w
  refine ⟨_, _, h _ _ rfl rfl, ?_⟩
  simp only [Instr.alloc, Sem.run_bind, hr, Result.andThen_ok, newVar, newRow, run_newObj, Sem.run_pure, hv]
  rfl
theorem boxW_sound {P : Program} {t : TypeId} {v : Value} {w : World} {K : Value → World → Prop} (h : boxW t v w K) : ∃ u w', K u w' ∧ (Instr.box t v).run P w = .ok u w' := by
  refine ⟨_, _, h _ _ rfl rfl, ?_⟩
  simp only [Instr.box, newVar, newRow, Sem.run_bind, run_newObj, Result.andThen_ok, Sem.run_pure, cellsL_eq]
  rfl

/-! putting cells together -/
def setL : List Value → Nat → List Value → List Value
  | cs, _, [] => cs
  | cs, o, v :: vs => setL (cs.set o v) (o + 1) vs
def fillL (place : Nat → Option (Nat × Nat)) : List Value → List (Nat × Value) → Option (List Value)
  | cs, [] => some cs
  | cs, (i, v) :: rest => match place i with
    | none => none
    | some (off, size) => bif Nat.beq (cellsL v).length size && Nat.ble (off + (cellsL v).length) cs.length then fillL place (setL cs off (cellsL v)) rest else none

theorem foldl_setL : ∀ (vs : List Value) (cs : Array Value) (off j : Nat),
    ((vs.zipIdx j).foldl (fun cs (p : Value × Nat) => cs.setIfInBounds (off + p.2) p.1) cs) = (setL cs.toList (off + j) vs).toArray
  | [], cs, off, j => by simp [setL]
  | v :: vs, cs, off, j => by
    have ih := foldl_setL vs (cs.setIfInBounds (off + j) v) off (j + 1)
    simp only [setL, List.zipIdx_cons, List.foldl_cons, ih]
    simp [Nat.add_assoc]
theorem setL_length : ∀ (vs : List Value) (cs : List Value) (o : Nat), (setL cs o vs).length = cs.length
  | [], cs, o => rfl
  | v :: vs, cs, o => by simp [setL, setL_length vs]
theorem fillL_sound (place : Nat → Option (Nat × Nat)) : ∀ (ps : List (Nat × Value)) (cs out : List Value), fillL place cs ps = some out → Instr.fill place cs.toArray ps = some out.toArray
  | [], cs, out, h => by simp only [fillL, Option.some.injEq] at h; simp [Instr.fill, h]
  | (i, v) :: rest, cs, out, h => by
    simp only [fillL] at h
    split at h
    · exact absurd h (by simp)
    · rename_i off size hp
      cases hb : (Nat.beq (cellsL v).length size && Nat.ble (off + (cellsL v).length) cs.length) <;> simp only [hb, cond_true, cond_false] at h
      · exact absurd h (by simp)
      · simp only [Bool.and_eq_true] at hb
        have h1 := Nat.eq_of_beq_eq_true hb.1
        have h2 := Nat.le_of_ble_eq_true hb.2
        have hl : (cellsL v).length = v.cells.size := by rw [cellsL_eq]; simp
        simp only [Instr.fill, hp]
        rw [if_neg (by simp only [List.size_toArray, Bool.or_eq_true, decide_eq_true_eq]; omega)]
        have e : (v.cells.zipIdx.foldl (fun cs (x : Value × Nat) => match x with | (c, j) => cs.setIfInBounds (off + j) c) cs.toArray) = (setL cs off (cellsL v)).toArray := by
          have := foldl_setL (cellsL v) cs.toArray off 0
          rw [cellsL_eq] at this ⊢
          simp only [Nat.add_zero] at this
          rw [← this]
          cases hc : v.cells with | mk l => simp
        rw [e]; exact fillL_sound place rest _ _ h

def evL (ρ : Operand → Value) : List (Nat × Operand) → List (Nat × Value)
  | [] => []
  | (i, x) :: r => (i, ρ x) :: evL ρ r
def placesL {P : Program} (T : TT P) : List Field → Option (List (Nat × Nat))
  | [] => some []
  | f :: fs => match T.inf f.type with
    | some i => match placesL T fs with | some l => some ((f.offset, i.size) :: l) | none => none
    | none => none
def replL (n : Nat) (l : List Value) : List Value := match n with | 0 => [] | n + 1 => l ++ replL n l
def buildW {P : Program} (T : TT P) (t : TypeId) (parts : List (Nat × Value)) (K : Value → Prop) : Prop :=
  match zeroL T t with
  | some z => match T.und t with
    | some (.struct fs) => match placesL T fs.toList with
      | some pl => match fillL (fun i => pl[i]?) z parts with
        | some cs => K (.agg cs.toArray)
        | none => False
      | none => False
    | some (.array _ e) => match T.inf e with
      | some i => match fillL (fun j => some (j * i.size, i.size)) z parts with
        | some cs => K (.agg cs.toArray)
        | none => False
      | none => False
    | _ => False
  | none => False
def buildSliceW {P : Program} (T : TT P) (t : TypeId) (len : Nat) (parts : List (Nat × Value)) (w : World) (K : Value → World → Prop) : Prop :=
  match T.und t with
  | some (.slice e) => match T.inf e with
    | some i => bif Nat.ble (len * i.size) 4096 && Nat.blt 0 i.size then
        match zeroL T e with
        | some z => bif Nat.beq z.length i.size then
            match fillL (fun j => some (j * i.size, i.size)) (replL len z) parts with
            | some cs => newW w (.cells cs.toArray e (0, 0)) fun b w' => K (.slice (some ⟨b, 0, none⟩) len len) w'
            | none => False
          else False
        | none => False
      else False
    | none => False
  | _ => False

theorem placesL_run {P : Program} {T : TT P} : ∀ (fs : List Field) (pl : List (Nat × Nat)), placesL T fs = some pl → ∀ w, (fs.mapM fun f => (do pure (f.offset, ← sizeOf f.type) : Sem (Nat × Nat))).run P w = .ok pl w
  | [], pl, h, w => by simp only [placesL, Option.some.injEq] at h; simp [← h]
  | f :: fs, pl, h, w => by
    simp only [placesL] at h
    split at h
    · rename_i i hi
      split at h
      · rename_i l hl
        have := Option.some.inj h
        subst this
        simp only [List.mapM_cons, Sem.run_bind, run_sizeOf' hi, Result.andThen_ok, Sem.run_pure, placesL_run fs l hl w]
      · exact absurd h (by simp)
    · exact absurd h (by simp)
theorem buildW_sound {P : Program} {T : TT P} {t : TypeId} {parts : Array (Nat × Value)} {K : Value → Prop} (h : buildW T t parts.toList K) : ∃ v, K v ∧ ∀ w, (Instr.build t parts).run P w = .ok v w := by
  unfold buildW at h
  split at h <;> try exact h.elim
  rename_i z hz
  split at h <;> try exact h.elim
  · rename_i fs hfs
    split at h <;> try exact h.elim
    rename_i pl hpl
    split at h <;> try exact h.elim
    rename_i cs hcs
    refine ⟨_, h, fun w => ?_⟩
    obtain ⟨v, hr, hv⟩ := zeroL_run hz w
    have hm : (fs.mapM fun f => (do pure (f.offset, ← sizeOf f.type) : Sem (Nat × Nat))).run P w = .ok pl.toArray w := by
      have := placesL_run fs.toList pl hpl w
      rw [Array.mapM_eq_mapM_toList]
      simp only [Sem.run_map, this, Result.andThen_ok]
    have hf := fillL_sound _ _ _ _ hcs
    simp only [Instr.build, Sem.run_bind, hr, Result.andThen_ok, run_underlying' hfs, hm, hv]
    have e : (fun (x : Nat) => pl.toArray[x]?) = fun (i : Nat) => pl[i]? := by funext i; simp
    rw [e, hf]; rfl
  · rename_i n e he
    split at h <;> try exact h.elim
    rename_i i hi
    split at h <;> try exact h.elim
    rename_i cs hcs
    refine ⟨_, h, fun w => ?_⟩
    obtain ⟨v, hr, hv⟩ := zeroL_run hz w
    have hf := fillL_sound _ _ _ _ hcs
    simp only [Instr.build, Sem.run_bind, hr, Result.andThen_ok, run_underlying' he, run_sizeOf' hi, hv, hf]; rfl

theorem replL_eq (n : Nat) (z : List Value) (hz : 0 < z.length) : (replL n z).toArray = (Array.range (n * z.length)).map (fun i => z.toArray[i % z.toArray.size]!) := by
  apply Array.ext'
  simp only [Array.toList_map, Array.toList_range, List.size_toArray]
  induction n with
  | zero => simp [replL]
  | succ n ih =>
    simp only [replL]
    rw [Nat.succ_mul, Nat.add_comm, List.range_add, List.map_append]
    congr 1
    · apply List.ext_getElem
      · simp
      · intro i h1 h2
        simp [Nat.mod_eq_of_lt h1, h1]
    · rw [ih, List.map_map]
      apply List.map_congr_left
      intro i _
      simp
theorem buildSliceW_sound {P : Program} {T : TT P} {t : TypeId} {len : Nat} {parts : Array (Nat × Value)} {w : World} {K : Value → World → Prop} (h : buildSliceW T t len parts.toList w K) :
    ∃ v w', K v w' ∧ (Instr.buildSlice t len parts).run P w = .ok v w' := by
  unfold buildSliceW at h
  split at h <;> try exact h.elim
  rename_i e he
  split at h <;> try exact h.elim
  rename_i i hi
  cases hb : (Nat.ble (len * i.size) 4096 && Nat.blt 0 i.size) <;> simp only [hb, cond_true, cond_false] at h
  simp only [Bool.and_eq_true] at hb
  have h1 := Nat.le_of_ble_eq_true hb.1
  have h2 : 0 < i.size := by simpa using hb.2
  split at h <;> try exact h.elim
  rename_i z hz
  cases hzl : Nat.beq z.length i.size <;> simp only [hzl, cond_true, cond_false] at h
  have hzl' := Nat.eq_of_beq_eq_true hzl
  split at h <;> try exact h.elim
  rename_i cs hcs
  refine ⟨_, _, h _ _ rfl rfl, ?_⟩
  obtain ⟨v, hr, hv⟩ := zeroL_run hz w
  have hf := fillL_sound _ _ _ _ hcs
  rw [replL_eq _ _ (by omega)] at hf
  simp only [Instr.buildSlice, Sem.run_bind, run_underlying' he, Result.andThen_ok, run_sizeOf' hi]
  rw [if_neg (by simp only [Nat.reducePow]; omega)]
  by_cases hn : len * i.size = 0
  · have hl0 : len = 0 := by rcases Nat.mul_eq_zero.1 hn with h | h <;> omega
    subst hl0
    simp only [Nat.zero_mul, if_true, Sem.run_bind, Sem.run_pure, Result.andThen_ok] at hf ⊢
    have hf' : Instr.fill (fun j => some (j * i.size, i.size)) ((Array.range 0).map (fun j => (#[] : Array Value)[j % (#[] : Array Value).size]!)) parts.toList = some cs.toArray := by
      have e : ∀ g : Nat → Value, (Array.range 0).map g = #[] := fun g => by simp [Array.range]
      rw [e] at hf ⊢; exact hf
    simp only [hf', newRow, Sem.run_bind, run_newObj, Result.andThen_ok, Sem.run_pure]
    rfl
  · simp only [hn, if_false, Sem.run_bind, hr, Sem.run_pure, Result.andThen_ok, hv]
    rw [hzl'] at hf
    simp only [hf, newRow, Sem.run_bind, run_newObj, Result.andThen_ok, Sem.run_pure]
    rfl

end Go.W

namespace Go.W
set_option linter.unusedSimpArgs false
set_option linter.unusedVariables false

def unW (op : UnOp) (x : Value) (K : Value → Prop) : Prop :=
  match op, x with
  | .not, .bool b => K (.bool (!b))
  | .neg, .int k n => K (.int k (k.wrap (0 - n)))
  | .xor, .int k n => K (.int k (bXor k (if k.signed then -1 else k.max) n))
  | _, _ => False
theorem unW_sound {P : Program} {op : UnOp} {x : Value} {K : Value → Prop} (h : unW op x K) : ∃ v, K v ∧ ∀ w, (Op.unary op x).run P w = .ok v w := by
  unfold unW at h
  split at h
  · exact ⟨_, h, fun _ => rfl⟩
  · exact ⟨_, h, fun _ => rfl⟩
  · exact ⟨_, h, fun w => by simp [Op.unary, Op.intBits, bXor]⟩
  · exact h.elim

/-- a slice of bytes that reads as these bytes -/
def bytesAt (w : World) (a : Option Addr) (len : Nat) (bs : List UInt8) : Prop :=
  bs.length = len ∧ ∀ b o, a = some ⟨b, o, none⟩ → ∀ i (h : i < bs.length), w.cell? ⟨b, o + i, none⟩ = some (.int .u8 (bs[i].toNat : Int))
def plainAddr (a : Option Addr) : Prop := ∀ p, a = some p → p.spot = none

def convW {P : Program} (T : TT P) (src dst : TypeId) (x : Value) (w : World) (K : Value → World → Prop) : Prop :=
  match T.und src, T.und dst, x with
  | some _, some (.int k), .int _ n => K (.int k (k.wrap n)) w
  | some _, some .string, .string s => K (.string s) w
  | some _, some (.slice e), .string s => match T.und e with
    | some (.int .u8) => ∀ b w' cap, s.size ≤ cap → b = w.heap.size → w' = (w.drew).alloc (.cells ((s.data.map fun c => Value.int .u8 c.toNat) ++ Array.replicate (cap - s.size) (.int .u8 0)) e (cap, cap + 1)) →
        K (.slice (some ⟨b, 0, none⟩) s.size cap) w'
    | _ => False
  | some (.slice _), some (.slice e), .slice (some a) len cap => match T.und e with
    | some (.int .u8) => bif Nat.beq src dst then ∀ w', (∀ t n, w.shape? a.block = some (t, n) → w' = w.freeze ⟨a.block, n, none⟩ 1) → (w.shape? a.block = none → w' = w) → K (.slice (some a) len cap) w' else False
    | _ => False
  | some (.slice e), some .string, .slice a len _ => match T.und e with
    | some (.int .u8) => plainAddr a ∧ ∃ bs : List UInt8, (a = none → len = 0) ∧ bytesAt w a len bs ∧ K (.string ⟨bs.toArray⟩) w
    | _ => False
  | _, _, _ => False

theorem loadBytes_run {P : Program} {w : World} {b o : Nat} : ∀ (bs : List UInt8) (i : Nat) (acc : Array Value), (∀ j (h : j < bs.length), w.cell? ⟨b, o + (i + j), none⟩ = some (.int .u8 (bs[j].toNat : Int))) →
    (loadCellsFrom ⟨b, o, none⟩ i bs.length acc).run P w = .ok (acc ++ (bs.map fun c => Value.int .u8 (c.toNat : Int)).toArray) w
  | [], i, acc, _ => by simp [loadCellsFrom]
  | c :: bs, i, acc, h => by
    have h0 : w.cell? ((⟨b, o, none⟩ : Addr).add i) = some (.int .u8 (c.toNat : Int)) := by
      have := h 0 (by simp); rw [add_none rfl]; simp only [List.getElem_cons_zero, Nat.add_zero] at this; exact this
    have ih := loadBytes_run (P := P) bs (i + 1) (acc.push (.int .u8 (c.toNat : Int))) (fun j hj => by
      have := h (j + 1) (by simp; omega)
      simpa [Nat.add_assoc, Nat.add_comm 1 j] using this)
    simp only [List.length_cons, loadCellsFrom, Sem.run_bind, run_load_some h0, Result.andThen_ok, ih]
    simp

theorem bytesFold_run {P : Program} {w : World} (f : Value → ByteArray → Sem (ForInStep ByteArray)) (hf : ∀ (n : Int) s, f (.int .u8 n) s = pure (.yield (s.push (UInt8.ofNat n.toNat)))) :
    ∀ (bs : List UInt8) (s : ByteArray), (forIn (bs.map fun c => Value.int .u8 (c.toNat : Int)) s f : Sem ByteArray).run P w = .ok ⟨s.data ++ bs.toArray⟩ w
  | [], s => by simp
  | c :: bs, s => by
    have ih := bytesFold_run (P := P) (w := w) f hf bs (s.push c)
    simp only [List.map_cons, List.forIn_cons, hf, pure_bind, Int.toNat_natCast, UInt8.ofNat_toNat]
    rw [ih]
    simp [ByteArray.push]

theorem bytesToString_run {P : Program} {w : World} {a : Option Addr} {len cap : Nat} {bs : List UInt8} (hp : plainAddr a) (hn : a = none → len = 0) (h : bytesAt w a len bs) :
    (Conv.bytesToString (.slice a len cap)).run P w = .ok (.string ⟨bs.toArray⟩) w := by
  obtain ⟨hl, hc⟩ := h
  cases a with
  | none =>
    have : bs = [] := List.length_eq_zero_iff.1 (by rw [hl, hn rfl])
    subst this; rfl
  | some p =>
    obtain ⟨b, o, s⟩ := p
    have hs : s = none := hp _ rfl
    subst hs
    have hr := loadBytes_run (P := P) bs 0 #[] (fun j hj => by simpa using hc b o rfl j hj)
    simp only [Conv.bytesToString, Sem.run_bind, loadCells, ← hl, hr, Result.andThen_ok]
    simp only [Array.empty_append, List.forIn_toArray]
    rw [bytesFold_run (P := P) (w := w) _ (fun n s => rfl) bs ByteArray.empty]
    simp only [Result.andThen_ok, Sem.run_pure]
    congr 3
    exact Array.empty_append

theorem convW_sound {P : Program} {T : TT P} {src dst : TypeId} {x : Value} {w : World} {K : Value → World → Prop} (h : convW T src dst x w K) : ∃ v w', K v w' ∧ (convert src dst x).run P w = .ok v w' := by
  unfold convW at h
  split at h
  · rename_i td k _ n h1 h2
    refine ⟨_, _, h, ?_⟩
    simp only [convert, Sem.run_bind, run_underlying' h1, run_underlying' h2, Result.andThen_ok]; rfl
  · rename_i td s h1 h2
    refine ⟨_, _, h, ?_⟩
    simp only [convert, Sem.run_bind, run_underlying' h1, run_underlying' h2, Result.andThen_ok]; rfl
  · rename_i td e s h1 h2
    split at h <;> try exact h.elim
    rename_i he
    have hq : ∃ cap, s.size ≤ cap ∧ (choose (.appendCap s.size 0 e)).run P w = .ok cap w.drew := by
      simp only [run_choose, Question.forced, Question.cut]
      exact ⟨_, Nat.le_add_right _ _, rfl⟩
    obtain ⟨cap, hcap, hch⟩ := hq
    refine ⟨_, _, h _ _ cap hcap rfl rfl, ?_⟩
    simp only [convert, Sem.run_bind, run_underlying' h1, run_underlying' h2, Result.andThen_ok, run_underlying' he]
    simp only [Conv.stringToBytes, Sem.run_bind, hch, Result.andThen_ok, newRow, run_newObj, Sem.run_pure]
    have hsz : s.data.size = s.size := rfl
    have hz : ((s.data.map fun c => Value.int .u8 c.toNat) ++ Array.replicate (cap - s.size) (Value.int .u8 0)).size = cap := by
      have h0 : s.data.size ≤ cap := hcap
      have h1 : s.size = s.data.size := rfl
      simp only [Array.size_append, Array.size_map, Array.size_replicate]; omega
    have hs : (World.shape? { w.drew with heap := w.drew.heap.push (.cells ((s.data.map fun c => Value.int .u8 c.toNat) ++ Array.replicate (cap - s.size) (.int .u8 0)) e (0, 0)) } w.drew.heap.size) = some (e, cap) := by
      simp only [World.shape?, Array.getElem?_push_size, hz]
    simp only [markStringish, Sem.run_bind, run_shape, hs, Result.andThen_ok, run_freeze, Sem.run_pure]
    congr 1
    simp only [World.freeze, if_neg (by decide : ¬ (1 = 0))]
    congr 1
    apply Array.ext
    · simp
    · intro i h1 h2
      simp only [Array.getElem_modify, Array.getElem_push]
      by_cases hi : i < w.heap.size
      · simp [hi, Nat.ne_of_gt hi]
      · have : i = w.heap.size := by simp at h1; omega
        subst this; simp
  · rename_i e a len cap h1 h2
    split at h <;> try exact h.elim
    rename_i he
    cases hsd : Nat.beq src dst <;> simp only [hsd, cond_true, cond_false] at h
    have hsd' : src = dst := Nat.eq_of_beq_eq_true hsd
    cases hs : w.shape? a.block with
    | none =>
      refine ⟨_, _, h w (fun t n hh => by rw [hs] at hh; cases hh) (fun _ => rfl), ?_⟩
      simp only [convert, Sem.run_bind, run_underlying' h1, run_underlying' h2, Result.andThen_ok, run_underlying' he]
      simp [hsd', markStringish, run_shape, hs]
    | some tn =>
      obtain ⟨t, n⟩ := tn
      refine ⟨_, _, h (w.freeze ⟨a.block, n, none⟩ 1) (fun t' n' hh => by rw [hs] at hh; cases hh; rfl) (fun hh => by rw [hs] at hh; cases hh), ?_⟩
      simp only [convert, Sem.run_bind, run_underlying' h1, run_underlying' h2, Result.andThen_ok, run_underlying' he]
      simp [hsd', markStringish, run_shape, hs, run_freeze]
  · rename_i e a len cap h1 h2
    split at h <;> try exact h.elim
    rename_i he
    obtain ⟨hp, bs, hn, hb, k⟩ := h
    refine ⟨_, _, k, ?_⟩
    simp only [convert, Sem.run_bind, run_underlying' h1, run_underlying' h2, Result.andThen_ok, run_underlying' he, bytesToString_run hp hn hb]
  · exact h.elim

/-! places -/
def fieldAddrW {P : Program} (T : TT P) (s : TypeId) (a : Value) (f : Nat) (K : Value → Prop) : Prop :=
  match a with
  | .pointer (some a) => match a.spot with
    | none => match T.und s with
      | some (.struct fs) => match fs.toList[f]? with
        | some fd => match T.inf fd.type with
          | some i => bif Nat.beq i.size 0 then False else K (.pointer (some ⟨a.block, a.off + fd.offset, none⟩))
          | none => False
        | none => False
      | _ => False
    | some _ => False
  | _ => False
theorem fieldAddrW_sound {P : Program} {T : TT P} {s : TypeId} {a : Value} {f : Nat} {K : Value → Prop} (h : fieldAddrW T s a f K) : ∃ v, K v ∧ ∀ w, (Instr.fieldAt s a f).run P w = .ok v w := by
  unfold fieldAddrW at h
  split at h <;> try exact h.elim
  split at h <;> try exact h.elim
  rename_i hs
  split at h <;> try exact h.elim
  rename_i fs hfs
  split at h <;> try exact h.elim
  rename_i fd hfd
  split at h <;> try exact h.elim
  rename_i i hi
  cases hb : Nat.beq i.size 0 <;> simp only [hb, cond_true, cond_false] at h
  refine ⟨_, h, fun w => ?_⟩
  have hne : i.size ≠ 0 := fun e => by rw [e] at hb; exact absurd hb (by decide)
  have hfd' : fs[f]? = some fd := by simpa using hfd
  simp only [Instr.fieldAt, Sem.run_bind, run_underlying' hfs, Result.andThen_ok, hfd', Instr.sureAddr, Sem.run_pure, fieldPlace, run_sizeOf' hi, hne, if_false, add_none hs]
def partL {P : Program} (T : TT P) (t : TypeId) (cs : List Value) (off : Nat) (K : Value → Prop) : Prop :=
  match T.und t, T.inf t with
  | some td, some i => bif isAggW td then K (.agg ((cs.drop off).take i.size).toArray) else match cs[off]? with | some v => K v | none => False
  | _, _ => False
theorem partL_sound {P : Program} {T : TT P} {t : TypeId} {cs : Array Value} {off : Nat} {K : Value → Prop} (h : partL T t cs.toList off K) : ∃ v, K v ∧ ∀ w, (part t cs off).run P w = .ok v w := by
  unfold partL at h
  split at h <;> try exact h.elim
  rename_i td i h1 h2
  cases hb : isAggW td <;> simp only [hb, cond_true, cond_false] at h
  · split at h <;> try exact h.elim
    rename_i v hv
    refine ⟨_, h, fun w => ?_⟩
    have : cs[off]? = some v := by simpa using hv
    simp [part, run_isAgg h1, hb, this]
  · refine ⟨_, h, fun w => ?_⟩
    simp only [part, Sem.run_bind, run_isAgg h1, Result.andThen_ok, hb, if_true, run_sizeOf' h2, Sem.run_pure]
    congr 2
    apply Array.ext'
    simp [List.take_drop, Nat.add_comm]
def fieldW {P : Program} (T : TT P) (t : TypeId) (x : Value) (f : Nat) (K : Value → Prop) : Prop :=
  match x, T.und t with
  | .agg cs, some (.struct fs) => match fs.toList[f]? with
    | some fd => partL T fd.type cs.toList fd.offset K
    | none => False
  | _, _ => False
theorem fieldW_sound {P : Program} {T : TT P} {t : TypeId} {x : Value} {f : Nat} {K : Value → Prop} (h : fieldW T t x f K) : ∃ v, K v ∧ ∀ w, (Instr.field t x f).run P w = .ok v w := by
  unfold fieldW at h
  split at h <;> try exact h.elim
  rename_i cs fs hfs
  split at h <;> try exact h.elim
  rename_i fd hfd
  obtain ⟨v, k, hr⟩ := partL_sound h
  have hfd' : fs[f]? = some fd := by simpa using hfd
  exact ⟨v, k, fun w => by simp only [Instr.field, Sem.run_bind, run_underlying' hfs, Result.andThen_ok, hfd', asAgg, Sem.run_pure, hr]⟩
def indexAddrW {P : Program} (T : TT P) (t : TypeId) (x i : Value) (K : Value → Prop) : Prop :=
  match x, i, T.und t with
  | .slice a len _, .int _ i, some (.slice e) => match T.inf e with
    | some ti => ∃ b o, a = some ⟨b, o, none⟩ ∧ 0 ≤ i ∧ i < len ∧ K (.pointer (some ⟨b, o + i.toNat * ti.size, none⟩))
    | none => False
  | .pointer (some a), .int _ i, some (.array n e) => match a.spot, T.inf e with
    | none, some ti => 0 ≤ i ∧ i < n ∧ K (.pointer (some ⟨a.block, a.off + i.toNat * ti.size, none⟩))
    | _, _ => False
  | _, _, _ => False
theorem indexAddrW_sound {P : Program} {T : TT P} {t : TypeId} {x i : Value} {K : Value → Prop} (h : indexAddrW T t x i K) : ∃ v, K v ∧ ∀ w, (Instr.indexAt t x i).run P w = .ok v w := by
  unfold indexAddrW at h
  split at h
  · rename_i a len _ k i e he
    split at h <;> try exact h.elim
    rename_i ti hti
    obtain ⟨b, o, rfl, h0, h1, hk⟩ := h
    refine ⟨_, hk, fun w => ?_⟩
    simp only [Instr.indexAt, asIntOf, Sem.run_bind, Sem.run_pure, Result.andThen_ok, run_underlying' he]
    simp only [h0, h1, and_self, if_true, Sem.run_bind, run_sizeOf' hti, Result.andThen_ok, Sem.run_pure, add_none]
  · rename_i a k i n e he
    split at h <;> try exact h.elim
    rename_i ti hs hti
    obtain ⟨h0, h1, hk⟩ := h
    refine ⟨_, hk, fun w => ?_⟩
    simp only [Instr.indexAt, asIntOf, Instr.sureAddr, Sem.run_bind, Sem.run_pure, Result.andThen_ok, run_underlying' he]
    simp only [h0, h1, and_self, if_true, Sem.run_bind, run_sizeOf' hti, Result.andThen_ok, Sem.run_pure, add_none hs]
  · exact h.elim
def indexW {P : Program} (T : TT P) (t : TypeId) (x i : Value) (K : Value → Prop) : Prop :=
  match x, i, T.und t with
  | .string s, .int _ i, some .string => 0 ≤ i ∧ ∃ c, s.data.toList[i.toNat]? = some c ∧ K (.int .u8 (c.toNat : Int))
  | .agg cs, .int _ i, some (.array n e) => match T.inf e with
    | some ti => 0 ≤ i ∧ i < n ∧ partL T e cs.toList (i.toNat * ti.size) K
    | none => False
  | _, _, _ => False
theorem indexW_sound {P : Program} {T : TT P} {t : TypeId} {x i : Value} {K : Value → Prop} (h : indexW T t x i K) : ∃ v, K v ∧ ∀ w, (Instr.index t x i).run P w = .ok v w := by
  unfold indexW at h
  split at h
  · rename_i s k i ht
    obtain ⟨h0, c, hc, hk⟩ := h
    refine ⟨_, hk, fun w => ?_⟩
    have : s[i.toNat]? = some c := by
      obtain ⟨hl, he⟩ := List.getElem?_eq_some_iff.1 hc
      have hl' : i.toNat < s.size := by simpa using hl
      rw [getElem?_pos s i.toNat hl']
      exact congrArg some he
    simp only [Instr.index, asIntOf, Sem.run_bind, Sem.run_pure, Result.andThen_ok, run_underlying' ht, h0, if_true, this]
  · rename_i cs k i n e he
    split at h <;> try exact h.elim
    rename_i ti hti
    obtain ⟨h0, h1, h⟩ := h
    obtain ⟨v, k, hr⟩ := partL_sound h
    refine ⟨v, k, fun w => ?_⟩
    simp only [Instr.index, asIntOf, Sem.run_bind, Sem.run_pure, Result.andThen_ok, run_underlying' he, h0, h1, and_self, if_true, run_sizeOf' hti, hr]
  · exact h.elim

/-! slicing -/
def loW (x : Option Value) (h : Nat) (K : Nat → Prop) : Prop := match x with
  | none => K 0
  | some (.int _ i) => 0 ≤ i ∧ i ≤ (h : Int) ∧ K i.toNat
  | some _ => False
def hiW (x : Option Value) (len cap : Nat) (K : Nat → Prop) : Prop := match x with
  | none => K len
  | some (.int _ i) => 0 ≤ i ∧ i ≤ (cap : Int) ∧ K i.toNat
  | some _ => False
def sliceW {P : Program} (T : TT P) (t : TypeId) (x : Value) (lo hi mx : Option Value) (K : Value → Prop) : Prop :=
  match x, T.und t with
  | .string s, some .string => match mx with
    | none => hiW hi s.size s.size fun h => loW lo h fun l => K (.string (s.extract l h))
    | some _ => False
  | .slice a len cap, some (.slice e) => match T.inf e with
    | some ti => match mx with
      | none => hiW hi len cap fun h => loW lo h fun l => ∀ a', (l ≠ cap → a' = a.map (·.add (l * ti.size))) → (l = cap → a' = a) → K (.slice a' (h - l) (cap - l))
      | some m => match hi with
        | some h => hiW (some m) cap cap fun m => hiW (some h) len m fun h => loW lo h fun l => ∀ a', (l ≠ m → a' = a.map (·.add (l * ti.size))) → (l = m → a' = a) → K (.slice a' (h - l) (m - l))
        | none => False
    | none => False
  | _, _ => False
theorem lo_run {P : Program} {x : Option Value} {h : Nat} {c : BoundsCode} {K : Nat → Prop} {w : World} (hh : loW x h K) :
    ∃ l, K l ∧ ((match x with | some v => Instr.sliceBound v h c | none => pure 0 : Sem Nat)).run P w = .ok l w := by
  unfold loW at hh
  split at hh
  · exact ⟨0, hh, rfl⟩
  · obtain ⟨h0, h1, k⟩ := hh
    exact ⟨_, k, by simp [Instr.sliceBound, asIntOf, h0, h1]⟩
  · exact hh.elim
theorem sliceBound_run {P : Program} {k : IntKind} {i : Int} {y : Nat} {c : BoundsCode} {w : World} (h0 : 0 ≤ i) (h1 : i ≤ (y : Int)) : (Instr.sliceBound (.int k i) y c).run P w = .ok i.toNat w := by
  simp [Instr.sliceBound, asIntOf, h0, h1]
theorem slice3_sound {P : Program} {T : TT P} {t e : TypeId} {a : Option Addr} {len cap : Nat} {ti : TI} {lo : Option Value} {h2 m2 : Value} {K : Value → Prop} (ht : T.und t = some (.slice e)) (hti : T.inf e = some ti)
    (h : hiW (some m2) cap cap fun m => hiW (some h2) len m fun h => loW lo h fun l => ∀ a', (l ≠ m → a' = a.map (·.add (l * ti.size))) → (l = m → a' = a) → K (.slice a' (h - l) (m - l))) :
    ∃ v, K v ∧ ∀ w, (Instr.sliceAt t (.slice a len cap) lo (some h2) (some m2)).run P w = .ok v w := by
  unfold hiW at h
  split at h
  · rename_i hx; exact absurd hx (by simp)
  · rename_i k1 i1 hx
    obtain rfl := Option.some.inj hx
    obtain ⟨m0, m1, h⟩ := h
    split at h
    · rename_i hx; exact absurd hx (by simp)
    · rename_i k2 i2 hx
      obtain rfl := Option.some.inj hx
      obtain ⟨g0, g1, h⟩ := h
      have fin : ∀ {l h mm : Nat}, (∀ a', (l ≠ mm → a' = a.map (·.add (l * ti.size))) → (l = mm → a' = a) → K (.slice a' (h - l) (mm - l))) →
          K (.slice (if mm = l then a else a.map (·.add (l * ti.size))) (h - l) (mm - l)) := fun {l h mm} hk =>
        hk _ (fun hne => by rw [if_neg (Ne.symm hne)]) (fun he => by rw [if_pos he.symm])
      unfold loW at h
      split at h
      · refine ⟨_, fin h, fun w => ?_⟩
        simp [Instr.sliceAt, Instr.slice, Instr.sliceBounds, run_underlying' ht, sliceBound_run m0 m1, sliceBound_run g0 g1, run_sizeOf' hti]
      · obtain ⟨h0, h1, k⟩ := h
        refine ⟨_, fin k, fun w => ?_⟩
        simp [Instr.sliceAt, Instr.slice, Instr.sliceBounds, run_underlying' ht, sliceBound_run m0 m1, sliceBound_run g0 g1, sliceBound_run h0 h1, run_sizeOf' hti]
      · exact h.elim
    · exact h.elim
  · exact h.elim

theorem sliceW_sound {P : Program} {T : TT P} {t : TypeId} {x : Value} {lo hi mx : Option Value} {K : Value → Prop} (h : sliceW T t x lo hi mx K) : ∃ v, K v ∧ ∀ w, (Instr.sliceAt t x lo hi mx).run P w = .ok v w := by
  unfold sliceW at h
  split at h
  · rename_i s ht
    split at h <;> try exact h.elim
    have key : ∃ h l, K (.string (s.extract l h)) ∧ ∀ w, (Instr.sliceBounds false s.size s.size lo hi none).run P w = .ok (l, h, s.size) w := by
      unfold hiW at h
      split at h
      · unfold loW at h
        split at h
        · exact ⟨_, _, h, fun w => by simp [Instr.sliceBounds]⟩
        · obtain ⟨h0, h1, k⟩ := h
          exact ⟨_, _, k, fun w => by simp [Instr.sliceBounds, sliceBound_run h0 h1]⟩
        · exact h.elim
      · obtain ⟨g0, g1, h⟩ := h
        unfold loW at h
        split at h
        · exact ⟨_, _, h, fun w => by simp [Instr.sliceBounds, sliceBound_run g0 g1]⟩
        · obtain ⟨h0, h1, k⟩ := h
          exact ⟨_, _, k, fun w => by simp [Instr.sliceBounds, sliceBound_run g0 g1, sliceBound_run h0 h1]⟩
        · exact h.elim
      · exact h.elim
    obtain ⟨h, l, k, hr⟩ := key
    refine ⟨_, k, fun w => ?_⟩
    simp only [Instr.sliceAt, Instr.slice, Sem.run_bind, run_underlying' ht, Result.andThen_ok]
    simp only [Option.isSome_none, Bool.false_eq_true, if_false, Sem.run_bind, hr, Result.andThen_ok, Sem.run_pure]
  · rename_i a len cap e ht
    split at h <;> try exact h.elim
    rename_i ti hti
    split at h
    rotate_left
    · split at h <;> try exact h.elim
      rename_i m1 h1'
      exact slice3_sound ht hti h
    have key : ∃ h l, K (.slice (if cap = l then a else a.map (·.add (l * ti.size))) (h - l) (cap - l)) ∧ ∀ w, (Instr.sliceBounds true len cap lo hi none).run P w = .ok (l, h, cap) w := by
      have fin : ∀ {l h : Nat}, (∀ a', (l ≠ cap → a' = a.map (·.add (l * ti.size))) → (l = cap → a' = a) → K (.slice a' (h - l) (cap - l))) →
          K (.slice (if cap = l then a else a.map (·.add (l * ti.size))) (h - l) (cap - l)) := fun {l h} hk =>
        hk _ (fun hne => by rw [if_neg (Ne.symm hne)]) (fun he => by rw [if_pos he.symm])
      unfold hiW at h
      split at h
      · unfold loW at h
        split at h
        · exact ⟨_, _, fin h, fun w => by simp [Instr.sliceBounds]⟩
        · obtain ⟨h0, h1, k⟩ := h
          exact ⟨_, _, fin k, fun w => by simp [Instr.sliceBounds, sliceBound_run h0 h1]⟩
        · exact h.elim
      · obtain ⟨g0, g1, h⟩ := h
        unfold loW at h
        split at h
        · exact ⟨_, _, fin h, fun w => by simp [Instr.sliceBounds, sliceBound_run g0 g1]⟩
        · obtain ⟨h0, h1, k⟩ := h
          exact ⟨_, _, fin k, fun w => by simp [Instr.sliceBounds, sliceBound_run g0 g1, sliceBound_run h0 h1]⟩
        · exact h.elim
      · exact h.elim
    obtain ⟨h, l, k, hr⟩ := key
    refine ⟨_, k, fun w => ?_⟩
    simp only [Instr.sliceAt, Instr.slice, Sem.run_bind, run_underlying' ht, Result.andThen_ok, hr, run_sizeOf' hti, Sem.run_pure]
  · exact h.elim
end Go.W

namespace Go.W
set_option linter.unusedSimpArgs false
set_option linter.unusedVariables false

def semW (P : Program) (s : Sem Value) (w : World) (K : Value → World → Prop) (X : List PanicEntry → World → Prop) : Prop :=
  match s.run P w with
  | .ok v w' => K v w'
  | .halt (.panic v) w' => X [{ v, recovered := false }] w'
  | _ => False
def resTys {P : Program} (T : TT P) (ty : TypeId) : List TypeId := match T.und ty with | some (.tuple ts) => ts.toList | _ => [ty]
def semT {P : Program} (T : TT P) (s : Sem Value) (ty : TypeId) (w : World) (K : Value → World → Prop) (X : List PanicEntry → World → Prop) : Prop :=
  semW P s w (fun v w' => retW T (resTys T ty) v fun v => K v w') X
def builtinW {P : Program} (T : TT P) (b : Builtin) (ats : List TypeId) (ty : TypeId) (args : List Value) (w : World) (K : Value → World → Prop) (X : List PanicEntry → World → Prop) : Prop :=
  match b with
  | .len => match ats, args with
    | t :: _, [.slice _ n _] => match T.und t with | some (.slice _) => K (.int .i64 n) w | _ => False
    | t :: _, [.string s] => match T.und t with | some .string => K (.int .i64 s.size) w | _ => False
    | ats, args => semW P (Builtin.len_ ats.toArray ty args.toArray) w K X
  | .cap => match ats, args with
    | t :: _, [.slice _ _ n] => match T.und t with | some (.slice _) => K (.int .i64 n) w | _ => False
    | ats, args => semW P (Builtin.cap_ ats.toArray ty args.toArray) w K X
  | .min => match args with
    | [.int k x, .int _ y] => K (.int k (if y < x then y else x)) w
    | args => semW P (Builtin.min_ ats.toArray ty args.toArray) w K X
  | .max => match args with
    | [.int k x, .int _ y] => K (.int k (if y > x then y else x)) w
    | args => semW P (Builtin.max_ ats.toArray ty args.toArray) w K X
  | .append => semT T (Builtin.append_ ats.toArray ty args.toArray) ty w K X
  | .copy => semT T (Builtin.copy_ ats.toArray ty args.toArray) ty w K X
  | .delete => semT T (Builtin.delete_ ats.toArray ty args.toArray) 0 w K X
  | _ => False
theorem semW_res {P : Program} {s : Sem Value} {w : World} {K : Value → World → Prop} {Kd : Deferred → World → Prop} {X : List PanicEntry → World → Prop} (h : semW P s w K X) :
    res P ((do pure (.value (← s)) : Sem Next).run P w) K Kd X := by
  unfold semW at h
  simp only [Sem.run_bind]
  split at h
  · rename_i v w' hr; rw [hr]; exact h
  · rename_i v w' hr; rw [hr]; exact h
  · exact h.elim
theorem semT_res {P : Program} {T : TT P} {s : Sem Value} {ty : TypeId} {w : World} {K : Value → World → Prop} {Kd : Deferred → World → Prop} {X : List PanicEntry → World → Prop} (h : semT T s ty w K X) :
    res P ((do pure (.value (← s)) : Sem Next).run P w) K Kd X := by
  unfold semT semW at h
  simp only [Sem.run_bind]
  split at h
  · rename_i v w' hr; rw [hr]; exact retW_sound h
  · rename_i v w' hr; rw [hr]; exact h
  · exact h.elim
theorem semW_skip {P : Program} {s : Sem Unit} {w : World} {K : Value → World → Prop} {Kd : Deferred → World → Prop} {X : List PanicEntry → World → Prop} (h : semW P (do s; pure undef) w K X) :
    res P ((do s; pure .skip : Sem Next).run P w) K Kd X := by
  unfold semW at h
  simp only [Sem.run_bind] at h ⊢
  cases hs : s.run P w with
  | ok a w' => rw [hs] at h; exact h
  | halt hh w' =>
    rw [hs] at h
    simp only [Result.andThen_halt] at h ⊢
    split at h
    · rename_i hh'; exact absurd hh' (by simp)
    · rename_i hh'; obtain ⟨rfl, rfl⟩ := Result.halt.inj hh'; exact h
    · exact h.elim
theorem res_value {P : Program} {s : Sem Value} {w w' : World} {v : Value} {K : Value → World → Prop} {Kd : Deferred → World → Prop} {X : List PanicEntry → World → Prop}
    (hr : s.run P w = .ok v w') (h : K v w') : res P ((do pure (.value (← s)) : Sem Next).run P w) K Kd X := by
  simp only [Sem.run_bind, hr, Result.andThen_ok, Sem.run_pure]; exact h

theorem run_min2 {P : Program} {k k' : IntKind} {x y : Int} {w : World} {ats : Array TypeId} {ty : TypeId} : (Builtin.min_ ats ty #[.int k x, .int k' y]).run P w = .ok (.int k (if y < x then y else x)) w := by
  simp [Builtin.min_, Builtin.min2]
theorem run_max2 {P : Program} {k k' : IntKind} {x y : Int} {w : World} {ats : Array TypeId} {ty : TypeId} : (Builtin.max_ ats ty #[.int k x, .int k' y]).run P w = .ok (.int k (if y > x then y else x)) w := by
  simp [Builtin.max_, Builtin.max2]

theorem builtinW_sound {P : Program} {T : TT P} {b : Builtin} {ats : List TypeId} {ty : TypeId} {cs : Array Bool} {args : List Value} {w : World} {K : Value → World → Prop} {Kd : Deferred → World → Prop} {X : List PanicEntry → World → Prop}
    (h : builtinW T b ats ty args w K X) : res P ((builtin b ats.toArray ty cs args.toArray).run P w) K Kd X := by
  unfold builtinW at h
  split at h
  · split at h
    · split at h <;> try exact h.elim
      rename_i t _ a n c _ e he
      refine res_value (s := Builtin.len_ (t :: _).toArray ty #[.slice a n c]) (v := .int .i64 n) ?_ h
      simp [Builtin.len_, run_underlying' he, goInt]
    · split at h <;> try exact h.elim
      rename_i t _ s _ he
      refine res_value (s := Builtin.len_ (t :: _).toArray ty #[.string s]) (v := .int .i64 s.size) ?_ h
      simp [Builtin.len_, run_underlying' he, goInt]
    · exact semW_res h
  · split at h
    · split at h <;> try exact h.elim
      rename_i t _ a n c _ e he
      refine res_value (s := Builtin.cap_ (t :: _).toArray ty #[.slice a n c]) (v := .int .i64 c) ?_ h
      simp [Builtin.cap_, run_underlying' he, goInt]
    · exact semW_res h
  · split at h
    · exact res_value run_min2 h
    · exact semW_res h
  · split at h
    · exact res_value run_max2 h
    · exact semW_res h
  · exact semT_res h
  · exact semT_res h
  · exact semT_res h
  · exact h.elim

/-! operations -/
def pickW (c a b : Value) (K : Value → Prop) : Prop :=
  match c with
  | .bool t => match a, b with
    | .bool x, .bool y => K (.bool (bif t then x else y))
    | a, b => K (bif t then a else b)
  | _ => False
def nilW (x : Value) (K : Value → Prop) : Prop :=
  match x with
  | .pointer p => match p with | some a => K (.pointer (some a)) | none => False
  | .func (.func f) a b => K (.func (.func f) a b)
  | _ => False
def ifaceW {P : Program} (T : TT P) (t : TypeId) (x : Value) (K : Value → Prop) : Prop :=
  match T.und t with
  | some (.interface _) => False
  | some _ => K (.iface t x)
  | none => False
def extractW (x : Value) (i : Nat) (K : Value → Prop) : Prop :=
  match x with
  | .tuple vs => match vs.toList[i]? with | some v => K v | none => False
  | _ => False
def assertW {P : Program} (T : TT P) (x : Value) (at_ : TypeId) (ok : Bool) (K : Value → Prop) : Prop :=
  match x, T.und at_ with
  | _, some (.interface _) => False
  | .iface t v, some _ => bif Nat.beq t at_ then K (bif ok then .tuple #[v, .bool true] else v)
      else bif ok then (match T.inf at_ with
        | some i => (match i.zero with | some z => K (.tuple #[z, .bool false]) | none => False)
        | none => False) else False
  | _, _ => False
def enters (P : Program) (f : FuncId) : Prop := ∀ (args : Array Value) (w : World), (callFunc f args).run P w = .ok (.enter f args) w
def externW (P : Program) (g : FuncId) (args : Array Value) (w : World) (K : Value → World → Prop) : Prop :=
  match (callFunc g args).run P w with
  | .ok (.value v) w' => K v w'
  | _ => False
def enterW {P : Program} (T : TT P) (ok : Nat → Bool) (g : FuncId) (args : List Value) (ty : TypeId) (w : World) (K : Value → World → Prop) (X : List PanicEntry → World → Prop) : Prop :=
  bif ok g then CallW P g args.toArray w (fun v w' => retW T (resTys T ty) v fun v => K v w') X else externW P g args.toArray w fun v w' => retW T (resTys T ty) v fun v => K v w'
def callAnyW (P : Program) (ok : Nat → Bool) (f : Value) (args : List Value) (w : World) (K : Value → World → Prop) (X : List PanicEntry → World → Prop) : Prop :=
  match f with
  | .func (.func g) first cap => bif ok g then CallW P g (first.toList ++ args ++ cap.toList).toArray w K X else externW P g (first.toList ++ args ++ cap.toList).toArray w K
  | _ => False
def callValW {P : Program} (T : TT P) (ok : Nat → Bool) (f : Value) (args : List Value) (ty : TypeId) (w : World) (K : Value → World → Prop) (X : List PanicEntry → World → Prop) : Prop :=
  callAnyW P ok f args w (fun v w' => retW T (resTys T ty) v fun v => K v w') X
def mapL (ρ : Operand → Value) : List Operand → List Value
  | [] => []
  | x :: xs => ρ x :: mapL ρ xs
theorem mapL_eq (ρ : Operand → Value) (xs : Array Operand) : (mapL ρ xs.toList).toArray = xs.map ρ := by
  have : ∀ l, mapL ρ l = l.map ρ := fun l => by induction l <;> simp_all [mapL]
  rw [this]; apply Array.ext'; simp
def callW {P : Program} (T : TT P) (ok : Nat → Bool) (ρ : Operand → Value) (c : Call) (ty : TypeId) (w : World) (K : Value → World → Prop) (X : List PanicEntry → World → Prop) : Prop :=
  match c.callee with
  | .builtin b => builtinW T b c.argTypes.toList ty (mapL ρ c.args.toList) w K X
  | .value f => callValW T ok (ρ f) (mapL ρ c.args.toList) ty w K X
  | .invoke _ _ => False
def deferW (ρ : Operand → Value) (c : Call) (w : World) (Kd : Deferred → World → Prop) : Prop :=
  match c.callee with
  | .value f => match ρ f with
    | .func fn first cap => Kd { target := .fn fn cap, args := (first.toList ++ mapL ρ c.args.toList).toArray } w
    | _ => False
  | _ => False
def optV (ρ : Operand → Value) : Option Operand → Option Value
  | none => none
  | some x => some (ρ x)

def opW {P : Program} (T : TT P) (ok : Nat → Bool) (ρ : Operand → Value) (op : Op) (ty : TypeId) (w : World) (K : Value → World → Prop) (Kd : Deferred → World → Prop) (X : List PanicEntry → World → Prop) : Prop :=
  match op with
  | .move x => K (ρ x) w
  | .assign x => K (ρ x) w
  | .pick c a b => pickW (ρ c) (ρ a) (ρ b) fun v => K v w
  | .alloc t => allocW T t w K
  | .box t x => boxW t (ρ x) w K
  | .build t ps => buildW T t (evL ρ ps.toList) fun v => K v w
  | .buildSlice t n ps => buildSliceW T t n (evL ρ ps.toList) w K
  | .load t a => loadW T t (ρ a) w fun v => K v w
  | .store t a x => storeW T t (ρ a) (ρ x) w (K undef)
  | .nilCheck x => nilW (ρ x) fun v => K v w
  | .binOp o t x y _ => binW T o t (ρ x) (ρ y) fun v => K v w
  | .unOp o _ x => unW o (ρ x) fun v => K v w
  | .convert s d x => convW T s d (ρ x) w K
  | .makeInterface t x => ifaceW T t (ρ x) fun v => K v w
  | .makeFunc fn f c => K (.func fn (mapL ρ f.toList).toArray (mapL ρ c.toList).toArray) w
  | .makeMap _ none => newW w (.map #[] 0) fun r w' => K (.map (some r)) w'
  | .makeSlice t l c => semT T (Instr.makeSlice t (ρ l) (ρ c)) t w K X
  | .slice t x lo hi mx => sliceW T t (ρ x) (optV ρ lo) (optV ρ hi) (optV ρ mx) fun v => K v w
  | .fieldAddr t x f => fieldAddrW T t (ρ x) f fun v => K v w
  | .field t x f => fieldW T t (ρ x) f fun v => K v w
  | .indexAddr t x i => indexAddrW T t (ρ x) (ρ i) fun v => K v w
  | .index t x i => indexW T t (ρ x) (ρ i) fun v => K v w
  | .lookup t x i b => semT T (Instr.lookup t (ρ x) (ρ i) b) ty w K X
  | .mapUpdate t m k x => semW P (do Instr.mapUpdate t (ρ m) (ρ k) (ρ x); pure undef) w K X
  | .range t x => semW P (Instr.range t (ρ x)) w K X
  | .next it b => semT T (Instr.next (ρ it) b ty) ty w K X
  | .entry it => semW P (Instr.entry (ρ it)) w K X
  | .typeAssert x _ at_ b => assertW T (ρ x) at_ b fun v => K v w
  | .extract x i => extractW (ρ x) i fun v => K v w
  | .call c => callW T ok ρ c ty w K X
  | .defer c => deferW ρ c w Kd
  | .panic x => match ρ x with | .iface t v => X [{ v := .iface t v, recovered := false }] w | _ => False
  | _ => False

theorem run_assert {P : Program} {T : TT P} {x : Value} {xt at_ : TypeId} {ok : Bool} {K : Value → Prop} (h : assertW T x at_ ok K) : ∃ v, K v ∧ ∀ w, (Instr.typeAssert x xt at_ ok).run P w = .ok v w := by
  unfold assertW at h
  split at h <;> try exact h.elim
  rename_i t v td hne htd
  have hni : ∀ m, td ≠ .interface m := fun m e => hne m e
  cases hb : Nat.beq t at_ <;> simp only [hb, cond_true, cond_false] at h
  · cases ok <;> simp only [cond_true, cond_false] at h
    have hneq : t ≠ at_ := fun e => by rw [e] at hb; simp at hb
    split at h <;> try exact h.elim
    rename_i i hi
    split at h <;> try exact h.elim
    rename_i z hz
    refine ⟨_, h, fun w => ?_⟩
    have hzr : (zeroValue at_).run P w = .ok z w := by
      obtain ⟨j, hj, _, hz'⟩ := T.inf_ok _ _ hi
      simp [zeroValue, typeInfo, hj, hz', hz]
    simp only [Instr.typeAssert, Sem.run_bind, run_underlying' htd, Result.andThen_ok]
    cases td <;> first | exact absurd rfl (hni _) | simp [hneq, hzr]
  · obtain rfl := Nat.eq_of_beq_eq_true hb
    refine ⟨_, h, fun w => ?_⟩
    simp only [Instr.typeAssert, Sem.run_bind, run_underlying' htd, Result.andThen_ok]
    cases td <;> first | exact absurd rfl (hni _) | (cases ok <;> simp)

theorem enterW_sound {P : Program} {T : TT P} {ok : Nat → Bool} (hok : ∀ f, ok f = true → enters P f) {g : FuncId} {args : List Value} {ty : TypeId} {w : World} {K : Value → World → Prop} {Kd : Deferred → World → Prop} {X : List PanicEntry → World → Prop}
    (h : enterW T ok g args ty w K X) : res P ((callFunc g args.toArray).run P w) K Kd X := by
  unfold enterW at h
  cases hg : ok g <;> simp only [hg, cond_true, cond_false] at h
  · unfold externW at h
    split at h
    · rename_i hr; rw [hr]; exact retW_sound h
    · exact h.elim
  · rw [hok g hg]
    exact CallW.mono h (fun v w' hv => retW_sound hv) (fun _ _ hx => hx)

theorem opW_sound {P : Program} {T : TT P} {ok : Nat → Bool} (hok : ∀ f, ok f = true → enters P f) {ρ : Operand → Value} {o : Oper} {w : World} {K : Value → World → Prop} {Kd : Deferred → World → Prop} {X : List PanicEntry → World → Prop}
    (h : opW T ok ρ o.op o.type w K Kd X) : res P ((execOp ρ o).run P w) K Kd X := by
  obtain ⟨dst, op, ty, pos, after, guard⟩ := o
  cases op <;> simp only [opW] at h
  case move x => exact h
  case assign x => exact h
  case pick c a b =>
    unfold pickW at h
    split at h <;> try exact h.elim
    rename_i t ht
    split at h
    · rename_i x y hx hy
      simp only [execOp, Sem.run_bind, ht, hx, hy, asBool, Sem.run_pure, Result.andThen_ok]
      cases t <;> exact h
    · simp only [execOp, Sem.run_bind, ht, asBool, Sem.run_pure, Result.andThen_ok]
      cases t <;> exact h
  case alloc t => obtain ⟨v, w', k, hr⟩ := allocW_sound h; exact res_value hr k
  case box t x => obtain ⟨v, w', k, hr⟩ := boxW_sound h; exact res_value hr k
  case build t ps =>
    have e : evL ρ ps.toList = (ps.map fun (i, x) => (i, ρ x)).toList := by
      have : ∀ l : List (Nat × Operand), evL ρ l = l.map fun (i, x) => (i, ρ x) := fun l => by
        induction l with
        | nil => rfl
        | cons p l ih => obtain ⟨i, x⟩ := p; simp [evL, ih]
      rw [this]; simp
    rw [e] at h
    obtain ⟨v, k, hr⟩ := buildW_sound h; exact res_value (hr _) k
  case buildSlice t n ps =>
    have e : evL ρ ps.toList = (ps.map fun (i, x) => (i, ρ x)).toList := by
      have : ∀ l : List (Nat × Operand), evL ρ l = l.map fun (i, x) => (i, ρ x) := fun l => by
        induction l with
        | nil => rfl
        | cons p l ih => obtain ⟨i, x⟩ := p; simp [evL, ih]
      rw [this]; simp
    rw [e] at h
    obtain ⟨v, w', k, hr⟩ := buildSliceW_sound h; exact res_value hr k
  case load t a => obtain ⟨v, k, hr⟩ := loadW_sound h; exact res_value hr k
  case store t a x =>
    obtain ⟨w', k, hr⟩ := storeW_sound h
    simp only [execOp, Sem.run_bind, hr, Result.andThen_ok, Sem.run_pure]; exact k
  case nilCheck x =>
    unfold nilW at h
    split at h
    · rename_i p hp
      split at h <;> try exact h.elim
      rename_i a
      simp only [execOp, hp]; exact h
    · rename_i f a b hp
      simp only [execOp, hp]; exact h
    · exact h.elim
  case binOp o t x y yt =>
    obtain ⟨v, k, hr⟩ := binW_sound h
    refine res_value (s := do eqGuard o t x y (ρ x) (ρ y); binOp o t (ρ x) (ρ y)) ?_ k
    simp only [Sem.run_bind, run_eqGuardW h, Result.andThen_ok, hr]
  case unOp o t x => obtain ⟨v, k, hr⟩ := unW_sound (P := P) h; exact res_value (hr _) k
  case convert s d x => obtain ⟨v, w', k, hr⟩ := convW_sound h; exact res_value hr k
  case makeInterface t x =>
    unfold ifaceW at h
    split at h <;> try exact h.elim
    rename_i td hni htd
    refine res_value (s := Instr.makeInterface t (ρ x)) (v := .iface t (ρ x)) ?_ h
    simp only [Instr.makeInterface, Sem.run_bind, run_underlying' htd, Result.andThen_ok]
    cases td <;> first | rfl | exact absurd rfl (hni _)
  case makeFunc fn f c =>
    rw [mapL_eq, mapL_eq] at h
    exact res_value (s := Instr.makeFunc fn _ _) rfl h
  case makeMap t r =>
    cases r with
    | none => simp only [opW] at h; exact res_value (s := Instr.makeMap t none) rfl (h _ _ rfl rfl)
    | some r => exact h.elim
  case makeSlice t l c => exact semT_res h
  case slice t x lo hi mx =>
    have e : ∀ o : Option Operand, optV ρ o = o.map ρ := fun o => by cases o <;> rfl
    rw [e, e, e] at h
    obtain ⟨v, k, hr⟩ := sliceW_sound h; exact res_value (hr _) k
  case fieldAddr t x f => obtain ⟨v, k, hr⟩ := fieldAddrW_sound h; exact res_value (hr _) k
  case field t x f => obtain ⟨v, k, hr⟩ := fieldW_sound h; exact res_value (hr _) k
  case indexAddr t x i => obtain ⟨v, k, hr⟩ := indexAddrW_sound h; exact res_value (hr _) k
  case index t x i => obtain ⟨v, k, hr⟩ := indexW_sound h; exact res_value (hr _) k
  case lookup => exact semT_res h
  case mapUpdate => exact semW_skip h
  case range => exact semW_res h
  case next => exact semT_res h
  case entry => exact semW_res h
  case typeAssert x xt at_ b => obtain ⟨v, k, hr⟩ := run_assert (xt := xt) h; exact res_value (hr _) k
  case extract x i =>
    unfold extractW at h
    split at h <;> try exact h.elim
    rename_i vs hvs
    split at h <;> try exact h.elim
    rename_i v hv
    refine res_value (s := Instr.extract (ρ x) i) (v := v) ?_ h
    have : vs[i]? = some v := by simpa using hv
    simp [Instr.extract, hvs, this]
  case call c =>
    obtain ⟨callee, args, ats⟩ := c
    unfold callW at h
    cases callee with
    | builtin b =>
      have := builtinW_sound (cs := args.map fun | .const _ => true | _ => false) (Kd := Kd) h
      rw [mapL_eq] at this
      simp only [execOp, resolve, pure_bind, invoke]
      exact this
    | value f =>
      simp only [callValW, callAnyW] at h
      split at h <;> try exact h.elim
      rename_i g first cap hg
      have := enterW_sound hok (Kd := Kd) (show enterW T ok g _ ty w K X from h)
      have e : (first.toList ++ mapL ρ args.toList ++ cap.toList).toArray = first ++ args.map ρ ++ cap := by
        rw [← mapL_eq]; apply Array.ext'; simp
      rw [e] at this
      simp only [execOp, resolve, Deferred.ofValue, hg, pure_bind, invoke]
      exact this
    | invoke r m => exact h.elim
  case defer c =>
    obtain ⟨callee, args, ats⟩ := c
    unfold deferW at h
    cases callee with
    | value f =>
      simp only at h
      split at h <;> try exact h.elim
      rename_i fn first cap hg
      have e : (first.toList ++ mapL ρ args.toList).toArray = first ++ args.map ρ := by
        rw [← mapL_eq]; apply Array.ext'; simp
      rw [e] at h
      simp only [execOp, resolve, Deferred.ofValue, hg, pure_bind]
      exact h
    | builtin b => exact h.elim
    | invoke r m => exact h.elim
  case panic x =>
    split at h <;> try exact h.elim
    rename_i t v hx
    simp only [execOp, hx, Instr.panic]
    exact h
  all_goals exact h.elim

end Go.W

namespace Go.W
set_option linter.unusedSimpArgs false
set_option linter.unusedVariables false

/-! operations that read alone, under a fact on memory that stays -/
def loadCellsC (C : Addr → Value → Prop) (b o : Nat) : List Ty → (List Value → Prop) → Prop
  | [], K => K []
  | t :: ts, K => ∃ x : t.T, C ⟨b, o, none⟩ (t.val x) ∧ loadCellsC C b (o + 1) ts fun vs => K (t.val x :: vs)
def loadC {P : Program} (T : TT P) (C : Addr → Value → Prop) (t : TypeId) (a : Value) (K : Value → Prop) : Prop :=
  match a with
  | .pointer (some a) =>
    match a.spot with
    | none => match T.und t with
      | some td => bif isAggW td then
          match T.inf t with
          | some i => bif Nat.beq (leavesOf T 8 t).length i.size then loadCellsC C a.block a.off (leavesOf T 8 t) (fun vs => K (.agg vs.toArray)) else False
          | none => False
        else ∃ x : (leaf td).T, C ⟨a.block, a.off, none⟩ ((leaf td).val x) ∧ K ((leaf td).val x)
      | none => False
    | some _ => False
  | _ => False
theorem loadCellsC_sound {C : Addr → Value → Prop} {b : Nat} : ∀ (ts : List Ty) (o : Nat) (K : List Value → Prop), loadCellsC C b o ts K →
    ∃ vs, K vs ∧ ∀ w : World, (∀ a v, C a v → w.cell? a = some v) → ∀ K' : List Value → Prop, K' vs → loadCellsW w b o ts K'
  | [], o, K, h => ⟨[], h, fun w _ _ k => k⟩
  | t :: ts, o, K, ⟨x, hc, h⟩ =>
    let ⟨vs, k, hr⟩ := loadCellsC_sound ts (o + 1) _ h
    ⟨t.val x :: vs, k, fun w hw K' k' => ⟨x, hw _ _ hc, hr w hw _ k'⟩⟩
theorem loadC_sound {P : Program} {T : TT P} {C : Addr → Value → Prop} {t : TypeId} {a : Value} {K : Value → Prop} (h : loadC T C t a K) :
    ∃ v, K v ∧ ∀ w : World, (∀ a v, C a v → w.cell? a = some v) → (Instr.loadAt t a).run P w = .ok v w := by
  have key : ∃ v, K v ∧ ∀ w : World, (∀ a v, C a v → w.cell? a = some v) → loadW T t a w (fun u => u = v) := by
    unfold loadC at h
    split at h <;> try exact h.elim
    rename_i a
    split at h <;> try exact h.elim
    rename_i hs
    split at h <;> try exact h.elim
    rename_i td htd
    cases hb : isAggW td <;> simp only [hb, cond_true, cond_false] at h
    · obtain ⟨x, hc, k⟩ := h
      refine ⟨_, k, fun w hw => ?_⟩
      simp only [loadW, hs, htd, hb, cond_false]
      exact ⟨x, hw _ _ hc, rfl⟩
    · split at h <;> try exact h.elim
      rename_i i hi
      cases hl : Nat.beq (leavesOf T 8 t).length i.size <;> simp only [hl, cond_true, cond_false] at h
      obtain ⟨vs, k, hr⟩ := loadCellsC_sound _ _ _ h
      refine ⟨_, k, fun w hw => ?_⟩
      simp only [loadW, hs, htd, hb, cond_true, hi, hl]
      exact hr w hw _ rfl
  obtain ⟨v, k, hl⟩ := key
  exact ⟨v, k, fun w hw => by obtain ⟨u, rfl, hr⟩ := loadW_sound (hl w hw); exact hr⟩

def convS {P : Program} (T : TT P) (src dst : TypeId) (x : Value) (K : Value → Prop) : Prop :=
  match T.und src, T.und dst, x with
  | some _, some (.int k), .int _ n => K (.int k (k.wrap n))
  | some _, some .string, .string s => K (.string s)
  | _, _, _ => False
def builtinS {P : Program} (T : TT P) (b : Builtin) (ats : List TypeId) (args : List Value) (K : Value → Prop) : Prop :=
  match b, ats, args with
  | .len, t :: _, [.slice _ n _] => match T.und t with | some (.slice _) => K (.int .i64 n) | _ => False
  | .len, t :: _, [.string s] => match T.und t with | some .string => K (.int .i64 s.size) | _ => False
  | .cap, t :: _, [.slice _ _ n] => match T.und t with | some (.slice _) => K (.int .i64 n) | _ => False
  | .min, _, [.int k x, .int _ y] => K (.int k (if y < x then y else x))
  | .max, _, [.int k x, .int _ y] => K (.int k (if y > x then y else x))
  | _, _, _ => False
/-- which operations are taken for still ones -/
def isStill {P : Program} (T : TT P) (op : Op) : Bool :=
  match op with
  | .move _ | .assign _ | .pick _ _ _ | .build _ _ | .load _ _ | .nilCheck _ | .binOp _ _ _ _ _ | .unOp _ _ _ | .makeInterface _ _ | .makeFunc _ _ _
  | .slice _ _ _ _ _ | .fieldAddr _ _ _ | .field _ _ _ | .indexAddr _ _ _ | .index _ _ _ | .typeAssert _ _ _ _ | .extract _ _ => true
  | .convert s d _ => match T.und s, T.und d with
    | some (.int _), some (.int _) | some .string, some .string => true
    | _, _ => false
  | .call c => match c.callee with
    | .builtin .len | .builtin .cap | .builtin .min | .builtin .max => true
    | _ => false
  | _ => false
def stillW {P : Program} (T : TT P) (ρ : Operand → Value) (op : Op) (C : Addr → Value → Prop) (K : Value → Prop) : Prop :=
  match op with
  | .move x => K (ρ x)
  | .assign x => K (ρ x)
  | .pick c a b => pickW (ρ c) (ρ a) (ρ b) K
  | .build t ps => buildW T t (evL ρ ps.toList) K
  | .load t a => loadC T C t (ρ a) K
  | .nilCheck x => nilW (ρ x) K
  | .binOp o t x y _ => binW T o t (ρ x) (ρ y) K
  | .unOp o _ x => unW o (ρ x) K
  | .convert s d x => convS T s d (ρ x) K
  | .makeInterface t x => ifaceW T t (ρ x) K
  | .makeFunc fn f c => K (.func fn (mapL ρ f.toList).toArray (mapL ρ c.toList).toArray)
  | .slice t x lo hi mx => sliceW T t (ρ x) (optV ρ lo) (optV ρ hi) (optV ρ mx) K
  | .fieldAddr t x f => fieldAddrW T t (ρ x) f K
  | .field t x f => fieldW T t (ρ x) f K
  | .indexAddr t x i => indexAddrW T t (ρ x) (ρ i) K
  | .index t x i => indexW T t (ρ x) (ρ i) K
  | .typeAssert x _ at_ b => assertW T (ρ x) at_ b K
  | .extract x i => extractW (ρ x) i K
  | .call c => match c.callee with
    | .builtin b => builtinS T b c.argTypes.toList (mapL ρ c.args.toList) K
    | _ => False
  | _ => False

theorem stillW_sound {P : Program} {T : TT P} {ρ : Operand → Value} {o : Oper} {C : Addr → Value → Prop} {K : Value → Prop}
    (h : stillW T ρ o.op C K) : ∃ v, K v ∧ ∀ w : World, (∀ a v, C a v → w.cell? a = some v) → (execOp ρ o).run P w = .ok (.value v) w := by
  obtain ⟨dst, op, ty, pos, after, guard⟩ := o
  have val : ∀ {s : Sem Value} {v : Value} {w : World}, s.run P w = .ok v w → (do pure (.value (← s)) : Sem Next).run P w = .ok (.value v) w := fun hr => by
    simp only [Sem.run_bind, hr, Result.andThen_ok, Sem.run_pure]
  cases op <;> simp only [stillW] at h
  case move x => exact ⟨_, h, fun w _ => rfl⟩
  case assign x => exact ⟨_, h, fun w _ => rfl⟩
  case pick c a b =>
    unfold pickW at h
    split at h <;> try exact h.elim
    rename_i t ht
    split at h
    · rename_i x y hx hy
      refine ⟨_, h, fun w _ => ?_⟩
      simp only [execOp, Sem.run_bind, ht, hx, hy, asBool, Sem.run_pure, Result.andThen_ok]
      cases t <;> rfl
    · refine ⟨_, h, fun w _ => ?_⟩
      simp only [execOp, Sem.run_bind, ht, asBool, Sem.run_pure, Result.andThen_ok]
      cases t <;> rfl
  case build t ps =>
    have e : evL ρ ps.toList = (ps.map fun (i, x) => (i, ρ x)).toList := by
      have : ∀ l : List (Nat × Operand), evL ρ l = l.map fun (i, x) => (i, ρ x) := fun l => by
        induction l with
        | nil => rfl
        | cons p l ih => obtain ⟨i, x⟩ := p; simp [evL, ih]
      rw [this]; simp
    rw [e] at h
    obtain ⟨v, k, hr⟩ := buildW_sound h; exact ⟨v, k, fun w _ => val (hr w)⟩
  case load t a => obtain ⟨v, k, hr⟩ := loadC_sound h; exact ⟨v, k, fun w hw => val (hr w hw)⟩
  case nilCheck x =>
    unfold nilW at h
    split at h
    · rename_i p hp
      split at h <;> try exact h.elim
      exact ⟨_, h, fun w _ => by simp only [execOp, hp]; rfl⟩
    · rename_i f a b hp
      exact ⟨_, h, fun w _ => by simp only [execOp, hp]; rfl⟩
    · exact h.elim
  case binOp o t x y yt =>
    obtain ⟨v, k, hr⟩ := binW_sound h
    refine ⟨v, k, fun w _ => val (s := do eqGuard o t x y (ρ x) (ρ y); binOp o t (ρ x) (ρ y)) ?_⟩
    simp only [Sem.run_bind, run_eqGuardW h, Result.andThen_ok, hr]
  case unOp o t x => obtain ⟨v, k, hr⟩ := unW_sound (P := P) h; exact ⟨v, k, fun w _ => val (hr w)⟩
  case convert s d x =>
    unfold convS at h
    split at h
    · rename_i td k _ n h1 h2 hx
      refine ⟨_, h, fun w _ => val (s := convert s d (ρ x)) ?_⟩
      simp only [convert, Sem.run_bind, run_underlying' h1, run_underlying' h2, Result.andThen_ok, hx]; rfl
    · rename_i td s' h1 h2 hx
      refine ⟨_, h, fun w _ => val (s := convert s d (ρ x)) ?_⟩
      simp only [convert, Sem.run_bind, run_underlying' h1, run_underlying' h2, Result.andThen_ok, hx]; rfl
    · exact h.elim
  case makeInterface t x =>
    unfold ifaceW at h
    split at h <;> try exact h.elim
    rename_i td hni htd
    refine ⟨_, h, fun w _ => val (s := Instr.makeInterface t (ρ x)) ?_⟩
    simp only [Instr.makeInterface, Sem.run_bind, run_underlying' htd, Result.andThen_ok]
    cases td <;> first | rfl | exact absurd rfl (hni _)
  case makeFunc fn f c =>
    rw [mapL_eq, mapL_eq] at h
    exact ⟨_, h, fun w _ => val (s := Instr.makeFunc fn _ _) rfl⟩
  case slice t x lo hi mx =>
    have e : ∀ o : Option Operand, optV ρ o = o.map ρ := fun o => by cases o <;> rfl
    rw [e, e, e] at h
    obtain ⟨v, k, hr⟩ := sliceW_sound h; exact ⟨v, k, fun w _ => val (hr w)⟩
  case fieldAddr t x f => obtain ⟨v, k, hr⟩ := fieldAddrW_sound h; exact ⟨v, k, fun w _ => val (hr w)⟩
  case field t x f => obtain ⟨v, k, hr⟩ := fieldW_sound h; exact ⟨v, k, fun w _ => val (hr w)⟩
  case indexAddr t x i => obtain ⟨v, k, hr⟩ := indexAddrW_sound h; exact ⟨v, k, fun w _ => val (hr w)⟩
  case index t x i => obtain ⟨v, k, hr⟩ := indexW_sound h; exact ⟨v, k, fun w _ => val (hr w)⟩
  case typeAssert x xt at_ b => obtain ⟨v, k, hr⟩ := run_assert (xt := xt) h; exact ⟨v, k, fun w _ => val (hr w)⟩
  case extract x i =>
    unfold extractW at h
    split at h <;> try exact h.elim
    rename_i vs hvs
    split at h <;> try exact h.elim
    rename_i v hv
    refine ⟨_, h, fun w _ => val (s := Instr.extract (ρ x) i) ?_⟩
    have : vs[i]? = some v := by simpa using hv
    simp [Instr.extract, hvs, this]
  case call c =>
    obtain ⟨callee, args, ats⟩ := c
    cases callee with
    | builtin b =>
      simp only at h
      have ha : args.map ρ = (mapL ρ args.toList).toArray := (mapL_eq ρ args).symm
      have hat : ats = ats.toList.toArray := by simp
      have go : ∀ {l : List Value} {tl : List TypeId} {v : Value} {w : World} (cs : Array Bool), mapL ρ args.toList = l → ats.toList = tl → (builtin b tl.toArray ty cs l.toArray).run P w = .ok (.value v) w →
          cs = (args.map fun | .const _ => true | _ => false) → (execOp ρ ⟨dst, .call ⟨.builtin b, args, ats⟩, ty, pos, after, guard⟩).run P w = .ok (.value v) w := by
        intro l tl v w cs hl ht hr hcs
        rw [← hl, ← ht, ← ha, ← hat, hcs] at hr
        simp only [execOp, resolve, pure_bind, invoke]
        exact hr
      unfold builtinS at h
      split at h
      · split at h <;> try exact h.elim
        rename_i h1 h2 _ _ he
        refine ⟨_, h, fun w _ => go _ h2 h1 ?_ rfl⟩
        simp [builtin, Builtin.len_, run_underlying' he, goInt]
      · split at h <;> try exact h.elim
        rename_i h1 h2 _ he
        refine ⟨_, h, fun w _ => go _ h2 h1 ?_ rfl⟩
        simp [builtin, Builtin.len_, run_underlying' he, goInt]
      · split at h <;> try exact h.elim
        rename_i h1 h2 _ _ he
        refine ⟨_, h, fun w _ => go _ h2 h1 ?_ rfl⟩
        simp [builtin, Builtin.cap_, run_underlying' he, goInt]
      · rename_i h2
        refine ⟨_, h, fun w _ => go _ h2 rfl ?_ rfl⟩
        simp only [builtin, Sem.run_bind, run_min2, Result.andThen_ok, Sem.run_pure]
      · rename_i h2
        refine ⟨_, h, fun w _ => go _ h2 rfl ?_ rfl⟩
        simp only [builtin, Sem.run_bind, run_max2, Result.andThen_ok, Sem.run_pure]
      · exact h.elim
    | value f => exact h.elim
    | invoke r m => exact h.elim
  all_goals exact h.elim

end Go.W

namespace Go.W
set_option linter.unusedSimpArgs false
set_option linter.unusedVariables false

/-- what stands behind a piece of code -/
abbrev Post := Exit → Env → List Deferred → World → Prop
def liftQ (n : Nat) (Q : Post) : Exit → Act → World → Prop := fun ex a w => ∃ e ds, a = act n e ds ∧ Q ex e ds w
def dstAt (ops : List Oper) (j : Nat) : Option Tmp := match ops[j]? with | some o => o.dst | none => none

/-- a guard, taken apart -/
def guardW (n : Nat) (all : List Oper) (g : Option (Nat × Bool)) (e : Env) (run skip : Env → Prop) : Prop :=
  match g with
  | none => run e
  | some (j, want) => match dstAt all j with
    | none => False
    | some d => bif Nat.blt d n then (match e d with
      | .bool t => bif want then cond t (run (up e d (.bool true))) (skip (up e d (.bool false))) else cond t (skip (up e d (.bool true))) (run (up e d (.bool false)))
      | _ => skip e) else False
/-- a region in the order of its text -/
def regW {P : Program} (T : TT P) (ok : Nat → Bool) (n : Nat) (all : List Oper) (Q : Post) : List Oper → Env → List Deferred → World → Prop
  | [], e, ds, w => Q .normal e ds w
  | o :: rest, e, ds, w => guardW n all o.guard e
      (fun e => opW T ok (ev n e) o.op o.type w (fun v w' => regW T ok n all Q rest (put e o.dst v) ds w')
        (fun d w' => regW T ok n all Q rest (put e o.dst undef) (d :: ds) w') (fun ch w' => Q (.panic ch) e ds w'))
      (fun e => regW T ok n all Q rest (put e o.dst undef) ds w)

theorem up_same {e : Env} {d : Nat} {v : Value} (h : e d = v) : up e d v = e := by
  funext k
  simp only [up]
  cases hb : Nat.beq k d
  · rfl
  · obtain rfl := Nat.eq_of_beq_eq_true hb; exact h.symm
theorem yielded_act {ops : Array Oper} {n : Nat} {e : Env} {ds : List Deferred} {j : Nat} {d : Tmp} (hd : dstAt ops.toList j = some d) (hn : d < n) :
    yielded ops (act n e ds).tmps j = match e d with | .bool b => some b | _ => none := by
  unfold yielded
  have h1 : (ops[j]?).bind (·.dst) = some d := by
    unfold dstAt at hd
    rw [show ops.toList[j]? = ops[j]? from by simp] at hd
    split at hd
    · rename_i o ho; rw [ho]; exact hd
    · exact absurd hd (by simp)
  rw [h1]
  simp only [Option.bind_some, act]
  rw [show (Array.ofFn (n := n) fun i => e i.val)[d]? = some (e d) from by simp [hn]]
  cases e d <;> rfl

theorem guardW_sound {n : Nat} {ops : Array Oper} {o : Oper} {e : Env} {ds : List Deferred} {run skip : Env → Prop} (h : guardW n ops.toList o.guard e run skip) :
    (Region.wanted o (yielded ops (act n e ds).tmps) = true ∧ run e) ∨ (Region.wanted o (yielded ops (act n e ds).tmps) = false ∧ skip e) := by
  unfold guardW at h
  unfold Region.wanted
  split at h
  · rename_i hg; rw [hg]; exact .inl ⟨rfl, h⟩
  · rename_i j want hg
    rw [hg]
    split at h <;> try exact h.elim
    rename_i d hd
    cases hn : Nat.blt d n <;> simp only [hn, cond_true, cond_false] at h
    have hn' : d < n := by simpa using hn
    have hy := yielded_act (ops := ops) (e := e) (ds := ds) hd hn'
    show ((yielded ops (act n e ds).tmps j == some want) = true ∧ run e) ∨ ((yielded ops (act n e ds).tmps j == some want) = false ∧ skip e)
    rw [hy]
    split at h
    · rename_i t ht
      cases want <;> cases t <;> (try simp only [cond_true, cond_false] at h) <;> (try rw [up_same ht] at h) <;> simp [h]
    · rename_i hne
      right
      refine ⟨?_, h⟩
      cases hv : e d <;> first | exact absurd hv (hne _) | rfl

theorem regW_sound {P : Program} {T : TT P} {ok : Nat → Bool} (hok : ∀ f, ok f = true → enters P f) {n : Nat} {ops : Array Oper} {Q : Post} :
    ∀ (l : List Oper) (e : Env) (ds : List Deferred) (w : World), regW T ok n ops.toList Q l e ds w → wpList P ops (liftQ n Q) l (act n e ds) w
  | [], e, ds, w, h => ⟨e, ds, rfl, h⟩
  | o :: rest, e, ds, w, h => by
    unfold regW at h
    unfold wpList
    rcases guardW_sound (ds := ds) h with ⟨hw, h⟩ | ⟨hw, h⟩
    · rw [if_pos hw]
      left
      unfold Oper.wp
      rw [act_eval]
      refine upon_of_res ?_
      have := opW_sound hok (o := o) h
      refine res_mono this (fun v w' k => ?_) (fun d w' k => ?_) (fun ch w' k => ⟨e, ds, rfl, k⟩)
      · rw [act_put]; exact regW_sound hok rest _ ds w' k
      · have := regW_sound hok rest _ (d :: ds) w' k
        have e1 : ({ act n e ds with defers := d :: (act n e ds).defers } : Act) = act n e (d :: ds) := rfl
        rw [e1, act_put]; exact this
    · rw [if_neg (by rw [hw]; simp), act_put]
      exact regW_sound hok rest _ ds w h
  where
  res_mono {P : Program} {r : Result Next} {K K' : Value → World → Prop} {Kd Kd' : Deferred → World → Prop} {X X' : List PanicEntry → World → Prop} (h : res P r K Kd X)
      (hk : ∀ v w, K v w → K' v w) (hd : ∀ d w, Kd d w → Kd' d w) (hx : ∀ c w, X c w → X' c w) : res P r K' Kd' X' := by
    unfold res at h ⊢
    split at h
    · exact hk _ _ h
    · exact hk _ _ h
    · exact hd _ _ h
    · exact CallW.mono h hk hx
    · exact hx _ _ h
    · exact h.elim
end Go.W
