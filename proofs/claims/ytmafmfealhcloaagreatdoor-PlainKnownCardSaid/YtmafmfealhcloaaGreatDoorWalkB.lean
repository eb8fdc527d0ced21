/-
  Regions whose order is drawn; functions; ranges over functions.
-/
import Derived.RangeFuncRecord
import Derived.Test.YtmafmfealhcloaaGreatDoorWalkA
namespace Go.W
set_option linter.unusedSimpArgs false
set_option linter.unusedVariables false

section
variable {P : Program} {ops : Array Oper} {md : Region.Mode}

/-- an operation gives v wherever H holds (or is passed over) -/
def YH (P : Program) (ops : Array Oper) (H : World → Prop) (o : Oper) (v : Value) (a : Act) : Prop :=
  (Region.wanted o (yielded ops a.tmps) = true ∧ ∀ w, H w → (execOp a.eval o).run P w = .ok (.value v) w) ∨
  (Region.wanted o (yielded ops a.tmps) = false ∧ v = undef)
theorem YH.wpOp {Q : Exit → Act → World → Prop} {H : World → Prop} {i : Nat} {o : Oper} {v : Value} {a : Act} (hi : ops[i]? = some o) (hy : YH P ops H o v a)
    {K : Act → World → Prop} {w : World} (hw : H w) (h : K (a.put o.dst v) w) : wpOp P ops Q i K a w := by
  unfold Go.wpOp
  simp only [hi]
  rcases hy with ⟨hwa, hv⟩ | ⟨hwa, rfl⟩
  · simp only [hwa, if_true, Oper.wp, hv w hw, Oper.upon]; exact .inl h
  · simp only [hwa, Bool.false_eq_true, if_false]; exact h
theorem YH.of_same {H : World → Prop} {o : Oper} {v : Value} {a a' : Act} (hy : YH P ops H o v a) (he : execOp a'.eval o = execOp a.eval o)
    (hw : Region.wanted o (yielded ops a'.tmps) = Region.wanted o (yielded ops a.tmps)) : YH P ops H o v a' := by
  unfold YH at *
  rw [he, hw]; exact hy
/-- whatever j does, it does ahead of i too, where the two are apart -/
theorem wpOp_putH {Q : Exit → Act → World → Prop} {H : World → Prop} {j : Nat} {oi oj : Oper} {v : Value} (hj : ops[j]? = some oj) (hap : oi.apart ops oj = true)
    (hsi : ∀ cs b, oi.op ≠ .select cs b) (hsj : ∀ cs b, oj.op ≠ .select cs b)
    (hQ : ∀ c a w, ¬ Q (.panic c) a w) {K : Act → World → Prop} {a : Act} {w : World}
    (hy : YH P ops H oi v a) (h : wpOp P ops Q j K (a.put oi.dst v) w) :
    wpOp P ops Q j (fun a' w' => YH P ops H oi v a' ∧ K (a'.put oi.dst v) w') a w := by
  obtain ⟨h1, h2, h3⟩ := Oper.apart_spec hap
  have keep : ∀ (a : Act), YH P ops H oi v a → ∀ u, YH P ops H oi v (a.put oj.dst u) := fun a hy u =>
    hy.of_same (execOp_put oi hsi a oj.dst u h3) (wanted_put oi a oj.dst u h3)
  have keepD : ∀ d, YH P ops H oi v { a with defers := d :: a.defers } := fun d => hy.of_same rfl rfl
  unfold wpOp at *
  simp only [hj] at *
  rw [wanted_put oj a oi.dst v h1] at h
  split
  · rename_i hw
    simp only [hw, if_true] at h
    rcases h with h | ⟨hasks, hlets⟩
    case inr => exact .inr ⟨by unfold Oper.asks at *; rw [execOp_put oj hsj a oi.dst v h1] at hasks; exact hasks, hlets⟩
    refine .inl ?_
    unfold Oper.wp at *
    rw [execOp_put oj hsj a oi.dst v h1] at h
    generalize (execOp a.eval oj).run P w = r at *
    cases r with
    | ok n w' =>
      cases n <;> simp only [Oper.upon] at h ⊢
      case value u => exact ⟨keep a hy u, by rw [← Act.put_comm a v u h2]; exact h⟩
      case skip => exact ⟨keep a hy _, by rw [← Act.put_comm a v undef h2]; exact h⟩
      case defer d =>
        refine ⟨keep _ (keepD d) _, ?_⟩
        rw [← Act.put_comm _ v undef h2, ← Act.put_defers]
        exact h
      case enter f args =>
        refine calls_mono h fun e w'' he => ?_
        cases e with
        | returned u => exact ⟨keep a hy u, by rw [← Act.put_comm a v u h2]; exact he⟩
        | panicked c => exact absurd he (hQ _ _ _)
        | outgrown => exact he
      case row row args => exact Rows.mono h fun u w'' he => ⟨keep a hy u, by rw [← Act.put_comm a v u h2]; exact he⟩
    | halt x w' =>
      cases x <;> simp only [Oper.upon] at h ⊢
      case panic u => exact absurd h (hQ _ _ _)
  · rename_i hw
    simp only [hw] at h
    exact ⟨keep a hy _, by rw [← Act.put_comm a v undef h2]; exact h⟩

/-- every order of what is left; still operations leave the world, the others keep H where it is owed -/
abbrev condG (H : World → Prop) (still need : Nat → Bool) (i : Nat) (w w' : World) : Prop := (still i = true → w' = w) ∧ (still i = false → need i = true → H w')
def GoodH (P : Program) (md : Region.Mode) (ops : Array Oper) (Q : Exit → Act → World → Prop) (H : World → Prop) (still need : Nat → Bool) : Nat → Array Bool → Act → World → Prop
  | 0, listed, a, w => Region.ready md ops listed = [] ∧ Q .normal a w
  | fuel + 1, listed, a, w =>
    (Region.ready md ops listed = [] → Q .normal a w) ∧
    ∀ i ∈ Region.ready md ops listed, wpOp P ops Q i (fun a' w' => condG H still need i w w' ∧ GoodH P md ops Q H still need fuel (listed.setIfInBounds i true) a' w') a w
theorem GoodH.wpAny {Q : Exit → Act → World → Prop} {H : World → Prop} {still need : Nat → Bool} : ∀ (fuel : Nat) (listed : Array Bool) (a : Act) (w : World), GoodH P md ops Q H still need fuel listed a w → Go.wpAny P md ops Q fuel listed a w
  | 0, listed, a, w, h => h
  | fuel + 1, listed, a, w, h => ⟨h.1, fun i hi => wpOp_mono (fun a' w' k => GoodH.wpAny fuel _ a' w' k.2) (h.2 i hi)⟩

/-- ancestors -/
def anc (md : Region.Mode) (ops : Array Oper) : Nat → Nat → Nat → Bool
  | 0, _, _ => false
  | f + 1, j, i => match ops[j]? with
    | some o => o.after.any fun e => Region.binds md e && (e.on == i || anc md ops f e.on i)
    | none => false
def Closed (md : Region.Mode) (ops : Array Oper) (listed : Array Bool) : Prop :=
  ∀ j o, ops[j]? = some o → listed.getD j false = true → ∀ e ∈ o.after, Region.binds md e = true → listed.getD e.on false = true
theorem Closed.set {listed : Array Bool} (hc : Closed md ops listed) {i : Nat} (hi : i ∈ Region.ready md ops listed) : Closed md ops (listed.setIfInBounds i true) := by
  intro j o ho hl e he hb
  obtain ⟨_, oi, hoi, hall⟩ := mem_ready.1 hi
  by_cases hij : i = j
  · subst hij
    have : o = oi := Option.some.inj (ho.symm.trans hoi)
    subst this
    exact getD_set_true (hall e he hb)
  · rw [getD_set_ne false hij] at hl
    exact getD_set_true (hc j o ho hl e he hb)
theorem anc_listed : ∀ (f : Nat) {listed : Array Bool} {j i : Nat}, Closed md ops listed → anc md ops f j i = true →
    (∀ o, ops[j]? = some o → ∀ e ∈ o.after, Region.binds md e = true → listed.getD e.on false = true) → listed.getD i false = true
  | 0, _, _, _, _, h, _ => absurd h (by simp [anc])
  | f + 1, listed, j, i, hc, h, hj => by
    unfold anc at h
    split at h
    · rename_i o ho
      obtain ⟨e, he, hb⟩ := Array.any_eq_true'.1 h
      simp only [Bool.and_eq_true, Bool.or_eq_true, beq_iff_eq] at hb
      have hl := hj o ho e he hb.1
      rcases hb.2 with rfl | ha
      · exact hl
      · exact anc_listed f hc ha (fun o' ho' e' he' hb' => hc e.on o' ho' hl e' he' hb')
    · exact absurd h (by simp)

theorem GoodH.take {Q : Exit → Act → World → Prop} {H : World → Prop} {still need : Nat → Bool} {i : Nat} {oi : Oper} {v : Value} (hi : ops[i]? = some oi)
    (hsel : ∀ (j : Nat) (o : Oper) cs b, ops[j]? = some o → o.op ≠ .select cs b) (hQ : ∀ c a w, ¬ Q (.panic c) a w) (hst : still i = true)
    (H' : World → Prop) (hneed : (∀ w, H' w) ∨ (H' = H ∧ ∀ j, still j = false → need j = false → j < ops.size → anc md ops ops.size j i = true)) :
    ∀ (fuel : Nat) (listed : Array Bool) (a : Act) (w : World),
      (∀ j oj, ops[j]? = some oj → j ≠ i → listed.getD j true = false → (∀ e ∈ oj.after, Region.binds md e = true → e.on ≠ i) → oi.apart ops oj = true) →
      Closed md ops listed → i ∈ Region.ready md ops listed → YH P ops H' oi v a → H' w →
      GoodH P md ops Q H still need fuel (listed.setIfInBounds i true) (a.put oi.dst v) w → GoodH P md ops Q H still need (fuel + 1) listed a w := by
  have mine : ∀ w, condG H still need i w w := fun w => ⟨fun _ => rfl, fun h => by rw [hst] at h; cases h⟩
  intro fuel
  induction fuel with
  | zero =>
    intro listed a w _ _ hr hy hw G
    refine ⟨fun h => (by rw [h] at hr; cases hr), fun j hj => ?_⟩
    by_cases hji : j = i
    · subst hji; exact hy.wpOp hi hw ⟨mine w, G⟩
    · have := ready_mono hj hji
      rw [G.1] at this
      cases this
  | succ fuel ih =>
    intro listed a w hfree hc hr hy hw G
    refine ⟨fun h => (by rw [h] at hr; cases hr), fun j hj => ?_⟩
    by_cases hji : j = i
    · subst hji; exact hy.wpOp hi hw ⟨mine w, G⟩
    · have h1 := G.2 j (ready_mono hj hji)
      obtain ⟨hjun, oj, hoj, hall⟩ := mem_ready.1 hj
      have hiun := (mem_ready.1 hr).1
      have hiun' : listed.getD i false = false := by
        rcases Nat.lt_or_ge i listed.size with h' | h'
        · simp [h'] at hiun ⊢; exact hiun
        · simp [Array.getElem?_eq_none h']
      have hnot : ∀ e ∈ oj.after, Region.binds md e = true → e.on ≠ i := fun e he hb heq => by
        have h1 := hall e he hb
        rw [heq, hiun'] at h1; cases h1
      have hkeep : ∀ w', condG H still need j w w' → H' w' := fun w' hcg => by
        rcases hneed with h | ⟨rfl, h⟩
        · exact h w'
        · cases hs : still j with
          | true => rw [hcg.1 hs]; exact hw
          | false =>
            cases hb : need j with
            | true => exact hcg.2 hs hb
            | false =>
              have ha := h j hs hb (Array.getElem?_eq_some_iff.1 hoj).1
              have := anc_listed _ hc ha (fun o ho e he hbb => by
                have : o = oj := Option.some.inj (ho.symm.trans hoj)
                subst this; exact hall e he hbb)
              rw [hiun'] at this; cases this
      have h2 := wpOp_putH hoj (hfree j oj hoj hji hjun hnot) (fun cs b => hsel i oi cs b hi) (fun cs b => hsel j oj cs b hoj) hQ hy h1
      have hfree' : ∀ k ok, ops[k]? = some ok → k ≠ i → (listed.setIfInBounds j true).getD k true = false →
          (∀ e ∈ ok.after, Region.binds md e = true → e.on ≠ i) → oi.apart ops ok = true := fun k ok hk hki hun hno => by
        refine hfree k ok hk hki ?_ hno
        by_cases hjk : j = k
        · subst hjk; exact hjun
        · rw [getD_set_ne true hjk] at hun; exact hun
      refine wpOp_mono (fun a' w' h3 => ⟨h3.2.1, ih (listed.setIfInBounds j true) a' w' hfree' (hc.set hj) (ready_mono hr (Ne.symm hji)) h3.1 (hkeep w' h3.2.1) ?_⟩) h2
      rw [Array.setIfInBounds_comm _ _ hji]
      exact h3.2.2
end

def isLoad (op : Op) : Bool := match op with | .load _ _ => true | _ => false
def stillAt {P : Program} (T : TT P) (ops : Array Oper) (i : Nat) : Bool := match ops[i]? with | some o => isStill T o.op | none => false
def loadAt (ops : Array Oper) (i : Nat) : Bool := match ops[i]? with | some o => isLoad o.op | none => false
/-- orders: one after the other, or whichever of some comes first -/
inductive OT where
  | done
  | step (i : Nat) (b : Bool) (rest : OT)
  | both (x y : OT)
  | pool (as : List Nat) (t after : OT)
def OT.heads : OT → List Nat
  | .done => []
  | .step i _ _ => [i]
  | .both x y => x.heads ++ y.heads
  | .pool _ _ _ => []
def OT.len : OT → Nat
  | .done => 0
  | .step _ _ r => r.len + 1
  | .both x _ => x.len
  | .pool as t r => as.length + t.len + r.len
def OT.find : OT → Nat → Option Bool
  | .done, _ => none
  | .step i b r, j => bif Nat.beq i j then some b else r.find j
  | .both x y, j => match x.find j with | some b => some b | none => y.find j
  | .pool _ t r, j => match t.find j with | some b => some b | none => r.find j
def flagAt (t : OT) (j : Nat) : Bool := (t.find j).getD true
/-- where H is not owed all loads are done -/
def flagsOk {P : Program} (T : TT P) (ops : Array Oper) (order : OT) : Bool :=
  (List.range ops.size).all fun j => stillAt T ops j || flagAt order j || (List.range ops.size).all fun i => !loadAt ops i || anc .any ops ops.size j i

/-! some variables are laid while others work: in whatever order -/
def allOpt : Nat → (List (Option Nat) → Prop) → Prop
  | 0, K => K []
  | n + 1, K => ∀ x : Option Nat, allOpt n fun l => K (x :: l)
def allNat : Nat → (List Nat → Prop) → Prop
  | 0, K => K []
  | n + 1, K => ∀ x : Nat, allNat n fun l => K (x :: l)
theorem allOpt_spec : ∀ {n : Nat} {K : List (Option Nat) → Prop}, allOpt n K → ∀ xs, xs.length = n → K xs
  | 0, K, h, xs, hl => by obtain rfl := List.length_eq_zero_iff.1 hl; exact h
  | n + 1, K, h, [], hl => by simp at hl
  | n + 1, K, h, x :: xs, hl => allOpt_spec (h x) xs (by simpa using hl)
theorem allNat_spec : ∀ {n : Nat} {K : List Nat → Prop}, allNat n K → ∀ xs, xs.length = n → K xs
  | 0, K, h, xs, hl => by obtain rfl := List.length_eq_zero_iff.1 hl; exact h
  | n + 1, K, h, [], hl => by simp at hl
  | n + 1, K, h, x :: xs, hl => allNat_spec (h x) xs (by simpa using hl)
def poolA {P : Program} (T : TT P) (all : List Oper) : List Nat → Option (List (Nat × Obj))
  | [] => some []
  | a :: as => match all[a]? with
    | some o => match o.op, o.dst, o.guard with
      | .alloc t, some d, none => match zeroL T t, poolA T all as with
        | some cs, some r => some ((d, .cells cs.toArray t (0, 0)) :: r)
        | _, _ => none
      | _, _, _ => none
    | none => none
def envP : List (Nat × Obj) → List (Option Nat) → Env → Env
  | (d, _) :: r, x :: xs, e => up (envP r xs e) d (match x with | some b => .pointer (some ⟨b, 0, none⟩) | none => e d)
  | _, _, e => e
def closedP (pre : Nat) : List (Nat × Obj) → (List (Option Nat) → World → Prop) → Prop
  | [], _ => True
  | (_, o) :: r, Inv => (allOpt pre fun xs => allOpt r.length fun ys => ∀ (w : World) (b : Nat) (w' : World), Inv (xs ++ none :: ys) w → b = w.heap.size → w' = w.alloc o → Inv (xs ++ some b :: ys) w') ∧ closedP (pre + 1) r Inv
def poolW {P : Program} (T : TT P) (ok : Nat → Bool) (n : Nat) (all : List Oper) (C : Addr → Value → Prop) (H : World → Prop) (A : List (Nat × Obj)) (K : Env → World → Prop) : OT → List (Option Nat) → Env → World → Prop
  | .step i _ rest, xs, e, w => match all[i]? with
    | some o => match o.guard with
      | none => bif isStill T o.op then stillW T (ev n (envP A xs e)) o.op C (fun v => poolW T ok n all C H A K rest xs (put e o.dst v) w)
        else ∃ Inv : List (Option Nat) → World → Prop, Inv xs w ∧ (allOpt A.length fun ys => ∀ w', Inv ys w' → H w') ∧ closedP 0 A Inv ∧
          allOpt A.length fun ys => ∀ w', Inv ys w' → opW T ok (ev n (envP A ys e)) o.op o.type w' (fun v w'' => poolW T ok n all C H A K rest ys (put e o.dst v) w'') (fun _ _ => False) (fun _ _ => False)
      | some _ => False
    | none => False
  | .done, xs, e, w => ∃ Inv : List (Option Nat) → World → Prop, Inv xs w ∧ (allOpt A.length fun ys => ∀ w', Inv ys w' → H w') ∧ closedP 0 A Inv ∧
      allNat A.length fun bs => ∀ w', Inv (bs.map some) w' → K (envP A (bs.map some) e) w'
  | _, _, _, _ => False
def vecs : Nat → List (List Bool)
  | 0 => [[]]
  | n + 1 => (vecs n).flatMap fun l => [true :: l, false :: l]
theorem mem_vecs : ∀ (l : List Bool), l ∈ vecs l.length
  | [] => by simp [vecs]
  | b :: l => by
    have := mem_vecs l
    simp only [vecs, List.length_cons, List.mem_flatMap]
    exact ⟨l, this, by cases b <;> simp⟩
def setAs (base : Array Bool) : List Nat → List Bool → Array Bool
  | a :: as, b :: bs => bif b then (setAs base as bs).setIfInBounds a true else setAs base as bs
  | _, _ => base
def unl : List Nat → List Bool → List Nat
  | a :: as, b :: bs => bif b then unl as bs else a :: unl as bs
  | _, _ => []
def baseOf : OT → Array Bool → Array Bool
  | .step i _ r, base => baseOf r (base.setIfInBounds i true)
  | _, base => base
def memN (d : Nat) : List (Nat × Obj) → Bool
  | [] => false
  | (d', _) :: r => Nat.beq d d' || memN d r
def dist : List (Nat × Obj) → Bool
  | [] => true
  | (d, _) :: r => !memN d r && dist r
def dstFree (A : List (Nat × Obj)) : Option Nat → Bool
  | none => true
  | some d => !memN d A
def poolOk {P : Program} (T : TT P) (ops : Array Oper) (A : List (Nat × Obj)) (as : List Nat) : OT → Array Bool → Bool
  | .step i _ rest, base => match ops[i]? with
    | some o => o.guard.isNone && dstFree A o.dst &&
      (bif isStill T o.op then (vecs as.length).all fun bs => Region.free .any ops (setAs base as bs) i && (Region.ready .any ops (setAs base as bs)).contains i
        else (vecs as.length).all fun bs => ((Region.ready .any ops (setAs base as bs)).all fun j => Nat.beq j i || (unl as bs).contains j) && (Region.ready .any ops (setAs base as bs)).contains i) &&
      poolOk T ops A as rest (base.setIfInBounds i true)
    | none => false
  | .done, base => (vecs as.length).all fun bs => bs.all id || (!(Region.ready .any ops (setAs base as bs)).isEmpty && (Region.ready .any ops (setAs base as bs)).all fun j => (unl as bs).contains j)
  | _, _ => false

/-! the walk of such a region: an order is given, each operation with a mark whether H must hold behind it -/
def drawW {P : Program} (T : TT P) (ok : Nat → Bool) (n : Nat) (all : List Oper) (C : Addr → Value → Prop) (H : World → Prop) (Q : Post) : OT → Env → List Deferred → World → Prop
  | .done, e, ds, w => Q .normal e ds w
  | .both x y, e, ds, w => drawW T ok n all C H Q x e ds w ∧ drawW T ok n all C H Q y e ds w
  | .pool as t r, e, ds, w => match poolA T all as with
    | some A => poolW T ok n all C H A (fun e w => drawW T ok n all C H Q r e ds w) t (A.map fun _ => none) e w
    | none => False
  | .step i b rest, e, ds, w => match all[i]? with
    | none => False
    | some o => guardW n all o.guard e
      (fun e => bif isStill T o.op then stillW T (ev n e) o.op C (fun v => drawW T ok n all C H Q rest (put e o.dst v) ds w)
        else opW T ok (ev n e) o.op o.type w (fun v w' => bif b then H w' ∧ drawW T ok n all C H Q rest (put e o.dst v) ds w' else drawW T ok n all C H Q rest (put e o.dst v) ds w') (fun _ _ => False) (fun _ _ => False))
      (fun e => drawW T ok n all C H Q rest (put e o.dst undef) ds w)

/-- the check of an order: each still operation is taken as soon as it may, others one by one, or any of a fork -/
def orderOk {P : Program} (T : TT P) (ops : Array Oper) (flags : Nat → Bool) : OT → Bool → Bool → Array Bool → Bool
  | .done, _, _, listed => (Region.ready .any ops listed).isEmpty
  | .both x y, f, alive, listed => (f || (Region.ready .any ops listed).all fun j => (x.heads ++ y.heads).contains j) && Nat.beq x.len y.len && Nat.blt 0 x.len && orderOk T ops flags x true alive listed && orderOk T ops flags y true alive listed
  | .pool as t r, f, alive, listed => !f && match poolA T ops.toList as with
    | some A => dist A && poolOk T ops A as t listed && orderOk T ops flags r false true (setAs (baseOf t listed) as (as.map fun _ => true))
    | none => false
  | .step i b rest, f, alive, listed => match ops[i]? with
    | none => false
    | some o => bif isStill T o.op then !f && (alive || !isLoad o.op) && Region.free .any ops listed i && (Region.ready .any ops listed).contains i && orderOk T ops flags rest false alive (listed.setIfInBounds i true)
      else (f || Region.ready .any ops listed == [i]) && (Region.ready .any ops listed).contains i && (flags i == b) && (!b || alive || o.guard.isNone) && orderOk T ops flags rest false b (listed.setIfInBounds i true)
def drawOk {P : Program} (T : TT P) (ops : Array Oper) (order : OT) : Bool :=
  Region.noSelect ops && flagsOk T ops order && orderOk T ops (flagAt order) order false true (Array.replicate ops.size false) && Nat.beq order.len ops.size

theorem guard_still {n : Nat} {ops : Array Oper} {o : Oper} {e : Env} {ds : List Deferred} {run skip : Env → Prop} (h : guardW n ops.toList o.guard e run skip) :
    (Region.wanted o (yielded ops (act n e ds).tmps) = true ∧ run e) ∨ (Region.wanted o (yielded ops (act n e ds).tmps) = false ∧ skip e) := guardW_sound h

theorem stillW_pure {P : Program} {T : TT P} {ρ : Operand → Value} {o : Oper} {C : Addr → Value → Prop} {K : Value → Prop} (hl : isLoad o.op = false) (h : stillW T ρ o.op C K) : stillW T ρ o.op (fun _ _ => False) K := by
  obtain ⟨dst, op, ty, pos, after, guard⟩ := o
  cases op <;> first | exact h | exact absurd hl (by simp [isLoad])

theorem orderNo {P : Program} {T : TT P} {ops : Array Oper} {flags : Nat → Bool} {alive : Bool} {listed : Array Bool} (hr : Region.ready .any ops listed = []) :
    ∀ {x : OT}, orderOk T ops flags x true alive listed = true → Nat.blt 0 x.len = true → False
  | .done, _, h => by simp [OT.len] at h
  | .both x y, h, hl => by
    unfold orderOk at h
    simp only [Bool.and_eq_true] at h
    exact orderNo hr h.1.2 hl
  | .pool as t r, h, hl => by
    unfold orderOk at h
    simp at h
  | .step i b rest, h, _ => by
    unfold orderOk at h
    split at h
    · cases h
    · rename_i o _
      cases hs : isStill T o.op <;> simp only [hs, cond_true, cond_false, Bool.and_eq_true, hr] at h
      · simp at h
      · simp at h

/-! soundness of pools -/
theorem set2 (x : Array Bool) (i j : Nat) : (x.setIfInBounds i true).setIfInBounds j true = (x.setIfInBounds j true).setIfInBounds i true := by
  by_cases h : i = j
  · subst h; rfl
  · exact Array.setIfInBounds_comm _ _ h
theorem setAs_base (i : Nat) : ∀ (as : List Nat) (bs : List Bool) (base : Array Bool), setAs (base.setIfInBounds i true) as bs = (setAs base as bs).setIfInBounds i true
  | [], _, _ => rfl
  | _ :: _, [], _ => rfl
  | a :: as, b :: bs, base => by
    cases b <;> simp only [setAs, cond_true, cond_false, setAs_base i as bs base]
    rw [set2]
/-- a place that is not laid yet -/
theorem unl_mem {j : Nat} : ∀ (as : List Nat) (xs : List (Option Nat)), as.length = xs.length → j ∈ unl as (xs.map Option.isSome) → ∃ us vs a1 a2, xs = us ++ none :: vs ∧ as = a1 ++ j :: a2 ∧ a1.length = us.length
  | [], _, _, h => by simp [unl] at h
  | a :: as, [], hl, _ => by simp at hl
  | a :: as, none :: xs, hl, h => by
    simp only [List.map_cons, Option.isSome_none, unl, cond_false, List.mem_cons] at h
    rcases h with rfl | h
    · exact ⟨[], xs, [], as, rfl, rfl, rfl⟩
    · obtain ⟨us, vs, a1, a2, rfl, rfl, h3⟩ := unl_mem as xs (by simpa using hl) h
      exact ⟨none :: us, vs, a :: a1, a2, rfl, rfl, by simp [h3]⟩
  | a :: as, some b :: xs, hl, h => by
    simp only [List.map_cons, Option.isSome_some, unl, cond_true] at h
    obtain ⟨us, vs, a1, a2, rfl, rfl, h3⟩ := unl_mem as xs (by simpa using hl) h
    exact ⟨some b :: us, vs, a :: a1, a2, rfl, rfl, by simp [h3]⟩
theorem setAs_set (base : Array Bool) {j b : Nat} : ∀ (a1 : List Nat) (us : List (Option Nat)) (a2 : List Nat) (vs : List (Option Nat)), a1.length = us.length →
    setAs base (a1 ++ j :: a2) ((us ++ some b :: vs).map Option.isSome) = (setAs base (a1 ++ j :: a2) ((us ++ none :: vs).map Option.isSome)).setIfInBounds j true
  | [], [], a2, vs, _ => rfl
  | [], _ :: _, _, _, h => by simp at h
  | _ :: _, [], _, _, h => by simp at h
  | a :: a1, u :: us, a2, vs, h => by
    have ih := setAs_set base (j := j) (b := b) a1 us a2 vs (by simpa using h)
    simp only [List.cons_append, List.map_cons, setAs]
    cases u.isSome <;> simp only [cond_true, cond_false, ih]
    rw [set2]
theorem poolA_at {P : Program} {T : TT P} {all : List Oper} {j : Nat} : ∀ (a1 a2 : List Nat) {A : List (Nat × Obj)}, poolA T all (a1 ++ j :: a2) = some A →
    ∃ A1 d o A2 op t cs, A = A1 ++ (d, o) :: A2 ∧ A1.length = a1.length ∧ all[j]? = some op ∧ op.op = .alloc t ∧ op.dst = some d ∧ op.guard = none ∧ zeroL T t = some cs ∧ o = .cells cs.toArray t (0, 0)
  | [], a2, A, h => by
    simp only [List.nil_append, poolA] at h
    split at h <;> try cases h
    rename_i o ho
    split at h <;> try cases h
    rename_i t d h1 h2 h3
    split at h <;> try cases h
    rename_i cs r h4 h5
    exact ⟨[], d, _, r, o, t, cs, rfl, rfl, ho, h1, h2, h3, h4, rfl⟩
  | a :: a1, a2, A, h => by
    simp only [List.cons_append, poolA] at h
    split at h <;> try cases h
    rename_i o ho
    split at h <;> try cases h
    rename_i t d h1 h2 h3
    split at h <;> try cases h
    rename_i cs r h4 h5
    obtain ⟨A1, d', o', A2, op, t', cs', rfl, hl, k⟩ := poolA_at a1 a2 h5
    exact ⟨_ :: A1, d', o', A2, op, t', cs', rfl, by simp [hl], k⟩
theorem poolA_len {P : Program} {T : TT P} {all : List Oper} : ∀ (as : List Nat) {A : List (Nat × Obj)}, poolA T all as = some A → A.length = as.length
  | [], A, h => by simp only [poolA] at h; cases h; rfl
  | a :: as, A, h => by
    simp only [poolA] at h
    split at h <;> try cases h
    split at h <;> try cases h
    split at h <;> try cases h
    rename_i h5
    simp [poolA_len as h5]
theorem upP_same (e : Env) (d : Nat) : up e d (e d) = e := by
  funext k
  simp only [up]
  cases h : Nat.beq k d
  · rfl
  · rw [Nat.eq_of_beq_eq_true h]; rfl
theorem up_up (e : Env) (d : Nat) (u v : Value) : up (up e d u) d v = up e d v := by
  funext k
  simp only [up]
  cases h : Nat.beq k d <;> rfl
theorem up_comm (e : Env) {d d' : Nat} (h : Nat.beq d d' = false) (u v : Value) : up (up e d u) d' v = up (up e d' v) d u := by
  funext k
  simp only [up]
  cases h1 : Nat.beq k d' <;> cases h2 : Nat.beq k d <;> try rfl
  rw [Nat.eq_of_beq_eq_true h1] at h2
  rw [← Nat.eq_of_beq_eq_true h2] at h
  simp at h
theorem up_at {e : Env} {d d' : Nat} {v : Value} (h : Nat.beq d' d = false) : up e d v d' = e d' := by simp only [up, h, cond_false]
theorem beq_swap {a b : Nat} (h : Nat.beq a b = false) : Nat.beq b a = false := by
  cases h' : Nat.beq b a
  · rfl
  · rw [Nat.eq_of_beq_eq_true h'] at h; simp at h
theorem envP_none : ∀ (A : List (Nat × Obj)) (e : Env), envP A (A.map fun _ => none) e = e
  | [], _ => rfl
  | (d, o) :: r, e => by simp only [List.map_cons, envP, envP_none r e]; exact upP_same e d
theorem envP_put {d : Nat} {v : Value} : ∀ (A : List (Nat × Obj)) (xs : List (Option Nat)) (e : Env), memN d A = false → up (envP A xs e) d v = envP A xs (up e d v)
  | [], _, _, _ => rfl
  | _ :: _, [], _, _ => rfl
  | (d', o) :: r, x :: xs, e, h => by
    simp only [memN, Bool.or_eq_false_iff] at h
    simp only [envP]
    rw [up_comm _ (beq_swap h.1), envP_put r xs e h.2]
    congr 1
    cases x with
    | some b => rfl
    | none => exact (up_at (beq_swap h.1)).symm
theorem envP_set {d : Nat} {o : Obj} {b : Nat} : ∀ (A1 : List (Nat × Obj)) (us : List (Option Nat)) (A2 : List (Nat × Obj)) (vs : List (Option Nat)) (e : Env), A1.length = us.length → dist (A1 ++ (d, o) :: A2) = true →
    up (envP (A1 ++ (d, o) :: A2) (us ++ none :: vs) e) d (.pointer (some ⟨b, 0, none⟩)) = envP (A1 ++ (d, o) :: A2) (us ++ some b :: vs) e
  | [], [], A2, vs, e, _, _ => by simp only [List.nil_append, envP]; exact up_up _ _ _ _
  | [], _ :: _, _, _, _, h, _ => by simp at h
  | _ :: _, [], _, _, _, h, _ => by simp at h
  | (d', o') :: A1, u :: us, A2, vs, e, h, hd => by
    simp only [List.cons_append, dist, Bool.and_eq_true, Bool.not_eq_true'] at hd
    have ne : Nat.beq d' d = false := by
      have : ∀ (l : List (Nat × Obj)), memN d' (l ++ (d, o) :: A2) = false → Nat.beq d' d = false := by
        intro l
        induction l with
        | nil => intro h; simp only [List.nil_append, memN, Bool.or_eq_false_iff] at h; exact h.1
        | cons p l ih => intro h; simp only [List.cons_append, memN, Bool.or_eq_false_iff] at h; exact ih h.2
      exact this A1 hd.1
    simp only [List.cons_append, envP]
    rw [up_comm _ ne, envP_set A1 us A2 vs e (by simpa using h) hd.2]
theorem closedP_at {Inv : List (Option Nat) → World → Prop} {d : Nat} {o : Obj} {A2 : List (Nat × Obj)} : ∀ (A1 : List (Nat × Obj)) (pre : Nat), closedP pre (A1 ++ (d, o) :: A2) Inv →
    ∀ (us vs : List (Option Nat)) (w : World), us.length = pre + A1.length → vs.length = A2.length → Inv (us ++ none :: vs) w → Inv (us ++ some w.heap.size :: vs) (w.alloc o)
  | [], pre, h, us, vs, w, h1, h2, k => allOpt_spec (allOpt_spec h.1 us (by simpa using h1)) vs h2 w _ _ k rfl rfl
  | _ :: A1, pre, h, us, vs, w, h1, h2, k => closedP_at A1 (pre + 1) h.2 us vs w (by simp only [List.length_cons] at h1; omega) h2 k
theorem poolW_H {P : Program} {T : TT P} {ok : Nat → Bool} {n : Nat} {all : List Oper} {C : Addr → Value → Prop} {H : World → Prop} {A : List (Nat × Obj)} {K : Env → World → Prop} :
    ∀ (t : OT) {xs : List (Option Nat)} {e : Env} {w : World}, xs.length = A.length → poolW T ok n all C H A K t xs e w → H w
  | .done, xs, e, w, hl, ⟨Inv, h1, h2, _⟩ => allOpt_spec h2 xs hl w h1
  | .step i b rest, xs, e, w, hl, h => by
    unfold poolW at h
    split at h <;> try exact h.elim
    rename_i o ho
    split at h <;> try exact h.elim
    cases hs : isStill T o.op <;> simp only [hs, cond_true, cond_false] at h
    · obtain ⟨Inv, h1, h2, _⟩ := h
      exact allOpt_spec h2 xs hl w h1
    · obtain ⟨v, k, _⟩ := stillW_sound h
      exact poolW_H rest hl k
  | .both _ _, _, _, _, _, h => h.elim
  | .pool _ _ _, _, _, _, _, h => h.elim
def nones (xs : List (Option Nat)) : Nat := xs.countP Option.isNone
theorem nones_set (us vs : List (Option Nat)) (b : Nat) : nones (us ++ none :: vs) = nones (us ++ some b :: vs) + 1 := by
  simp only [nones, List.countP_append, List.countP_cons, Option.isNone_none, Option.isNone_some]; simp; omega
theorem nones_zero : ∀ (xs : List (Option Nat)), nones xs = 0 → ∃ bs : List Nat, xs = bs.map some ∧ bs.length = xs.length
  | [], _ => ⟨[], rfl, rfl⟩
  | none :: xs, h => by simp [nones] at h
  | some b :: xs, h => by
    obtain ⟨bs, h1, h2⟩ := nones_zero xs (by simpa [nones] using h)
    exact ⟨b :: bs, by simp [h1], by simp [h2]⟩

theorem pool_sound {P : Program} {T : TT P} {ok : Nat → Bool} (hok : ∀ f, ok f = true → enters P f) {n : Nat} {ops : Array Oper} {C : Addr → Value → Prop} {H : World → Prop} {Q : Post} {flags : Nat → Bool}
    (hC : ∀ a v, C a v → ∀ w, H w → w.cell? a = some v) (hsel : Region.noSelect ops = true)
    (hneed : ∀ i j, loadAt ops i = true → stillAt T ops j = false → flags j = false → j < ops.size → anc .any ops ops.size j i = true) (hQ : ∀ c e ds w, ¬ Q (.panic c) e ds w)
    {A : List (Nat × Obj)} {as : List Nat} {ds : List Deferred} {K : Env → World → Prop} {fin : Array Bool} {fk : Nat} (hA : poolA T ops.toList as = some A) (hdist : dist A = true)
    (hK : ∀ (bs : List Nat) (e : Env) (w : World), bs.length = A.length → Closed .any ops (setAs fin as (as.map fun _ => true)) → H w → K (envP A (bs.map some) e) w → GoodH P .any ops (liftQ n Q) H (stillAt T ops) flags fk (setAs fin as (as.map fun _ => true)) (act n (envP A (bs.map some) e) ds) w) :
    ∀ (t : OT) (base : Array Bool) (xs : List (Option Nat)) (e : Env) (w : World), xs.length = A.length → poolOk T ops A as t base = true → baseOf t base = fin → Closed .any ops (setAs base as (xs.map Option.isSome)) →
      poolW T ok n ops.toList C H A K t xs e w → GoodH P .any ops (liftQ n Q) H (stillAt T ops) flags (nones xs + t.len + fk) (setAs base as (xs.map Option.isSome)) (act n (envP A xs e) ds) w := by
  have hlen : A.length = as.length := poolA_len as hA
  have hQ' : ∀ c a w, ¬ liftQ n Q (.panic c) a w := fun c a w ⟨e, ds, _, q⟩ => hQ c e ds w q
  -- one variable is laid
  have lay : ∀ (Inv : List (Option Nat) → World → Prop), (allOpt A.length fun ys => ∀ w', Inv ys w' → H w') → closedP 0 A Inv →
      ∀ (base : Array Bool) (xs : List (Option Nat)) (e : Env) (w : World) (j fuel : Nat), xs.length = A.length → j ∈ unl as (xs.map Option.isSome) → Inv xs w →
        (∀ xs' w', xs'.length = A.length → nones xs = nones xs' + 1 → setAs base as (xs'.map Option.isSome) = (setAs base as (xs.map Option.isSome)).setIfInBounds j true → Inv xs' w' → GoodH P .any ops (liftQ n Q) H (stillAt T ops) flags fuel (setAs base as (xs'.map Option.isSome)) (act n (envP A xs' e) ds) w') →
        wpOp P ops (liftQ n Q) j (fun a' w' => condG H (stillAt T ops) flags j w w' ∧ GoodH P .any ops (liftQ n Q) H (stillAt T ops) flags fuel ((setAs base as (xs.map Option.isSome)).setIfInBounds j true) a' w') (act n (envP A xs e) ds) w := by
    intro Inv hH hcl base xs e w j fuel hl hj hI next
    obtain ⟨us, vs, a1, a2, rfl, rfl, h3⟩ := unl_mem as xs (by omega) hj
    obtain ⟨A1, d, obj, A2, o, t, cs, rfl, h4, h5, h6, h7, h8, h9, rfl⟩ := poolA_at a1 a2 hA
    have hoj : ops[j]? = some o := by simpa using h5
    have hl1 : A1.length = us.length := by omega
    have hl2 : vs.length = A2.length := by simp at hl; omega
    have hI' := closedP_at A1 0 hcl us vs w (by omega) hl2 hI
    have hH' : H (w.alloc (.cells cs.toArray t (0, 0))) := allOpt_spec hH (us ++ some w.heap.size :: vs) (by simp at hl ⊢; omega) _ hI'
    have hst : stillAt T ops j = false := by simp [stillAt, hoj, h6, isStill]
    unfold wpOp
    simp only [hoj]
    have hw : Region.wanted o (yielded ops (act n (envP (A1 ++ (d, .cells cs.toArray t (0, 0)) :: A2) (us ++ none :: vs) e) ds).tmps) = true := by simp [Region.wanted, h8]
    rw [if_pos hw]
    left
    unfold Oper.wp
    rw [act_eval]
    have hop : opW T ok (ev n (envP (A1 ++ (d, .cells cs.toArray t (0, 0)) :: A2) (us ++ none :: vs) e)) o.op o.type w (fun v w' => v = .pointer (some ⟨w.heap.size, 0, none⟩) ∧ w' = w.alloc (.cells cs.toArray t (0, 0))) (fun _ _ => False) (fun _ _ => False) := by
      rw [h6]
      simp only [opW, allocW]
      rw [h9]
      intro b w' hb hw'
      subst hb; subst hw'
      exact ⟨rfl, rfl⟩
    refine upon_of_res (regW_sound.res_mono (opW_sound hok (o := o) hop) (fun v w' k => ?_) (fun _ _ k => k.elim) (fun _ _ k => k.elim))
    obtain ⟨rfl, rfl⟩ := k
    rw [act_put, h7]
    refine ⟨⟨fun h0 => absurd (hst.symm.trans h0) (by simp), fun _ _ => hH'⟩, ?_⟩
    have henv : put (envP (A1 ++ (d, Obj.cells cs.toArray t (0, 0)) :: A2) (us ++ none :: vs) e) (some d) (.pointer (some ⟨w.heap.size, 0, none⟩)) = envP (A1 ++ (d, .cells cs.toArray t (0, 0)) :: A2) (us ++ some w.heap.size :: vs) e := envP_set A1 us A2 vs e hl1 hdist
    rw [henv]
    have hset := setAs_set base (j := j) (b := w.heap.size) a1 us a2 vs h3
    rw [← hset]
    exact next _ _ (by simp at hl ⊢; omega) (nones_set us vs _) hset hI'
  intro t
  induction t with
  | done =>
    intro base xs e w hl hok' hfin hc h
    obtain ⟨Inv, h1, h2, h3, h4⟩ := h
    have key : ∀ (m : Nat) (xs : List (Option Nat)) (w : World), nones xs = m → xs.length = A.length → Closed .any ops (setAs base as (xs.map Option.isSome)) → Inv xs w → GoodH P .any ops (liftQ n Q) H (stillAt T ops) flags (m + OT.done.len + fk) (setAs base as (xs.map Option.isSome)) (act n (envP A xs e) ds) w := by
      intro m
      induction m with
      | zero =>
        intro xs w hm hl hc hI
        obtain ⟨bs, rfl, hbl⟩ := nones_zero xs hm
        have hall : ∀ (as : List Nat) (bs : List Nat), bs.length = as.length → (bs.map some).map Option.isSome = as.map fun _ => true := by
          intro as
          induction as with
          | nil => intro bs h; obtain rfl := List.length_eq_zero_iff.1 h; rfl
          | cons a as ih => intro bs h; cases bs with
            | nil => simp at h
            | cons b bs => simp only [List.map_cons, Option.isSome_some, ih bs (by simpa using h)]
        have hb2 : bs.length = A.length := by rw [hbl]; exact hl
        have he := hall as bs (by omega)
        have hfin' : base = fin := hfin
        subst hfin'
        rw [he] at hc ⊢
        simp only [OT.len, Nat.zero_add, Nat.add_zero]
        exact hK bs e w hb2 hc (allOpt_spec h2 _ hl w hI) (allNat_spec h4 bs hb2 w hI)
      | succ m ih =>
        intro xs w hm hl hc hI
        have hv := mem_vecs (xs.map Option.isSome)
        simp only [poolOk, List.all_eq_true] at hok'
        have hbs := hok' (xs.map Option.isSome) (by rw [← hlen, ← hl, show xs.length = (xs.map Option.isSome).length by simp]; exact hv)
        have hnot : ((xs.map Option.isSome).all id) = false := by
          cases hb : (xs.map Option.isSome).all id with
          | false => rfl
          | true =>
            have : nones xs = 0 := by
              unfold nones
              rw [List.countP_eq_zero]
              intro x hx
              have := List.all_eq_true.1 hb x.isSome (List.mem_map_of_mem hx)
              cases x with
              | none => simp at this
              | some x => simp
            omega
        simp only [hnot, Bool.false_or, Bool.and_eq_true, List.all_eq_true, Bool.not_eq_true'] at hbs
        have hfu : m + 1 + OT.done.len + fk = (m + OT.done.len + fk) + 1 := by omega
        rw [hfu]
        refine ⟨fun h0 => by rw [h0] at hbs; simp at hbs, fun j hj => ?_⟩
        refine lay Inv h2 h3 base xs e w j _ hl (by simpa using hbs.2 j hj) hI (fun xs' w' hl' hn hset hI' => ?_)
        refine ih xs' w' (by omega) hl' ?_ hI'
        rw [hset]; exact hc.set hj
    exact key _ xs w rfl hl hc h1
  | step i b rest ih =>
    intro base xs e w hl hok' hfin hc h
    unfold poolW at h
    unfold poolOk at hok'
    split at h <;> try exact h.elim
    rename_i o ho
    have ho' : ops[i]? = some o := by simpa using ho
    simp only [ho', Bool.and_eq_true] at hok'
    obtain ⟨⟨⟨hg, hd⟩, hv⟩, hrest⟩ := hok'
    split at h <;> try exact h.elim
    rename_i hgn
    have henv : ∀ (xs : List (Option Nat)) (v : Value), put (envP A xs e) o.dst v = envP A xs (put e o.dst v) := by
      intro xs v
      cases hdd : o.dst with
      | none => rfl
      | some d =>
        rw [hdd] at hd
        exact envP_put A xs e (by simpa [dstFree] using hd)
    have hwant : ∀ a : Act, Region.wanted o (yielded ops a.tmps) = true := fun a => by simp [Region.wanted, hgn]
    cases hs : isStill T o.op <;> simp only [hs, cond_true, cond_false, List.all_eq_true, Bool.and_eq_true] at h hv
    · obtain ⟨Inv, h1, h2, h3, h4⟩ := h
      have hst : stillAt T ops i = false := by simp [stillAt, ho', hs]
      have step : ∀ (m : Nat), (∀ m', m = m' + 1 → ∀ (xs : List (Option Nat)) (w : World), nones xs = m' → xs.length = A.length → Closed .any ops (setAs base as (xs.map Option.isSome)) → Inv xs w → GoodH P .any ops (liftQ n Q) H (stillAt T ops) flags (m' + (OT.step i b rest).len + fk) (setAs base as (xs.map Option.isSome)) (act n (envP A xs e) ds) w) →
          ∀ (xs : List (Option Nat)) (w : World), nones xs = m → xs.length = A.length → Closed .any ops (setAs base as (xs.map Option.isSome)) → Inv xs w → GoodH P .any ops (liftQ n Q) H (stillAt T ops) flags (m + (OT.step i b rest).len + fk) (setAs base as (xs.map Option.isSome)) (act n (envP A xs e) ds) w := by
        intro m ihm xs w hm hl hc hI
        have hvv := hv (xs.map Option.isSome) (by rw [← hlen, ← hl, show xs.length = (xs.map Option.isSome).length by simp]; exact mem_vecs _)
        have hr : i ∈ Region.ready .any ops (setAs base as (xs.map Option.isSome)) := by simpa using hvv.2
        have hfu : m + (OT.step i b rest).len + fk = (m + rest.len + fk) + 1 := by simp only [OT.len]; omega
        rw [hfu]
        refine ⟨fun h0 => by rw [h0] at hr; simp at hr, fun j hj => ?_⟩
        have hj' := hvv.1 j hj
        simp only [Bool.or_eq_true, List.contains_iff_mem] at hj'
        by_cases hji : j = i
        · subst hji
          unfold wpOp
          simp only [ho']
          rw [if_pos (hwant _)]
          left
          unfold Oper.wp
          rw [act_eval]
          refine upon_of_res (regW_sound.res_mono (opW_sound hok (o := o) (allOpt_spec h4 xs hl w hI)) (fun v w' k => ?_) (fun _ _ k => k.elim) (fun _ _ k => k.elim))
          rw [act_put, henv]
          refine ⟨⟨fun h0 => absurd (hst.symm.trans h0) (by simp), fun _ _ => poolW_H rest hl k⟩, ?_⟩
          have IH := ih (base.setIfInBounds j true) xs (put e o.dst v) w' hl hrest hfin (by rw [setAs_base]; exact hc.set hr) k
          rw [setAs_base, hm] at IH
          exact IH
        · have hjm : j ∈ unl as (xs.map Option.isSome) := by
            rcases hj' with h | h
            · exact absurd (Nat.eq_of_beq_eq_true h) hji
            · exact h
          refine lay Inv h2 h3 base xs e w j _ hl hjm hI (fun xs' w' hl' hn hset hI' => ?_)
          have hm' : m = nones xs' + 1 := by omega
          have := ihm (nones xs') hm' xs' w' rfl hl' (by rw [hset]; exact hc.set hj) hI'
          have hfu2 : m + rest.len + fk = nones xs' + (OT.step i b rest).len + fk := by simp only [OT.len]; omega
          rw [hfu2]
          exact this
      have key : ∀ (m : Nat) (xs : List (Option Nat)) (w : World), nones xs = m → xs.length = A.length → Closed .any ops (setAs base as (xs.map Option.isSome)) → Inv xs w → GoodH P .any ops (liftQ n Q) H (stillAt T ops) flags (m + (OT.step i b rest).len + fk) (setAs base as (xs.map Option.isSome)) (act n (envP A xs e) ds) w := by
        intro m
        induction m with
        | zero => exact fun xs w hm hl hc hI => step 0 (fun m' h => by omega) xs w hm hl hc hI
        | succ m ihm => exact fun xs w hm hl hc hI => step (m + 1) (fun m' h => by
            have hmm : m' = m := by omega
            rw [hmm]; exact ihm) xs w hm hl hc hI
      exact key _ xs w rfl hl hc h1
    · have hst : stillAt T ops i = true := by simp [stillAt, ho', hs]
      have hvv := hv (xs.map Option.isSome) (by rw [← hlen, ← hl, show xs.length = (xs.map Option.isSome).length by simp]; exact mem_vecs _)
      have hr : i ∈ Region.ready .any ops (setAs base as (xs.map Option.isSome)) := by simpa using hvv.2
      have fr := Region.free_spec ho' hvv.1
      have hfu : nones xs + (OT.step i b rest).len + fk = (nones xs + rest.len + fk) + 1 := by simp only [OT.len]; omega
      rw [hfu]
      have next : ∀ v, poolW T ok n ops.toList C H A K rest xs (put e o.dst v) w → GoodH P .any ops (liftQ n Q) H (stillAt T ops) flags (nones xs + rest.len + fk) ((setAs base as (xs.map Option.isSome)).setIfInBounds i true) ((act n (envP A xs e) ds).put o.dst v) w := by
        intro v k
        have IH := ih (base.setIfInBounds i true) xs (put e o.dst v) w hl hrest hfin (by rw [setAs_base]; exact hc.set hr) k
        rw [setAs_base] at IH
        rw [act_put, henv]; exact IH
      cases hld : isLoad o.op with
      | false =>
        obtain ⟨v, k, hvr⟩ := stillW_sound (stillW_pure hld h)
        refine GoodH.take (H' := fun _ => True) ho' (Region.noSelect_spec hsel) hQ' hst (.inl fun _ => trivial) _ _ _ _ fr hc hr
          (v := v) (.inl ⟨hwant _, fun w _ => ?_⟩) trivial (next v k)
        rw [act_eval]; exact hvr w (fun _ _ h => h.elim)
      | true =>
        obtain ⟨v, k, hvr⟩ := stillW_sound h
        refine GoodH.take (H' := H) ho' (Region.noSelect_spec hsel) hQ' hst (.inr ⟨rfl, fun j hj hf hlt => hneed i j (by simp [loadAt, ho', hld]) hj hf hlt⟩) _ _ _ _ fr hc hr
          (v := v) (.inl ⟨hwant _, fun w hw => ?_⟩) (poolW_H rest hl k) (next v k)
        rw [act_eval]; exact hvr w (fun a u hc => hC a u hc w hw)
  | both => intro base xs e w hl hok' hfin hc h; exact h.elim
  | pool => intro base xs e w hl hok' hfin hc h; exact h.elim

theorem drawW_sound {P : Program} {T : TT P} {ok : Nat → Bool} (hok : ∀ f, ok f = true → enters P f) {n : Nat} {ops : Array Oper} {C : Addr → Value → Prop} {H : World → Prop} {Q : Post} {flags : Nat → Bool}
    (hC : ∀ a v, C a v → ∀ w, H w → w.cell? a = some v) (hsel : Region.noSelect ops = true)
    (hneed : ∀ i j, loadAt ops i = true → stillAt T ops j = false → flags j = false → j < ops.size → anc .any ops ops.size j i = true) (hQ : ∀ c e ds w, ¬ Q (.panic c) e ds w) :
    ∀ (order : OT) (f alive : Bool) (listed : Array Bool) (e : Env) (ds : List Deferred) (w : World), orderOk T ops flags order f alive listed = true → Closed .any ops listed → (alive = true → H w) →
      drawW T ok n ops.toList C H Q order e ds w →
        (f = false → GoodH P .any ops (liftQ n Q) H (stillAt T ops) flags order.len listed (act n e ds) w) ∧
        (f = true → ∀ fuel, order.len = fuel + 1 → ∀ i ∈ Region.ready .any ops listed, i ∈ order.heads →
          wpOp P ops (liftQ n Q) i (fun a' w' => condG H (stillAt T ops) flags i w w' ∧ GoodH P .any ops (liftQ n Q) H (stillAt T ops) flags fuel (listed.setIfInBounds i true) a' w') (act n e ds) w)
  | .done, f, alive, listed, e, ds, w, ho, hc, hH, h => ⟨fun _ => ⟨by simpa [orderOk] using ho, e, ds, rfl, h⟩, fun _ fuel hf => by simp [OT.len] at hf⟩
  | .both x y, f, alive, listed, e, ds, w, ho, hc, hH, h => by
    unfold orderOk at ho
    simp only [Bool.and_eq_true] at ho
    obtain ⟨⟨⟨⟨h1, h2⟩, h0⟩, h3⟩, h4⟩ := ho
    have h2 := Nat.eq_of_beq_eq_true h2
    unfold drawW at h
    have X := (drawW_sound hok hC hsel hneed hQ x true alive listed e ds w h3 hc hH h.1).2 rfl
    have Y := (drawW_sound hok hC hsel hneed hQ y true alive listed e ds w h4 hc hH h.2).2 rfl
    have Z : ∀ fuel, (OT.both x y).len = fuel + 1 → ∀ i ∈ Region.ready .any ops listed, i ∈ (OT.both x y).heads →
          wpOp P ops (liftQ n Q) i (fun a' w' => condG H (stillAt T ops) flags i w w' ∧ GoodH P .any ops (liftQ n Q) H (stillAt T ops) flags fuel (listed.setIfInBounds i true) a' w') (act n e ds) w := by
      intro fuel hf i hi hm
      simp only [OT.heads, List.mem_append] at hm
      rcases hm with hm | hm
      · exact X fuel hf i hi hm
      · exact Y fuel (by rw [← h2]; exact hf) i hi hm
    refine ⟨fun hff => ?_, fun _ => Z⟩
    subst hff
    simp only [Bool.false_or] at h1
    have hlen : ∃ fuel, (OT.both x y).len = fuel + 1 := by
      have : 0 < x.len := by
        rw [Nat.blt_eq] at h0
        exact h0
      exact ⟨x.len - 1, by simp only [OT.len]; omega⟩
    obtain ⟨fuel, hf⟩ := hlen
    rw [hf]
    have hmem : ∀ i ∈ Region.ready .any ops listed, i ∈ (OT.both x y).heads := fun i hi => by
      have := List.all_eq_true.1 h1 i hi
      simpa [OT.heads] using this
    by_cases hr : Region.ready .any ops listed = []
    · exact (orderNo hr h3 h0).elim
    · exact ⟨fun h => absurd h hr, fun i hi => Z fuel hf i hi (hmem i hi)⟩
  | .pool as t r, f, alive, listed, e, ds, w, ho, hc, hH, h => by
    unfold orderOk at ho
    unfold drawW at h
    simp only [Bool.and_eq_true, Bool.not_eq_true'] at ho
    obtain ⟨hf, ho⟩ := ho
    subst hf
    refine ⟨fun _ => ?_, fun hff => by cases hff⟩
    split at h <;> try exact h.elim
    rename_i A hA
    rw [hA] at ho
    simp only [Bool.and_eq_true] at ho
    obtain ⟨⟨hdist, hpool⟩, hafter⟩ := ho
    have hlen : A.length = as.length := poolA_len as hA
    have hsn : (A.map fun _ => (none : Option Nat)).map Option.isSome = as.map fun _ => false := by
      have : ∀ (A : List (Nat × Obj)) (as : List Nat), A.length = as.length → (A.map fun _ => (none : Option Nat)).map Option.isSome = as.map fun _ => false := by
        intro A
        induction A with
        | nil => intro as h; cases as with
          | nil => rfl
          | cons => simp at h
        | cons p A ih => intro as h; cases as with
          | nil => simp at h
          | cons a as => simp only [List.map_cons, Option.isSome_none, ih as (by simpa using h)]
      exact this A as hlen
    have hset0 : ∀ as : List Nat, setAs listed as (as.map fun _ => false) = listed := by
      intro as
      induction as with
      | nil => rfl
      | cons a as ih => simp only [List.map_cons, setAs, cond_false, ih]
    have hn0 : nones (A.map fun _ => (none : Option Nat)) = as.length := by
      rw [← hlen]
      have : ∀ A : List (Nat × Obj), nones (A.map fun _ => (none : Option Nat)) = A.length := by
        intro A
        induction A with
        | nil => rfl
        | cons p A ih => simp only [nones, List.map_cons, List.countP_cons, Option.isNone_none, List.length_cons] at ih ⊢; simp [ih]
      exact this A
    have := pool_sound hok hC hsel hneed hQ (flags := flags) (ds := ds) (K := fun e w => drawW T ok n ops.toList C H Q r e ds w) (fin := baseOf t listed) (fk := r.len) hA hdist
      (fun bs e w hb hcl hw k => (drawW_sound hok hC hsel hneed hQ r false true _ _ ds w hafter hcl (fun _ => hw) k).1 rfl)
      t listed (A.map fun _ => none) e w (by simp) hpool rfl (by rw [hsn, hset0]; exact hc) h
    rw [hsn, hset0, hn0, envP_none] at this
    exact this
  | .step i b rest, f, alive, listed, e, ds, w, ho, hc, hH, h => by
    have hQ' : ∀ c a w, ¬ liftQ n Q (.panic c) a w := fun c a w ⟨e, ds, _, q⟩ => hQ c e ds w q
    unfold drawW at h
    rw [show ops.toList[i]? = ops[i]? from by simp] at h
    unfold orderOk at ho
    cases hi : ops[i]? with
    | none => rw [hi] at h; exact h.elim
    | some o =>
      simp only [hi] at h ho
      cases hs : isStill T o.op with
      | true =>
        simp only [hs, cond_true, Bool.and_eq_true] at h ho
        obtain ⟨⟨⟨⟨hf, hal⟩, hfree⟩, hready⟩, hord⟩ := ho
        have hf : f = false := by simpa using hf
        refine ⟨fun _ => ?_, fun hff => absurd (hf.symm.trans hff) (by simp)⟩
        have hst : stillAt T ops i = true := by simp [stillAt, hi, hs]
        have hr : i ∈ Region.ready .any ops listed := by simpa using hready
        have IH := fun (e : Env) (h' : drawW T ok n ops.toList C H Q rest e ds w) => (drawW_sound hok hC hsel hneed hQ rest false alive _ e ds w hord (hc.set hr) hH h').1 rfl
        have fr := Region.free_spec hi hfree
        rcases guardW_sound (ds := ds) h with ⟨hwant, h⟩ | ⟨hwant, h⟩
        · cases hl : isLoad o.op with
          | false =>
            obtain ⟨v, k, hv⟩ := stillW_sound (stillW_pure hl h)
            refine GoodH.take (H' := fun _ => True) hi (Region.noSelect_spec hsel) hQ' hst (.inl fun _ => trivial) _ _ _ _ fr hc hr
              (v := v) (.inl ⟨hwant, fun w _ => ?_⟩) trivial ?_
            · rw [act_eval]; exact hv w (fun _ _ h => h.elim)
            · rw [act_put]; exact IH _ k
          | true =>
            have halive : alive = true := by simpa [hl] using hal
            obtain ⟨v, k, hv⟩ := stillW_sound h
            refine GoodH.take (H' := H) hi (Region.noSelect_spec hsel) hQ' hst (.inr ⟨rfl, fun j hj hf hlt => hneed i j (by simp [loadAt, hi, hl]) hj hf hlt⟩) _ _ _ _ fr hc hr
              (v := v) (.inl ⟨hwant, fun w hw => ?_⟩) (hH halive) ?_
            · rw [act_eval]; exact hv w (fun a u hc => hC a u hc w hw)
            · rw [act_put]; exact IH _ k
        · refine GoodH.take (H' := fun _ => True) hi (Region.noSelect_spec hsel) hQ' hst (.inl fun _ => trivial) _ _ _ _ fr hc hr
            (v := undef) (.inr ⟨hwant, rfl⟩) trivial ?_
          rw [act_put]; exact IH _ h
      | false =>
        simp only [hs, cond_false, Bool.and_eq_true, beq_iff_eq] at h ho
        obtain ⟨⟨⟨⟨hready, hcont⟩, hflag⟩, hba⟩, hord⟩ := ho
        have hst : stillAt T ops i = false := by simp [stillAt, hi, hs]
        have hr : i ∈ Region.ready .any ops listed := by simpa using hcont
        have key : wpOp P ops (liftQ n Q) i (fun a' w' => condG H (stillAt T ops) flags i w w' ∧ GoodH P .any ops (liftQ n Q) H (stillAt T ops) flags rest.len (listed.setIfInBounds i true) a' w') (act n e ds) w := by
          unfold wpOp
          simp only [hi]
          rcases guardW_sound (ds := ds) h with ⟨hwant, h2⟩ | ⟨hwant, h2⟩
          · rw [if_pos hwant]
            left
            unfold Oper.wp
            rw [act_eval]
            refine upon_of_res (regW_sound.res_mono (opW_sound hok (o := o) h2) (fun v w' k => ?_) (fun _ _ k => k.elim) (fun _ _ k => k.elim))
            rw [act_put]
            cases b with
            | true =>
              simp only [cond_true] at k
              exact ⟨⟨fun h0 => absurd (hst.symm.trans h0) (by simp), fun _ _ => k.1⟩, (drawW_sound hok hC hsel hneed hQ rest false true _ _ ds w' hord (hc.set hr) (fun _ => k.1) k.2).1 rfl⟩
            | false =>
              simp only [cond_false] at k
              exact ⟨⟨fun h0 => absurd (hst.symm.trans h0) (by simp), fun _ h1 => absurd (hflag.symm.trans h1) (by simp)⟩, (drawW_sound hok hC hsel hneed hQ rest false false _ _ ds w' hord (hc.set hr) (fun h0 => absurd h0 (by simp)) k).1 rfl⟩
          · rw [if_neg (by rw [hwant]; simp)]
            rw [act_put]
            cases b with
            | true =>
              have hal : alive = true := by
                cases hg : o.guard with
                | none => rw [show Region.wanted o (yielded ops (act n e ds).tmps) = true from by simp [Region.wanted, hg]] at hwant; cases hwant
                | some g => simpa [hg] using hba
              exact ⟨⟨fun _ => rfl, fun _ _ => hH hal⟩, (drawW_sound hok hC hsel hneed hQ rest false true _ _ ds w hord (hc.set hr) (fun _ => hH hal) h2).1 rfl⟩
            | false =>
              exact ⟨⟨fun _ => rfl, fun _ h1 => absurd (hflag.symm.trans h1) (by simp)⟩, (drawW_sound hok hC hsel hneed hQ rest false false _ _ ds w hord (hc.set hr) (fun h0 => absurd h0 (by simp)) h2).1 rfl⟩
        refine ⟨fun hff => ?_, fun hff fuel hfu j hj hm => ?_⟩
        · subst hff
          simp only [Bool.false_or, beq_iff_eq] at hready
          refine ⟨fun h0 => absurd h0 (by rw [hready]; simp), fun j hj => ?_⟩
          rw [hready, List.mem_singleton] at hj
          subst hj
          exact key
        · simp only [OT.heads, List.mem_singleton] at hm
          subst hm
          simp only [OT.len, Nat.add_right_cancel_iff] at hfu
          subst hfu
          exact key
end Go.W

namespace Go.W
set_option linter.unusedSimpArgs false
set_option linter.unusedVariables false
section
variable {P : Program} {T : TT P} {w : World}

theorem cellsAny_mono : ∀ {ts : List Ty} {K K' : List Value → Prop}, (∀ v, K v → K' v) → cellsAny ts K → cellsAny ts K'
  | [], _, _, hk, h => hk _ h
  | _ :: _, _, _, hk, ⟨x, h⟩ => ⟨x, cellsAny_mono (fun _ k => hk _ k) h⟩
theorem anyW_mono {t : TypeId} {K K' : Value → Prop} (hk : ∀ v, K v → K' v) (h : anyW T t K) : anyW T t K' := by
  revert h; unfold anyW; split
  · rename_i td _
    cases isAggW td <;> simp only [cond_true, cond_false]
    · rintro ⟨x, h⟩; exact ⟨x, hk _ h⟩
    · exact cellsAny_mono fun _ k => hk _ k
  · exact id
theorem anysW_mono : ∀ {ts : List TypeId} {K K' : List Value → Prop}, (∀ v, K v → K' v) → anysW T ts K → anysW T ts K'
  | [], _, _, hk, h => hk _ h
  | _ :: _, _, _, hk, h => anyW_mono (fun _ k => anysW_mono (fun _ k => hk _ k) k) h
theorem retW_mono {ts : List TypeId} {v : Value} {K K' : Value → Prop} (hk : ∀ v, K v → K' v) (h : retW T ts v K) : retW T ts v K' := by
  revert h; unfold retW; split
  · exact fun h => ⟨h.1, hk _ h.2⟩
  · exact anyW_mono fun _ h => ⟨h.1, hk _ h.2⟩
  · exact anysW_mono fun _ h => ⟨h.1, hk _ h.2⟩
theorem loadCellsW_mono : ∀ {ts : List Ty} {b o : Nat} {K K' : List Value → Prop}, (∀ v, K v → K' v) → loadCellsW w b o ts K → loadCellsW w b o ts K'
  | [], _, _, _, _, hk, h => hk _ h
  | _ :: _, _, _, _, _, hk, ⟨x, hc, h⟩ => ⟨x, hc, loadCellsW_mono (fun _ k => hk _ k) h⟩
theorem loadW_mono {t : TypeId} {a : Value} {K K' : Value → Prop} (hk : ∀ v, K v → K' v) (h : loadW T t a w K) : loadW T t a w K' := by
  revert h; unfold loadW; split <;> try exact id
  split <;> try exact id
  split <;> try exact id
  rename_i td _
  cases isAggW td <;> simp only [cond_true, cond_false]
  · rintro ⟨x, hc, h⟩; exact ⟨x, hc, hk _ h⟩
  · split <;> try exact id
    rename_i i _
    cases Nat.beq (leavesOf T 8 t).length i.size <;> simp only [cond_true, cond_false]
    · exact id
    · exact loadCellsW_mono fun _ k => hk _ k
theorem loadCellsC_mono {C : Addr → Value → Prop} : ∀ {ts : List Ty} {b o : Nat} {K K' : List Value → Prop}, (∀ v, K v → K' v) → loadCellsC C b o ts K → loadCellsC C b o ts K'
  | [], _, _, _, _, hk, h => hk _ h
  | _ :: _, _, _, _, _, hk, ⟨x, hc, h⟩ => ⟨x, hc, loadCellsC_mono (fun _ k => hk _ k) h⟩
theorem loadC_mono {C : Addr → Value → Prop} {t : TypeId} {a : Value} {K K' : Value → Prop} (hk : ∀ v, K v → K' v) (h : loadC T C t a K) : loadC T C t a K' := by
  revert h; unfold loadC; split <;> try exact id
  split <;> try exact id
  split <;> try exact id
  rename_i td _
  cases isAggW td <;> simp only [cond_true, cond_false]
  · rintro ⟨x, hc, h⟩; exact ⟨x, hc, hk _ h⟩
  · split <;> try exact id
    rename_i i _
    cases Nat.beq (leavesOf T 8 t).length i.size <;> simp only [cond_true, cond_false]
    · exact id
    · exact loadCellsC_mono fun _ k => hk _ k
theorem storeCellsW_mono : ∀ {vs : List Value} {w : World} {b o : Nat} {K K' : World → Prop}, (∀ w, K w → K' w) → storeCellsW w b o vs K → storeCellsW w b o vs K'
  | [], _, _, _, _, _, hk, h => hk _ h
  | v :: vs, w, b, o, K, K', hk, h => by
    revert h; unfold storeCellsW; split <;> try exact id
    rintro ⟨h1, h2, h⟩
    exact ⟨h1, h2, fun w' e => storeCellsW_mono hk (h w' e)⟩
theorem storeW_mono {t : TypeId} {a v : Value} {K K' : World → Prop} (hk : ∀ w, K w → K' w) (h : storeW T t a v w K) : storeW T t a v w K' := by
  revert h; unfold storeW; split <;> try exact id
  split <;> try exact id
  split <;> try exact id
  rename_i i _
  split <;> try exact id
  rename_i td _
  cases isAggW td <;> simp only [cond_true, cond_false]
  · cases Nat.beq i.size 1 <;> simp only [cond_true, cond_false]
    · exact id
    · exact storeCellsW_mono hk
  · cases Nat.beq (cellsL v).length i.size <;> simp only [cond_true, cond_false]
    · exact id
    · exact storeCellsW_mono hk
theorem newW_mono {o : Obj} {K K' : Nat → World → Prop} (hk : ∀ b w, K b w → K' b w) (h : newW w o K) : newW w o K' := fun b w' h1 h2 => hk _ _ (h b w' h1 h2)
theorem allocW_mono {t : TypeId} {K K' : Value → World → Prop} (hk : ∀ v w, K v w → K' v w) (h : allocW T t w K) : allocW T t w K' := by
  revert h; unfold allocW; split
  · exact newW_mono fun _ _ k => hk _ _ k
  · exact id
theorem boxW_mono {t : TypeId} {v : Value} {K K' : Value → World → Prop} (hk : ∀ v w, K v w → K' v w) (h : boxW t v w K) : boxW t v w K' := newW_mono (fun _ _ k => hk _ _ k) h
theorem buildW_mono {t : TypeId} {ps : List (Nat × Value)} {K K' : Value → Prop} (hk : ∀ v, K v → K' v) (h : buildW T t ps K) : buildW T t ps K' := by
  revert h; unfold buildW; split <;> try exact id
  split <;> try exact id
  · split <;> try exact id
    split <;> first | exact id | exact fun h => hk _ h
  · split <;> try exact id
    split <;> first | exact id | exact fun h => hk _ h
theorem buildSliceW_mono {t : TypeId} {n : Nat} {ps : List (Nat × Value)} {K K' : Value → World → Prop} (hk : ∀ v w, K v w → K' v w) (h : buildSliceW T t n ps w K) : buildSliceW T t n ps w K' := by
  revert h; unfold buildSliceW; split <;> try exact id
  split <;> try exact id
  rename_i i _
  cases (Nat.ble (n * i.size) 4096 && Nat.blt 0 i.size) <;> simp only [cond_true, cond_false]
  · exact id
  · split <;> try exact id
    rename_i z _
    cases Nat.beq z.length i.size <;> simp only [cond_true, cond_false]
    · exact id
    · split <;> first | exact id | exact newW_mono fun _ _ k => hk _ _ k
theorem nilW_mono {x : Value} {K K' : Value → Prop} (hk : ∀ v, K v → K' v) (h : nilW x K) : nilW x K' := by
  revert h; unfold nilW; split <;> first | exact id | exact fun h => hk _ h | (split <;> first | exact id | exact fun h => hk _ h)
theorem binW_mono {op : BinOp} {t : TypeId} {x y : Value} {K K' : Value → Prop} (hk : ∀ v, K v → K' v) (h : binW T op t x y K) : binW T op t x y K' := by
  revert h; unfold binW; split <;> first
    | exact id
    | exact fun h => hk _ h
    | exact fun h => ⟨h.1, hk _ h.2⟩
    | (split <;> first | exact id | exact fun h => hk _ h)
    | (split <;> first | exact id | (rename_i ms _; cases ms.isEmpty <;> simp only [cond_true, cond_false] <;> first | exact id | exact fun h => hk _ h))
    | (rename_i k _ k' _ _ _; cases kindBeq k k' <;> simp only [cond_true, cond_false] <;> first | exact id | (split <;> first | exact id | exact fun h => hk _ h | exact fun h => ⟨h.1, hk _ h.2⟩))
theorem unW_mono {op : UnOp} {x : Value} {K K' : Value → Prop} (hk : ∀ v, K v → K' v) (h : unW op x K) : unW op x K' := by
  revert h; unfold unW; split <;> first | exact id | exact fun h => hk _ h
theorem convW_mono {s d : TypeId} {x : Value} {K K' : Value → World → Prop} (hk : ∀ v w, K v w → K' v w) (h : convW T s d x w K) : convW T s d x w K' := by
  revert h; unfold convW; split <;> first
    | exact id
    | exact fun h => hk _ _ h
    | (split <;> first
        | exact id
        | exact fun h b w' c h1 h2 h3 => hk _ _ (h b w' c h1 h2 h3)
        | (cases Nat.beq s d <;> simp only [cond_true, cond_false] <;> first | exact id | exact fun h w' h1 h2 => hk _ _ (h w' h1 h2))
        | exact fun h => ⟨h.1, h.2.elim fun bs k => ⟨bs, k.1, k.2.1, hk _ _ k.2.2⟩⟩)
theorem convS_mono {s d : TypeId} {x : Value} {K K' : Value → Prop} (hk : ∀ v, K v → K' v) (h : convS T s d x K) : convS T s d x K' := by
  revert h; unfold convS; split <;> first | exact id | exact fun h => hk _ h
theorem ifaceW_mono {t : TypeId} {x : Value} {K K' : Value → Prop} (hk : ∀ v, K v → K' v) (h : ifaceW T t x K) : ifaceW T t x K' := by
  revert h; unfold ifaceW; split <;> first | exact id | exact fun h => hk _ h
theorem loW_mono {x : Option Value} {h' : Nat} {K K' : Nat → Prop} (hk : ∀ v, K v → K' v) (h : loW x h' K) : loW x h' K' := by
  revert h; unfold loW; split <;> first | exact fun h => hk _ h | exact fun h => ⟨h.1, h.2.1, hk _ h.2.2⟩ | exact id
theorem hiW_mono {x : Option Value} {l c : Nat} {K K' : Nat → Prop} (hk : ∀ v, K v → K' v) (h : hiW x l c K) : hiW x l c K' := by
  revert h; unfold hiW; split <;> first | exact fun h => hk _ h | exact fun h => ⟨h.1, h.2.1, hk _ h.2.2⟩ | exact id
theorem sliceW_mono {t : TypeId} {x : Value} {lo hi mx : Option Value} {K K' : Value → Prop} (hk : ∀ v, K v → K' v) (h : sliceW T t x lo hi mx K) : sliceW T t x lo hi mx K' := by
  revert h; unfold sliceW; split <;> try exact id
  · split <;> first | exact id | exact hiW_mono fun _ h => loW_mono (fun _ h => hk _ h) h
  · split <;> try exact id
    split
    · exact hiW_mono fun _ h => loW_mono (fun _ h a' h1 h2 => hk _ (h a' h1 h2)) h
    · split <;> first | exact id | exact hiW_mono fun _ h => hiW_mono (fun _ h => loW_mono (fun _ h a' h1 h2 => hk _ (h a' h1 h2)) h) h
theorem fieldAddrW_mono {t : TypeId} {x : Value} {f : Nat} {K K' : Value → Prop} (hk : ∀ v, K v → K' v) (h : fieldAddrW T t x f K) : fieldAddrW T t x f K' := by
  revert h; unfold fieldAddrW; split <;> try exact id
  split <;> try exact id
  split <;> try exact id
  split <;> try exact id
  split <;> try exact id
  rename_i i _
  cases Nat.beq i.size 0 <;> simp only [cond_true, cond_false] <;> first | exact id | exact fun h => hk _ h
theorem partL_mono {t : TypeId} {cs : List Value} {o : Nat} {K K' : Value → Prop} (hk : ∀ v, K v → K' v) (h : partL T t cs o K) : partL T t cs o K' := by
  revert h; unfold partL; split <;> try exact id
  rename_i td i _ _
  cases isAggW td <;> simp only [cond_true, cond_false]
  · split <;> first | exact id | exact fun h => hk _ h
  · exact fun h => hk _ h
theorem fieldW_mono {t : TypeId} {x : Value} {f : Nat} {K K' : Value → Prop} (hk : ∀ v, K v → K' v) (h : fieldW T t x f K) : fieldW T t x f K' := by
  revert h; unfold fieldW; split <;> try exact id
  split <;> first | exact id | exact partL_mono hk
theorem indexAddrW_mono {t : TypeId} {x i : Value} {K K' : Value → Prop} (hk : ∀ v, K v → K' v) (h : indexAddrW T t x i K) : indexAddrW T t x i K' := by
  revert h; unfold indexAddrW; split <;> try exact id
  · split <;> first | exact id | exact fun ⟨b, o, h1, h2, h3, h⟩ => ⟨b, o, h1, h2, h3, hk _ h⟩
  · split <;> first | exact id | exact fun ⟨h2, h3, h⟩ => ⟨h2, h3, hk _ h⟩
theorem indexW_mono {t : TypeId} {x i : Value} {K K' : Value → Prop} (hk : ∀ v, K v → K' v) (h : indexW T t x i K) : indexW T t x i K' := by
  revert h; unfold indexW; split <;> try exact id
  · exact fun ⟨h0, c, h1, h⟩ => ⟨h0, c, h1, hk _ h⟩
  · split <;> first | exact id | exact fun ⟨h2, h3, h⟩ => ⟨h2, h3, partL_mono hk h⟩
theorem pickW_mono {c a b : Value} {K K' : Value → Prop} (hk : ∀ v, K v → K' v) (h : pickW c a b K) : pickW c a b K' := by
  revert h; unfold pickW; split <;> try exact id
  split <;> exact fun h => hk _ h
theorem extractW_mono {x : Value} {i : Nat} {K K' : Value → Prop} (hk : ∀ v, K v → K' v) (h : extractW x i K) : extractW x i K' := by
  revert h; unfold extractW; split <;> try exact id
  split <;> first | exact id | exact fun h => hk _ h
theorem assertW_mono {x : Value} {t : TypeId} {b : Bool} {K K' : Value → Prop} (hk : ∀ v, K v → K' v) (h : assertW T x t b K) : assertW T x t b K' := by
  revert h; unfold assertW; split <;> try exact id
  generalize Nat.beq _ t = bb
  cases bb <;> simp only [cond_true, cond_false]
  · cases b <;> simp only [cond_true, cond_false]
    · exact id
    · split <;> try exact id
      split <;> first | exact id | exact fun h => hk _ h
  · exact fun h => hk _ h
theorem semW_mono {s : Sem Value} {K K' : Value → World → Prop} {X X' : List PanicEntry → World → Prop} (hk : ∀ v w, K v w → K' v w) (hx : ∀ c w, X c w → X' c w) (h : semW P s w K X) : semW P s w K' X' := by
  revert h; unfold semW; split <;> first | exact id | exact fun h => hk _ _ h | exact fun h => hx _ _ h
theorem semT_mono {s : Sem Value} {ty : TypeId} {K K' : Value → World → Prop} {X X' : List PanicEntry → World → Prop} (hk : ∀ v w, K v w → K' v w) (hx : ∀ c w, X c w → X' c w) (h : semT T s ty w K X) : semT T s ty w K' X' :=
  semW_mono (fun _ _ k => retW_mono (fun _ k => hk _ _ k) k) hx h
theorem builtinW_mono {b : Builtin} {ats : List TypeId} {ty : TypeId} {args : List Value} {K K' : Value → World → Prop} {X X' : List PanicEntry → World → Prop} (hk : ∀ v w, K v w → K' v w) (hx : ∀ c w, X c w → X' c w)
    (h : builtinW T b ats ty args w K X) : builtinW T b ats ty args w K' X' := by
  revert h; unfold builtinW; split <;> first
    | exact id
    | exact semW_mono hk hx
    | exact semT_mono hk hx
    | (split <;> first | exact fun h => hk _ _ h | exact semW_mono hk hx | (split <;> first | exact id | exact fun h => hk _ _ h))
theorem builtinS_mono {b : Builtin} {ats : List TypeId} {args : List Value} {K K' : Value → Prop} (hk : ∀ v, K v → K' v)
    (h : builtinS T b ats args K) : builtinS T b ats args K' := by
  revert h; unfold builtinS; split <;> first
    | exact id
    | exact fun h => hk _ h
    | (split <;> first | exact id | exact fun h => hk _ h)
theorem enterW_mono {ok : Nat → Bool} {g : FuncId} {args : List Value} {ty : TypeId} {K K' : Value → World → Prop} {X X' : List PanicEntry → World → Prop} (hk : ∀ v w, K v w → K' v w) (hx : ∀ c w, X c w → X' c w)
    (h : enterW T ok g args ty w K X) : enterW T ok g args ty w K' X' := by
  revert h; unfold enterW
  cases ok g <;> simp only [cond_true, cond_false]
  · unfold externW; split <;> first | exact id | exact fun h => retW_mono (fun _ k => hk _ _ k) h
  · exact fun h => CallW.mono h (fun _ _ k => retW_mono (fun _ k => hk _ _ k) k) hx
theorem callW_mono {ok : Nat → Bool} {ρ : Operand → Value} {c : Call} {ty : TypeId} {K K' : Value → World → Prop} {X X' : List PanicEntry → World → Prop} (hk : ∀ v w, K v w → K' v w) (hx : ∀ c w, X c w → X' c w)
    (h : callW T ok ρ c ty w K X) : callW T ok ρ c ty w K' X' := by
  revert h; unfold callW; split
  · exact builtinW_mono hk hx
  · unfold callValW callAnyW; split <;> first | exact id | exact fun h => enterW_mono (T := T) (ok := ok) (ty := ty) hk hx h
  · exact id
theorem deferW_mono {ρ : Operand → Value} {c : Call} {Kd Kd' : Deferred → World → Prop} (hd : ∀ d w, Kd d w → Kd' d w) (h : deferW ρ c w Kd) : deferW ρ c w Kd' := by
  revert h; unfold deferW; split <;> try exact id
  split <;> first | exact id | exact fun h => hd _ _ h

theorem opW_mono {ok : Nat → Bool} {ρ : Operand → Value} {op : Op} {ty : TypeId} {K K' : Value → World → Prop} {Kd Kd' : Deferred → World → Prop} {X X' : List PanicEntry → World → Prop}
    (hk : ∀ v w, K v w → K' v w) (hd : ∀ d w, Kd d w → Kd' d w) (hx : ∀ c w, X c w → X' c w) (h : opW T ok ρ op ty w K Kd X) : opW T ok ρ op ty w K' Kd' X' := by
  have hk' : ∀ w v, K v w → K' v w := fun w v => hk v w
  cases op <;> simp only [opW] at h ⊢ <;> first
    | exact h
    | exact hk _ _ h
    | exact pickW_mono (hk' _) h
    | exact allocW_mono hk h
    | exact boxW_mono hk h
    | exact buildW_mono (hk' _) h
    | exact buildSliceW_mono hk h
    | exact loadW_mono (hk' _) h
    | exact storeW_mono (hk _) h
    | exact nilW_mono (hk' _) h
    | exact binW_mono (hk' _) h
    | exact unW_mono (hk' _) h
    | exact convW_mono hk h
    | exact ifaceW_mono (hk' _) h
    | exact semW_mono hk hx h
    | exact semT_mono hk hx h
    | exact sliceW_mono (hk' _) h
    | exact fieldAddrW_mono (hk' _) h
    | exact fieldW_mono (hk' _) h
    | exact indexAddrW_mono (hk' _) h
    | exact indexW_mono (hk' _) h
    | exact assertW_mono (hk' _) h
    | exact extractW_mono (hk' _) h
    | exact callW_mono hk hx h
    | exact deferW_mono hd h
    | (rename_i r; cases r <;> simp only at h ⊢ <;> first | exact h | exact newW_mono (fun _ _ k => hk _ _ k) h)
    | (revert h; split <;> first | exact id | exact hx _ _)
theorem stillW_mono {ρ : Operand → Value} {op : Op} {C : Addr → Value → Prop} {K K' : Value → Prop} (hk : ∀ v, K v → K' v) (h : stillW T ρ op C K) : stillW T ρ op C K' := by
  cases op <;> simp only [stillW] at h ⊢ <;> first
    | exact h
    | exact hk _ h
    | exact pickW_mono hk h
    | exact buildW_mono hk h
    | exact loadC_mono hk h
    | exact nilW_mono hk h
    | exact binW_mono hk h
    | exact unW_mono hk h
    | exact convS_mono hk h
    | exact ifaceW_mono hk h
    | exact sliceW_mono hk h
    | exact fieldAddrW_mono hk h
    | exact fieldW_mono hk h
    | exact indexAddrW_mono hk h
    | exact indexW_mono hk h
    | exact assertW_mono hk h
    | exact extractW_mono hk h
    | (revert h; split <;> first | exact id | exact builtinS_mono hk)
end
end Go.W

namespace Go.W
set_option linter.unusedSimpArgs false
set_option linter.unusedVariables false

/-! what a loop's round, or what stands behind a branch, knows of the slots -/
abbrev Vars := List (Nat × Ty)
abbrev Tup : Vars → Type
  | [] => Unit
  | [(_, t)] => t.T
  | (_, t) :: v :: r => t.T × Tup (v :: r)
def setV : (vs : Vars) → Tup vs → Env → Env
  | [], _, e => e
  | [(k, t)], x, e => up e k (t.val x)
  | (k, t) :: v :: r, s, e => up (setV (v :: r) s.2 e) k (t.val s.1)
def memL (k : Nat) : List Nat → Bool
  | [] => false
  | x :: xs => bif Nat.beq k x then true else memL k xs
def mixV (mods : List Nat) (junk e : Env) : Env := fun k => bif memL k mods then junk k else e k
def unval : (t : Ty) → Value → (t.T → Prop) → Prop
  | .int k, v, K => match v with | .int k' n => bif kindBeq k' k then K n else False | _ => False
  | .bool, v, K => match v with | .bool b => K b | _ => False
  | .str, v, K => match v with | .string s => K s | _ => False
  | .slice, v, K => ∃ s : Sl, s.val = v ∧ K s
  | .ptr, v, K => ∃ b : Option (Nat × Nat), Ty.val .ptr b = v ∧ K b
  | .map, v, K => match v with | .map r => K r | _ => False
  | .float k, v, K => match k, v with | .f64, .float .f64 b => K b | .f32, .float .f32 b => K b | _, _ => False
  | .raw, v, K => K v
theorem unval_some {t : Ty} {v : Value} {K : t.T → Prop} (h : unval t v K) : ∃ x, t.val x = v ∧ K x := by
  cases t with
  | slice => exact h
  | ptr => exact h
  | raw => exact ⟨v, rfl, h⟩
  | int k =>
    cases v <;> try exact h.elim
    rename_i k' n
    cases hb : kindBeq k' k <;> simp only [unval, hb, cond_true, cond_false] at h
    exact ⟨n, by rw [kindBeq_eq hb]; rfl, h⟩
  | float k => cases k <;> cases v <;> (try exact h.elim) <;> (rename_i k' b; cases k' <;> first | exact h.elim | exact ⟨b, rfl, h⟩)
  | bool => cases v <;> first | exact h.elim | exact ⟨_, rfl, h⟩
  | str => cases v <;> first | exact h.elim | exact ⟨_, rfl, h⟩
  | map => cases v <;> first | exact h.elim | exact ⟨_, rfl, h⟩
def takeV : (vs : Vars) → Env → (Tup vs → Prop) → Prop
  | [], _, K => K ()
  | [(k, t)], e, K => unval t (e k) K
  | (k, t) :: v :: r, e, K => unval t (e k) fun x => takeV (v :: r) e fun s => K (x, s)
def allV : (vs : Vars) → (Tup vs → Prop) → Prop
  | [], K => K ()
  | [(_, t)], K => ∀ x : t.T, K x
  | (_, t) :: v :: r, K => ∀ x : t.T, allV (v :: r) fun s => K (x, s)
theorem allV_spec : ∀ {vs : Vars} {K : Tup vs → Prop}, allV vs K → ∀ s, K s
  | [], K, h, () => h
  | [(_, t)], K, h, s => h s
  | (_, t) :: v :: r, K, h, (x, s) => allV_spec (h x) s
theorem allV_mk : ∀ {vs : Vars} {K : Tup vs → Prop}, (∀ s, K s) → allV vs K
  | [], K, h => h ()
  | [(_, t)], K, h => h
  | (_, t) :: v :: r, K, h => fun x => allV_mk fun s => h (x, s)
theorem takeV_some : ∀ {vs : Vars} {e : Env} {K : Tup vs → Prop}, takeV vs e K → ∃ s, setV vs s e = e ∧ K s
  | [], e, K, h => ⟨(), rfl, h⟩
  | [(k, t)], e, K, h => by
    obtain ⟨x, hx, h⟩ := unval_some h
    exact ⟨x, up_same hx.symm, h⟩
  | (k, t) :: v :: r, e, K, h => by
    obtain ⟨x, hx, h⟩ := unval_some h
    obtain ⟨s, hs, h⟩ := takeV_some h
    refine ⟨(x, s), ?_, h⟩
    show up (setV (v :: r) s e) k (t.val x) = e
    rw [hs]; exact up_same hx.symm
theorem unval_mono {t : Ty} {v : Value} {K K' : t.T → Prop} (hk : ∀ x, K x → K' x) (h : unval t v K) : unval t v K' := by
  cases t with
  | slice => exact let ⟨s, h1, h⟩ := h; ⟨s, h1, hk _ h⟩
  | ptr => exact let ⟨s, h1, h⟩ := h; ⟨s, h1, hk _ h⟩
  | raw => exact hk _ h
  | int k =>
    cases v <;> try exact h.elim
    rename_i k' n
    revert h
    simp only [unval]
    cases kindBeq k' k <;> simp only [cond_true, cond_false]
    · exact id
    · exact fun h => hk _ h
  | float k => cases k <;> cases v <;> (try exact h.elim) <;> (rename_i k' b; cases k' <;> first | exact h.elim | exact hk _ h)
  | bool => cases v <;> first | exact h.elim | exact hk _ h
  | str => cases v <;> first | exact h.elim | exact hk _ h
  | map => cases v <;> first | exact h.elim | exact hk _ h
theorem takeV_mono : ∀ {vs : Vars} {e : Env} {K K' : Tup vs → Prop}, (∀ x, K x → K' x) → takeV vs e K → takeV vs e K'
  | [], e, K, K', hk, h => hk _ h
  | [(k, t)], e, K, K', hk, h => unval_mono hk h
  | (k, t) :: v :: r, e, K, K', hk, h => unval_mono (fun _ h => takeV_mono (fun _ h => hk _ h) h) h

/-! annotations: where a loop, a join, a region that draws stands -/
inductive Ann where
  | leaf
  | seq (a b : Ann)
  | join (vs : Vars) (mods : List Nat) (a b : Ann)
  | cond (a b : Ann)
  | block (a : Ann)
  | loop (vs : Vars) (mods : List Nat) (a : Ann)
  | draw (order : OT)
  | drawE (order : OT)

def noPanic (Q : Post) : Post := fun ex e ds w => match ex with | .panic _ => False | ex => Q ex e ds w
def condW (n : Nat) (c : Operand) (e : Env) (A B : Prop) : Prop := match ev n e c with | .bool t => cond t A B | _ => False
def inBlockQ (id : Nat) (Q : Post) : Post := fun ex e ds w => match ex with
  | .exit i => bif Nat.beq i id then Q .normal e ds w else Q (.exit i) e ds w
  | ex => Q ex e ds w

def wpc {P : Program} (T : TT P) (ok : Nat → Bool) (n : Nat) : Code → Ann → Post → Env → List Deferred → World → Prop
  | .skip, _, Q, e, ds, w => Q .normal e ds w
  | .label _, _, Q, e, ds, w => Q .normal e ds w
  | .exit id, _, Q, e, ds, w => Q (.exit id) e ds w
  | .ret, _, Q, e, ds, w => Q .ret e ds w
  | .region _ ops true, .draw order, Q, e, ds, w => drawW T ok n ops.toList (fun a v => w.cell? a = some v) (fun w' => w' = w.drew) Q order e ds w.drew
  | .region _ ops true, .drawE order, Q, e, ds, w => ∃ H : World → Prop, H w.drew ∧ drawW T ok n ops.toList (fun a v => ∀ w', H w' → w'.cell? a = some v) H Q order e ds w.drew
  | .region _ ops false, _, Q, e, ds, w => regW T ok n ops.toList Q ops.toList e ds w
  | .seq x y, .seq a b, Q, e, ds, w => wpc T ok n x a (fun ex e ds w => match ex with | .normal => wpc T ok n y b Q e ds w | ex => Q ex e ds w) e ds w
  | .seq x y, .join vs mods a b, Q, e, ds, w => ∃ J : Tup vs → World → Prop,
      wpc T ok n x a (fun ex e' ds' w' => match ex with | .normal => takeV vs e' (fun s => J s w') | ex => Q ex e' ds' w') e ds w ∧
      allV vs fun s => ∀ (w' : World) (junk : Env), J s w' → wpc T ok n y b Q (setV vs s (mixV mods junk e)) ds w'
  | .cond c x y, .cond a b, Q, e, ds, w => condW n c e (wpc T ok n x a Q e ds w) (wpc T ok n y b Q e ds w)
  | .block id x, .block a, Q, e, ds, w => wpc T ok n x a (inBlockQ id Q) e ds w
  | .loop x, .loop vs mods a, Q, e, ds, w => ∃ (I : Tup vs → World → Prop) (μ : Tup vs → World → Nat), takeV vs e (fun s => I s w) ∧
      allV vs fun s => ∀ (w' : World) (junk : Env), I s w' →
        wpc T ok n x a (fun ex e' ds' w'' => match ex with | .normal => takeV vs e' (fun s' => I s' w'' ∧ μ s' w'' < μ s w') | ex => Q ex e' ds' w'') (setV vs s (mixV mods junk e)) ds w'
  | _, _, _, _, _, _ => False

/-! what a piece of code may write -/
def dstsL : List Oper → List Nat
  | [] => []
  | o :: r => match o.dst with | some d => d :: dstsL r | none => dstsL r
/-- slots of guards are set to what they hold: nothing turns -/
def subL : List Nat → List Nat → Bool
  | [], _ => true
  | x :: xs, ys => memL x ys && subL xs ys
def noDefer : List Oper → Bool
  | [] => true
  | o :: r => match o.op with | .defer _ => false | _ => noDefer r
def dstsC : Code → List Nat
  | .region _ ops _ => dstsL ops.toList
  | .seq x y => dstsC x ++ dstsC y
  | .cond _ x y => dstsC x ++ dstsC y
  | .block _ x => dstsC x
  | .loop x => dstsC x
  | _ => []
def noDeferC : Code → Bool
  | .region _ ops _ => noDefer ops.toList
  | .seq x y => noDeferC x && noDeferC y
  | .cond _ x y => noDeferC x && noDeferC y
  | .block _ x => noDeferC x
  | .loop x => noDeferC x
  | .rangeFunc _ _ _ _ => false
  | .scope _ => false
  | _ => true
/-- all that is written lies in 'mods', nothing is deferred -/
def within (mods : List Nat) (c : Code) : Bool := subL (dstsC c) mods && noDeferC c
def fits (vs : Vars) (mods : List Nat) (x : Code) : Bool := within mods x && vs.all (fun p => memL p.1 mods) && subL mods (dstsC x)
/-- the annotation fits -/
def annOk {P : Program} (T : TT P) : Code → Ann → Bool
  | .region _ ops true, .draw order => drawOk T ops order
  | .region _ ops true, .drawE order => drawOk T ops order
  | .seq x y, .seq a b => annOk T x a && annOk T y b
  | .seq x y, .join vs mods a b => annOk T x a && annOk T y b && fits vs mods x
  | .cond _ x y, .cond a b => annOk T x a && annOk T y b
  | .block _ x, .block a => annOk T x a
  | .loop x, .loop vs mods a => annOk T x a && fits vs mods x
  | _, _ => true
end Go.W

namespace Go.W
set_option linter.unusedSimpArgs false
set_option linter.unusedVariables false

theorem guardW_mono {n : Nat} {all : List Oper} {g : Option (Nat × Bool)} {e : Env} {run skip run' skip' : Env → Prop} (hr : run e → run' e) (hs : skip e → skip' e)
    (h : guardW n all g e run skip) : guardW n all g e run' skip' := by
  revert h; unfold guardW; split
  · exact hr
  · split <;> try exact id
    rename_i d _
    cases Nat.blt d n <;> simp only [cond_true, cond_false]
    · exact id
    · split
      · rename_i t ht
        rename_i want _ _ _
        cases want <;> cases t <;> simp only [cond_true, cond_false] <;> rw [up_same ht] <;> assumption
      · exact hs

theorem regW_mono {P : Program} {T : TT P} {ok : Nat → Bool} {n : Nat} {all : List Oper} {Q Q' : Post} (hq : ∀ ex e ds w, Q ex e ds w → Q' ex e ds w) :
    ∀ {l : List Oper} {e : Env} {ds : List Deferred} {w : World}, regW T ok n all Q l e ds w → regW T ok n all Q' l e ds w
  | [], e, ds, w, h => hq _ _ _ _ h
  | o :: rest, e, ds, w, h => guardW_mono (opW_mono (fun _ _ => regW_mono hq) (fun _ _ => regW_mono hq) (fun _ _ => hq _ _ _ _)) (regW_mono hq) h
theorem poolA_mem {P : Program} {T : TT P} {all : List Oper} : ∀ (as : List Nat) {A : List (Nat × Obj)}, poolA T all as = some A → ∀ p ∈ A, ∃ o ∈ all, o.dst = some p.1
  | [], A, h, p, hp => by simp only [poolA] at h; cases h; cases hp
  | a :: as, A, h, p, hp => by
    simp only [poolA] at h
    split at h <;> try cases h
    rename_i o ho
    split at h <;> try cases h
    rename_i t d h1 h2 h3
    split at h <;> try cases h
    rename_i cs r h4 h5
    rcases List.mem_cons.1 hp with rfl | hp
    · exact ⟨o, List.mem_of_getElem? ho, h2⟩
    · exact poolA_mem as h5 p hp
theorem envP_pres {E : Env → Prop} : ∀ (A : List (Nat × Obj)) (xs : List (Option Nat)) {e : Env}, (∀ p ∈ A, ∀ e v, E e → E (up e p.1 v)) → E e → E (envP A xs e)
  | [], _, _, _, he => he
  | _ :: _, [], _, _, he => he
  | (d, o) :: r, x :: xs, e, h, he => h (d, o) (List.mem_cons_self ..) _ _ (envP_pres r xs (fun p hp => h p (List.mem_cons_of_mem _ hp)) he)
theorem allOpt_mono : ∀ {n : Nat} {K K' : List (Option Nat) → Prop}, (∀ xs, K xs → K' xs) → allOpt n K → allOpt n K'
  | 0, K, K', hk, h => hk _ h
  | n + 1, K, K', hk, h => fun x => allOpt_mono (fun xs => hk (x :: xs)) (h x)
theorem allNat_mono : ∀ {n : Nat} {K K' : List Nat → Prop}, (∀ xs, K xs → K' xs) → allNat n K → allNat n K'
  | 0, K, K', hk, h => hk _ h
  | n + 1, K, K', hk, h => fun x => allNat_mono (fun xs => hk (x :: xs)) (h x)
theorem poolW_mono {P : Program} {T : TT P} {ok : Nat → Bool} {n : Nat} {all : List Oper} {C : Addr → Value → Prop} {H : World → Prop} {A : List (Nat × Obj)} {K K' : Env → World → Prop} {E : Env → Prop}
    (hE : ∀ o ∈ all, ∀ e v, E e → E (put e o.dst v)) (hP : ∀ p ∈ A, ∀ e v, E e → E (up e p.1 v)) (hk : ∀ e w, E e → K e w → K' e w) :
    ∀ (t : OT) {xs : List (Option Nat)} {e : Env} {w : World}, E e → poolW T ok n all C H A K t xs e w → poolW T ok n all C H A K' t xs e w
  | .done, xs, e, w, he, ⟨Inv, h1, h2, h3, h4⟩ => ⟨Inv, h1, h2, h3, allNat_mono (fun bs k w' hI => hk _ _ (envP_pres A _ hP he) (k w' hI)) h4⟩
  | .step i b rest, xs, e, w, he, h => by
    revert h; unfold poolW; split
    · rename_i o ho
      have hm := List.mem_of_getElem? ho
      split
      · cases isStill T o.op <;> simp only [cond_true, cond_false]
        · rintro ⟨Inv, h1, h2, h3, h4⟩
          exact ⟨Inv, h1, h2, h3, allOpt_mono (fun ys k w' hI => opW_mono (fun v w'' k => poolW_mono hE hP hk rest (hE o hm _ _ he) k) (fun _ _ => id) (fun _ _ => id) (k w' hI)) h4⟩
        · exact stillW_mono fun v k => poolW_mono hE hP hk rest (hE o hm _ _ he) k
      · exact id
    · exact id
  | .both _ _, _, _, _, _, h => h
  | .pool _ _ _, _, _, _, _, h => h
theorem drawW_mono {P : Program} {T : TT P} {ok : Nat → Bool} {n : Nat} {all : List Oper} {C : Addr → Value → Prop} {H : World → Prop} {Q Q' : Post} (hq : ∀ ex e ds w, Q ex e ds w → Q' ex e ds w) :
    ∀ {l : OT} {e : Env} {ds : List Deferred} {w : World}, drawW T ok n all C H Q l e ds w → drawW T ok n all C H Q' l e ds w
  | .done, e, ds, w, h => hq _ _ _ _ h
  | .both x y, e, ds, w, h => ⟨drawW_mono hq h.1, drawW_mono hq h.2⟩
  | .pool as t r, e, ds, w, h => by
    revert h; unfold drawW; split
    · exact poolW_mono (E := fun _ => True) (fun _ _ _ _ _ => trivial) (fun _ _ _ _ _ => trivial) (fun _ _ _ k => drawW_mono hq k) t trivial
    · exact id
  | .step i b rest, e, ds, w, h => by
    revert h; unfold drawW; split
    · exact id
    · rename_i o _
      refine guardW_mono ?_ (drawW_mono hq)
      cases isStill T o.op <;> simp only [cond_true, cond_false]
      · refine opW_mono (fun v w' => ?_) (fun _ _ => id) (fun _ _ => id)
        cases b <;> simp only [cond_true, cond_false]
        · exact drawW_mono hq
        · exact fun h => ⟨h.1, drawW_mono hq h.2⟩
      · exact stillW_mono fun _ => drawW_mono hq

theorem wpc_mono {P : Program} {T : TT P} {ok : Nat → Bool} {n : Nat} : ∀ {c : Code} {ann : Ann} {Q Q' : Post} {e : Env} {ds : List Deferred} {w : World},
    (∀ ex e ds w, Q ex e ds w → Q' ex e ds w) → wpc T ok n c ann Q e ds w → wpc T ok n c ann Q' e ds w := by
  intro c
  induction c with
  | skip => intro ann Q Q' e ds w hq h; simp only [wpc] at h ⊢; exact hq _ _ _ _ h
  | label l => intro ann Q Q' e ds w hq h; simp only [wpc] at h ⊢; exact hq _ _ _ _ h
  | exit l => intro ann Q Q' e ds w hq h; simp only [wpc] at h ⊢; exact hq _ _ _ _ h
  | ret => intro ann Q Q' e ds w hq h; simp only [wpc] at h ⊢; exact hq _ _ _ _ h
  | goto l => intro ann Q Q' e ds w hq h; simp only [wpc] at h
  | refuse l => intro ann Q Q' e ds w hq h; simp only [wpc] at h
  | scope l => intro ann Q Q' e ds w hq h; simp only [wpc] at h
  | rangeFunc f ps a b => intro ann Q Q' e ds w hq h; simp only [wpc] at h
  | region id ops dr =>
    intro ann Q Q' e ds w hq h
    cases dr with
    | false => simp only [wpc] at h ⊢; exact regW_mono hq h
    | true =>
      cases ann <;> simp only [wpc] at h ⊢ <;> first
        | exact h.elim
        | exact drawW_mono hq h
        | exact let ⟨H, h1, h2⟩ := h; ⟨H, h1, drawW_mono hq h2⟩
  | seq x y ihx ihy =>
    intro ann Q Q' e ds w hq h
    cases ann <;> simp only [wpc] at h ⊢
    case seq a b =>
      refine ihx (fun ex e ds w => ?_) h
      cases ex <;> simp only <;> first | exact hq _ _ _ _ | exact ihy hq
    case join vs mods a b =>
      obtain ⟨J, h1, h2⟩ := h
      refine ⟨J, ihx (fun ex e ds w => ?_) h1, allV_mk fun s w' junk hj => ihy hq (allV_spec h2 s w' junk hj)⟩
      cases ex <;> simp only <;> first | exact hq _ _ _ _ | exact id
    all_goals exact h.elim
  | cond c x y ihx ihy =>
    intro ann Q Q' e ds w hq h
    cases ann <;> simp only [wpc] at h ⊢
    case cond a b =>
      revert h; unfold condW; split <;> try exact id
      rename_i t _
      cases t <;> simp only [cond_true, cond_false]
      · exact ihy hq
      · exact ihx hq
    all_goals exact h.elim
  | block id x ih =>
    intro ann Q Q' e ds w hq h
    cases ann <;> simp only [wpc] at h ⊢
    case block a =>
      refine ih (fun ex e ds w => ?_) h
      cases ex <;> simp only [inBlockQ] <;> try exact hq _ _ _ _
      rename_i i
      cases Nat.beq i id <;> simp only [cond_true, cond_false] <;> exact hq _ _ _ _
    all_goals exact h.elim
  | loop x ih =>
    intro ann Q Q' e ds w hq h
    cases ann <;> simp only [wpc] at h ⊢
    case loop vs mods a =>
      obtain ⟨I, μ, h1, h2⟩ := h
      refine ⟨I, μ, h1, allV_mk fun s w' junk hi => ih (fun ex e ds w => ?_) (allV_spec h2 s w' junk hi)⟩
      cases ex <;> simp only <;> first | exact hq _ _ _ _ | exact id
    all_goals exact h.elim

/-! frames -/
def Fr (mods : List Nat) (e0 : Env) (ds0 : List Deferred) (Q : Post) : Post := fun ex e ds w => Q ex e ds w ∧ (∀ k, memL k mods = false → e k = e0 k) ∧ ds = ds0
theorem memL_put {mods : List Nat} {e e0 : Env} {dst : Option Tmp} {v : Value} (hd : ∀ d, dst = some d → memL d mods = true) (h : ∀ k, memL k mods = false → e k = e0 k) :
    ∀ k, memL k mods = false → put e dst v k = e0 k := by
  intro k hk
  cases dst with
  | none => exact h k hk
  | some d =>
    simp only [put, up]
    cases hb : Nat.beq k d
    · exact h k hk
    · obtain rfl := Nat.eq_of_beq_eq_true hb
      rw [hd k rfl] at hk; cases hk
theorem opW_noDefer {P : Program} {T : TT P} {ok : Nat → Bool} {ρ : Operand → Value} {op : Op} {ty : TypeId} {w : World} {K : Value → World → Prop} {Kd Kd' : Deferred → World → Prop} {X : List PanicEntry → World → Prop}
    (hn : ∀ c, op ≠ .defer c) (h : opW T ok ρ op ty w K Kd X) : opW T ok ρ op ty w K Kd' X := by
  cases op <;> first | exact h | (rename_i r; cases r <;> exact h) | exact absurd rfl (hn _)
theorem dstsL_mem {o : Oper} {rest : List Oper} {mods : List Nat} (h : subL (dstsL (o :: rest)) mods = true) : (∀ d, o.dst = some d → memL d mods = true) ∧ subL (dstsL rest) mods = true := by
  cases hd : o.dst with
  | none => simp only [dstsL, hd] at h; exact ⟨fun _ h => (by cases h), h⟩
  | some d =>
    simp only [dstsL, hd, subL, Bool.and_eq_true] at h
    exact ⟨fun d' h' => by obtain rfl := Option.some.inj h'; exact h.1, h.2⟩
theorem noDefer_cons {o : Oper} {rest : List Oper} (h : noDefer (o :: rest) = true) : (∀ c, o.op ≠ .defer c) ∧ noDefer rest = true := by
  unfold noDefer at h
  split at h
  · cases h
  · rename_i hne; exact ⟨fun c => hne c, h⟩
theorem regW_frame {P : Program} {T : TT P} {ok : Nat → Bool} {n : Nat} {all : List Oper} {Q : Post} {mods : List Nat} {e0 : Env} {ds0 : List Deferred} :
    ∀ {l : List Oper} {e : Env} {w : World}, subL (dstsL l) mods = true → noDefer l = true → (∀ k, memL k mods = false → e k = e0 k) → regW T ok n all Q l e ds0 w → regW T ok n all (Fr mods e0 ds0 Q) l e ds0 w
  | [], e, w, _, _, he, h => ⟨h, he, rfl⟩
  | o :: rest, e, w, hs, hn, he, h => by
    obtain ⟨hd, hs'⟩ := dstsL_mem hs
    obtain ⟨hn1, hn2⟩ := noDefer_cons hn
    refine guardW_mono (fun h => ?_) (fun h => regW_frame hs' hn2 (memL_put hd he) h) h
    refine opW_mono (fun v w' k => regW_frame hs' hn2 (memL_put hd he) k) (fun _ _ k => k.elim) (fun ch w' k => ⟨k, he, rfl⟩) (opW_noDefer (Kd' := fun _ _ => False) hn1 h)
theorem mem_dsts {l : List Oper} {mods : List Nat} (h : subL (dstsL l) mods = true) {o : Oper} (ho : o ∈ l) : ∀ d, o.dst = some d → memL d mods = true := by
  induction l with
  | nil => cases ho
  | cons x l ih =>
    obtain ⟨h1, h2⟩ := dstsL_mem h
    rcases List.mem_cons.1 ho with rfl | ho
    · exact h1
    · exact ih h2 ho
theorem drawW_frame {P : Program} {T : TT P} {ok : Nat → Bool} {n : Nat} {all : List Oper} {C : Addr → Value → Prop} {H : World → Prop} {Q : Post} {mods : List Nat} {e0 : Env} {ds0 : List Deferred} (hs : subL (dstsL all) mods = true) :
    ∀ {l : OT} {e : Env} {w : World}, (∀ k, memL k mods = false → e k = e0 k) → drawW T ok n all C H Q l e ds0 w → drawW T ok n all C H (Fr mods e0 ds0 Q) l e ds0 w
  | .done, e, w, he, h => ⟨h, he, rfl⟩
  | .both x y, e, w, he, h => ⟨drawW_frame hs he h.1, drawW_frame hs he h.2⟩
  | .pool as t r, e, w, he, h => by
    revert h; unfold drawW; split
    · rename_i A hA
      refine poolW_mono (E := fun e => ∀ k, memL k mods = false → e k = e0 k) (fun o ho e v he => memL_put (mem_dsts hs ho) he) (fun p hp e v he => ?_) (fun e w he k => drawW_frame hs he k) t he
      obtain ⟨o, ho, hd⟩ := poolA_mem as hA p hp
      have := memL_put (v := v) (mem_dsts hs ho) he
      rw [hd] at this
      exact this
    · exact id
  | .step i b rest, e, w, he, h => by
    revert h; unfold drawW; split
    · exact id
    · rename_i o ho
      have hd := mem_dsts hs (List.mem_of_getElem? ho)
      refine guardW_mono ?_ (drawW_frame hs (memL_put hd he))
      cases isStill T o.op <;> simp only [cond_true, cond_false]
      · refine opW_mono (fun v w' => ?_) (fun _ _ => id) (fun _ _ => id)
        cases b <;> simp only [cond_true, cond_false]
        · exact drawW_frame hs (memL_put hd he)
        · exact fun h => ⟨h.1, drawW_frame hs (memL_put hd he) h.2⟩
      · exact stillW_mono fun _ => drawW_frame hs (memL_put hd he)

theorem setV_frame : ∀ {vs : Vars} {s : Tup vs} {e : Env} {k : Nat}, (∀ p ∈ vs, p.1 ≠ k) → setV vs s e k = e k
  | [], _, _, _, _ => rfl
  | [(k', t)], s, e, k, h => by
    have : Nat.beq k k' = false := by
      cases hb : Nat.beq k k' with
      | false => rfl
      | true => exact absurd (Nat.eq_of_beq_eq_true hb).symm (h (k', t) (by simp))
    simp [setV, up, this]
  | (k', t) :: v :: r, s, e, k, h => by
    have : Nat.beq k k' = false := by
      cases hb : Nat.beq k k' with
      | false => rfl
      | true => exact absurd (Nat.eq_of_beq_eq_true hb).symm (h (k', t) (by simp))
    simp only [setV, up, this, cond_false]
    exact setV_frame (fun p hp => h p (List.mem_cons_of_mem _ hp))
end Go.W

namespace Go.W
set_option linter.unusedSimpArgs false
set_option linter.unusedVariables false

theorem mix_same {mods : List Nat} {e e0 : Env} (h : ∀ k, memL k mods = false → e k = e0 k) : mixV mods e e0 = e := by
  funext k
  simp only [mixV]
  cases hb : memL k mods
  · exact (h k hb).symm
  · rfl
theorem setV_off {vs : Vars} {mods : List Nat} {s : Tup vs} {e : Env} (hv : vs.all (fun p => memL p.1 mods) = true) : ∀ k, memL k mods = false → setV vs s e k = e k := by
  intro k hk
  refine setV_frame fun p hp he => ?_
  have := List.all_eq_true.1 hv p hp
  rw [he, hk] at this; cases this
theorem mix_off {mods : List Nat} {junk e : Env} : ∀ k, memL k mods = false → mixV mods junk e k = e k := by
  intro k hk; simp [mixV, hk]

theorem subL_mem {xs ys : List Nat} (h : subL xs ys = true) {k : Nat} (hk : memL k xs = true) : memL k ys = true := by
  induction xs with
  | nil => cases hk
  | cons x xs ih =>
    simp only [subL, Bool.and_eq_true] at h
    simp only [memL] at hk
    cases hb : Nat.beq k x
    · rw [hb] at hk; exact ih h.2 hk
    · rw [Nat.eq_of_beq_eq_true hb]; exact h.1
theorem subL_off {xs ys : List Nat} (h : subL xs ys = true) {k : Nat} (hk : memL k ys = false) : memL k xs = false := by
  cases hb : memL k xs with
  | false => rfl
  | true => rw [subL_mem h hb] at hk; cases hk
theorem subL_trans {xs ys zs : List Nat} (h1 : subL xs ys = true) (h2 : subL ys zs = true) : subL xs zs = true := by
  induction xs with
  | nil => rfl
  | cons x xs ih =>
    simp only [subL, Bool.and_eq_true] at h1 ⊢
    exact ⟨subL_mem h2 h1.1, ih h1.2⟩
theorem subL_append {xs ys zs : List Nat} : subL (xs ++ ys) zs = (subL xs zs && subL ys zs) := by
  induction xs with
  | nil => simp [subL]
  | cons x xs ih => simp only [List.cons_append, subL, ih, Bool.and_assoc]
theorem within_seq {mods : List Nat} {x y : Code} (h : within mods (.seq x y) = true) : within mods x = true ∧ within mods y = true := by
  simp only [within, dstsC, noDeferC, subL_append, Bool.and_eq_true] at h ⊢
  exact ⟨⟨h.1.1, h.2.1⟩, ⟨h.1.2, h.2.2⟩⟩
theorem within_cond {mods : List Nat} {c : Operand} {x y : Code} (h : within mods (.cond c x y) = true) : within mods x = true ∧ within mods y = true := by
  simp only [within, dstsC, noDeferC, subL_append, Bool.and_eq_true] at h ⊢
  exact ⟨⟨h.1.1, h.2.1⟩, ⟨h.1.2, h.2.2⟩⟩
theorem fits_spec {vs : Vars} {m : List Nat} {x : Code} (h : fits vs m x = true) : within m x = true ∧ vs.all (fun p => memL p.1 m) = true ∧ subL m (dstsC x) = true := by
  simp only [fits, Bool.and_eq_true] at h
  exact ⟨h.1.1, h.1.2, h.2⟩
/-- the head of a loop, of what stands behind a join, turns nothing beyond -/
theorem head_off {vs : Vars} {m mods : List Nat} {x : Code} {s : Tup vs} {junk e e0 : Env} (hf : fits vs m x = true) (hx : subL (dstsC x) mods = true) (he : ∀ k, memL k mods = false → e k = e0 k) :
    ∀ k, memL k mods = false → setV vs s (mixV m junk e) k = e0 k := by
  obtain ⟨_, hv, hm⟩ := fits_spec hf
  intro k hk
  have hkm : memL k m = false := subL_off (subL_trans hm hx) hk
  rw [setV_off hv k hkm, mix_off k hkm]; exact he k hk

/-- what lies within 'mods' turns nothing else -/
theorem wpc_frame {P : Program} {T : TT P} {ok : Nat → Bool} {n : Nat} {mods : List Nat} {ds0 : List Deferred} : ∀ {c : Code} {ann : Ann} {Q : Post} {e0 e : Env} {w : World},
    within mods c = true → annOk T c ann = true → (∀ k, memL k mods = false → e k = e0 k) → wpc T ok n c ann Q e ds0 w → wpc T ok n c ann (Fr mods e0 ds0 Q) e ds0 w := by
  intro c
  induction c with
  | skip => intro ann Q e0 e w hw ha he h; simp only [wpc] at h ⊢; exact ⟨h, he, rfl⟩
  | label l => intro ann Q e0 e w hw ha he h; simp only [wpc] at h ⊢; exact ⟨h, he, rfl⟩
  | exit l => intro ann Q e0 e w hw ha he h; simp only [wpc] at h ⊢; exact ⟨h, he, rfl⟩
  | ret => intro ann Q e0 e w hw ha he h; simp only [wpc] at h ⊢; exact ⟨h, he, rfl⟩
  | goto l => intro ann Q e0 e w hw ha he h; simp only [wpc] at h
  | refuse l => intro ann Q e0 e w hw ha he h; simp only [wpc] at h
  | scope l => intro ann Q e0 e w hw ha he h; simp only [wpc] at h
  | rangeFunc f ps a b => intro ann Q e0 e w hw ha he h; simp only [wpc] at h
  | region id ops dr =>
    intro ann Q e0 e w hw ha he h
    simp only [within, dstsC, noDeferC, Bool.and_eq_true] at hw
    cases dr with
    | false => simp only [wpc] at h ⊢; exact regW_frame hw.1 hw.2 he h
    | true =>
      cases ann <;> simp only [wpc] at h ⊢ <;> first
        | exact h.elim
        | exact drawW_frame hw.1 he h
        | exact let ⟨H, h1, h2⟩ := h; ⟨H, h1, drawW_frame hw.1 he h2⟩
  | seq x y ihx ihy =>
    intro ann Q e0 e w hw ha he h
    have hw := within_seq hw
    cases ann <;> simp only [wpc] at h ⊢
    case seq a b =>
      simp only [annOk, Bool.and_eq_true] at ha
      refine wpc_mono (fun ex e ds w => ?_) (ihx hw.1 ha.1 he h)
      cases ex <;> simp only [Fr] <;> first | exact id | (rintro ⟨h2, he', rfl⟩; exact ihy hw.2 ha.2 he' h2)
    case join vs m a b =>
      simp only [annOk, Bool.and_eq_true] at ha
      obtain ⟨⟨ha1, ha2⟩, hf⟩ := ha
      obtain ⟨J, h1, h2⟩ := h
      refine ⟨J, wpc_mono (fun ex e' ds w => ?_) (ihx hw.1 ha1 he h1), allV_mk fun s w' junk hj => ?_⟩
      · cases ex <;> simp only [Fr] <;> first | exact id | exact fun h => h.1
      · refine ihy hw.2 ha2 (head_off hf ?_ he) (allV_spec h2 s w' junk hj)
        have := hw.1; simp only [within, Bool.and_eq_true] at this; exact this.1
    all_goals exact h.elim
  | cond c x y ihx ihy =>
    intro ann Q e0 e w hw ha he h
    have hw := within_cond hw
    cases ann <;> simp only [wpc] at h ⊢
    case cond a b =>
      simp only [annOk, Bool.and_eq_true] at ha
      revert h; unfold condW; split <;> try exact id
      rename_i t _
      cases t <;> simp only [cond_true, cond_false]
      · exact ihy hw.2 ha.2 he
      · exact ihx hw.1 ha.1 he
    all_goals exact h.elim
  | block id x ih =>
    intro ann Q e0 e w hw ha he h
    cases ann <;> simp only [wpc] at h ⊢
    case block a =>
      refine wpc_mono (fun ex e ds w => ?_) (ih hw ha he h)
      cases ex <;> simp only [Fr, inBlockQ] <;> try exact _root_.id
      rename_i i
      cases Nat.beq i id <;> simp only [cond_true, cond_false] <;> exact _root_.id
    all_goals exact h.elim
  | loop x ih =>
    intro ann Q e0 e w hw ha he h
    cases ann <;> simp only [wpc] at h ⊢
    case loop vs m a =>
      simp only [annOk, Bool.and_eq_true] at ha
      obtain ⟨I, μ, h1, h2⟩ := h
      have hx : within mods x = true := hw
      refine ⟨I, μ, h1, allV_mk fun s w' junk hi => wpc_mono (fun ex e' ds w => ?_) (ih hx ha.1 (e0 := e0) (head_off ha.2 ?_ he) (allV_spec h2 s w' junk hi))⟩
      · cases ex <;> simp only [Fr] <;> first | exact id | exact fun h => h.1
      · simp only [within, Bool.and_eq_true] at hx; exact hx.1
    all_goals exact h.elim

/-! the walk is sound -/
theorem liftQ_then {n : Nat} {Q : Post} {K : Env → List Deferred → World → Prop} (next : Act → World → Prop) (hk : ∀ e ds w, K e ds w → next (act n e ds) w) :
    ∀ ex a w, liftQ n (fun ex e ds w => match ex with | .normal => K e ds w | ex => Q ex e ds w) ex a w → Exit.then next (liftQ n Q) ex a w := by
  rintro ex a w ⟨e, ds, rfl, h⟩
  cases ex <;> first | exact hk e ds w h | exact ⟨e, ds, rfl, h⟩

theorem region_list {P : Program} {id : Nat} {ops : Array Oper} {Q : Exit → Act → World → Prop} {a : Act} {w : World} (h : wpList P ops Q ops.toList a w) : (Code.region id ops false).wp P Q a w := wp_region_list h

theorem noPanic_draw {P : Program} {T : TT P} {ok : Nat → Bool} {n : Nat} {all : List Oper} {C : Addr → Value → Prop} {H : World → Prop} {Q : Post} :
    ∀ {l : OT} {e : Env} {ds : List Deferred} {w : World}, drawW T ok n all C H Q l e ds w → drawW T ok n all C H (noPanic Q) l e ds w
  | .done, e, ds, w, h => h
  | .both x y, e, ds, w, h => ⟨noPanic_draw h.1, noPanic_draw h.2⟩
  | .pool as t r, e, ds, w, h => by
    revert h; unfold drawW; split
    · exact poolW_mono (E := fun _ => True) (fun _ _ _ _ _ => trivial) (fun _ _ _ _ _ => trivial) (fun _ _ _ k => noPanic_draw k) t trivial
    · exact id
  | .step i b rest, e, ds, w, h => by
    revert h; unfold drawW; split
    · exact id
    · rename_i o _
      refine guardW_mono ?_ noPanic_draw
      cases isStill T o.op <;> simp only [cond_true, cond_false]
      · refine opW_mono (fun v w' => ?_) (fun _ _ => id) (fun _ _ => id)
        cases b <;> simp only [cond_true, cond_false]
        · exact noPanic_draw
        · exact fun h => ⟨h.1, noPanic_draw h.2⟩
      · exact stillW_mono fun _ => noPanic_draw

theorem draw_sound {P : Program} {T : TT P} (hm : P.follows .mixedOrders = true) {ok : Nat → Bool} (hok : ∀ f, ok f = true → enters P f) {n id : Nat} {ops : Array Oper} {C : Addr → Value → Prop} {H : World → Prop} {Q : Post} {order : OT}
    (hd : drawOk T ops order = true) (hC : ∀ a v, C a v → ∀ w, H w → w.cell? a = some v) {e : Env} {ds : List Deferred} {w : World} (hH : H w.drew) (h : drawW T ok n ops.toList C H Q order e ds w.drew) :
    (Code.region id ops true).wp P (liftQ n Q) (act n e ds) w := by
  simp only [drawOk, Bool.and_eq_true] at hd
  obtain ⟨⟨⟨hsel, hfl⟩, hord⟩, hlen⟩ := hd
  have hlen := Nat.eq_of_beq_eq_true hlen
  have hneed : ∀ i j, loadAt ops i = true → stillAt T ops j = false → flagAt order j = false → j < ops.size → anc .any ops ops.size j i = true := by
    intro i j hi hj hf hlt
    simp only [flagsOk, List.all_eq_true, List.mem_range, Bool.or_eq_true, Bool.not_eq_true'] at hfl
    rcases hfl j hlt with (h1 | h1) | h1
    · rw [hj] at h1; cases h1
    · rw [hf] at h1; cases h1
    · have hilt : i < ops.size := by
        unfold loadAt at hi
        split at hi
        · rename_i o ho; exact (Array.getElem?_eq_some_iff.1 ho).1
        · cases hi
      rcases h1 i hilt with h2 | h2
      · rw [hi] at h2; cases h2
      · exact h2
  have hclosed : Closed .any ops (Array.replicate ops.size false) := by
    intro j o ho hl
    rw [getD_replicate_false] at hl; cases hl
  have G := drawW_sound hok hC hsel hneed (Q := noPanic Q) (fun _ _ _ _ h => h) order false true _ e ds _ hord hclosed (fun _ => hH) (noPanic_draw h) |>.1 rfl
  rw [hlen] at G
  refine wp_mono (wp_region_any hm G.wpAny) (fun ex a w => ?_)
  rintro ⟨e, ds, rfl, h⟩
  refine ⟨e, ds, rfl, ?_⟩
  cases ex <;> first | exact h | exact h.elim
  where
  getD_replicate_false (m j : Nat) : (Array.replicate m false).getD j false = false := by
    by_cases h : j < m <;> simp [h]

theorem subL_of_within {m : List Nat} {x : Code} (h : within m x = true) : subL (dstsC x) m = true := by
  simp only [within, Bool.and_eq_true] at h; exact h.1
/-- a loop whose relation speaks of something beside the frame -/
theorem loop_sound {P : Program} {n : Nat} {ds : List Deferred} {σ : Type} {c : Code} {Q : Exit → Act → World → Prop} (I : σ → Env → World → Prop) (μ : σ → World → Nat) {s0 : σ} {e : Env} {w : World} (h0 : I s0 e w)
    (round : ∀ s e w, I s e w → c.wp P (Exit.then (fun a' w' => ∃ s' e', a' = act n e' ds ∧ I s' e' w' ∧ μ s' w' < μ s w) Q) (act n e ds) w) : (Code.loop c).wp P Q (act n e ds) w := by
  have key : ∀ (k : Nat) (s : σ) (e : Env) (w : World), μ s w = k → I s e w → ∀ (b : Frame) (kk : List Item) (cs : List Frame),
      ∃ ex a' w', Q ex a' w' ∧ Arrives P (lone (b.at (act n e ds) (.code c :: .inLoop c :: kk)) cs w) b kk cs ex a' w' := by
    intro k
    induction k using Nat.strongRecOn with
    | _ k ih =>
      intro s e w hk hI b kk cs
      obtain ⟨ex, a₁, w₁, hq, harr⟩ := round s e w hI b (.inLoop c :: kk) cs
      cases ex with
      | normal =>
        obtain ⟨s', e', rfl, hI', hlt⟩ := hq
        obtain ⟨e₂, a₂, w₂, hq₂, harr₂⟩ := ih (μ s' w₁) (hk ▸ hlt) s' e' w₁ rfl hI' b kk cs
        exact ⟨e₂, a₂, w₂, hq₂, .of_steps (Steps.trans harr (.one step_inLoop)) harr₂⟩
      | exit id => exact ⟨_, a₁, w₁, hq, .pass (x := .inLoop c) rfl (fun _ _ => .inl (by simp)) harr⟩
      | goto l => exact ⟨_, a₁, w₁, hq, .pass (x := .inLoop c) rfl (fun _ _ => .inl (by simp)) harr⟩
      | ret => exact ⟨_, a₁, w₁, hq, .pass (x := .inLoop c) rfl (fun _ _ => .inl (by simp)) harr⟩
      | panic ch => exact ⟨_, a₁, w₁, hq, .pass (x := .inLoop c) rfl (fun _ _ => .inl (by simp)) harr⟩
      | outgrown => exact ⟨_, a₁, w₁, hq, .pass (x := .inLoop c) rfl (fun _ _ => .inl (by simp)) harr⟩
  intro b kk cs
  obtain ⟨ex, a', w', hq, harr⟩ := key _ s0 e w rfl h0 b kk cs
  exact ⟨ex, a', w', hq, .of_steps (.one step_loop) harr⟩

theorem wpc_sound {P : Program} {T : TT P} (hm : P.follows .mixedOrders = true) {ok : Nat → Bool} (hok : ∀ f, ok f = true → enters P f) {n : Nat} : ∀ (c : Code) {ann : Ann} {Q : Post} {e : Env} {ds : List Deferred} {w : World},
    annOk T c ann = true → wpc T ok n c ann Q e ds w → c.wp P (liftQ n Q) (act n e ds) w := by
  intro c
  induction c with
  | skip => intro ann Q e ds w ha h; simp only [wpc] at h; exact wp_skip ⟨e, ds, rfl, h⟩
  | label l => intro ann Q e ds w ha h; simp only [wpc] at h; exact wp_label ⟨e, ds, rfl, h⟩
  | exit l => intro ann Q e ds w ha h; simp only [wpc] at h; exact wp_exit ⟨e, ds, rfl, h⟩
  | ret => intro ann Q e ds w ha h; simp only [wpc] at h; exact wp_ret ⟨e, ds, rfl, h⟩
  | goto l => intro ann Q e ds w ha h; simp only [wpc] at h
  | refuse l => intro ann Q e ds w ha h; simp only [wpc] at h
  | scope l => intro ann Q e ds w ha h; simp only [wpc] at h
  | rangeFunc f ps a b => intro ann Q e ds w ha h; simp only [wpc] at h
  | region id ops dr =>
    intro ann Q e ds w ha h
    cases dr with
    | false => simp only [wpc] at h; exact region_list (regW_sound hok _ _ _ _ h)
    | true =>
      cases ann <;> simp only [wpc] at h
      case draw order =>
        refine draw_sound (C := fun a v => w.cell? a = some v) (H := fun w' => w' = w.drew) hm hok ha (fun a v hc w' hw => ?_) rfl h
        rw [hw]; exact hc
      case drawE order => exact let ⟨H, h1, h2⟩ := h; draw_sound hm hok ha (fun a v hc w' hw => hc w' hw) h1 h2
      all_goals exact h.elim
  | seq x y ihx ihy =>
    intro ann Q e ds w ha h
    cases ann <;> simp only [wpc] at h
    case seq a b =>
      simp only [annOk, Bool.and_eq_true] at ha
      exact wp_seq (wp_mono (ihx ha.1 h) (liftQ_then _ fun e ds w h => ihy ha.2 h))
    case join vs m a b =>
      simp only [annOk, Bool.and_eq_true] at ha
      obtain ⟨⟨ha1, ha2⟩, hf⟩ := ha
      obtain ⟨J, h1, h2⟩ := h
      have hfr := wpc_frame (e0 := e) (fits_spec hf).1 ha1 (fun _ _ => rfl) h1
      refine wp_seq (wp_mono (ihx ha1 hfr) ?_)
      rintro ex a' w' ⟨e', ds', rfl, hq, hoff, rfl⟩
      cases ex with
      | normal =>
        obtain ⟨s, hs, hj⟩ := takeV_some hq
        have := ihy ha2 (allV_spec h2 s w' e' hj)
        rw [mix_same hoff, hs] at this
        exact this
      | exit i => exact ⟨_, _, rfl, hq⟩
      | goto l => exact ⟨_, _, rfl, hq⟩
      | ret => exact ⟨_, _, rfl, hq⟩
      | panic ch => exact ⟨_, _, rfl, hq⟩
      | outgrown => exact ⟨_, _, rfl, hq⟩
    all_goals exact h.elim
  | cond c x y ihx ihy =>
    intro ann Q e ds w ha h
    cases ann <;> simp only [wpc] at h
    case cond a b =>
      simp only [annOk, Bool.and_eq_true] at ha
      unfold condW at h
      split at h <;> try exact h.elim
      rename_i t ht
      have hc : (act n e ds).eval c = .bool t := by rw [act_eval]; exact ht
      cases t <;> simp only [cond_true, cond_false] at h
      · exact wp_cond hc (ihy ha.2 h)
      · exact wp_cond hc (ihx ha.1 h)
    all_goals exact h.elim
  | block id x ih =>
    intro ann Q e ds w ha h
    cases ann <;> simp only [wpc] at h
    case block a =>
      refine wp_block (wp_mono (ih ha h) ?_)
      rintro ex a' w' ⟨e', ds', rfl, hq⟩
      cases ex <;> simp only [inBlockQ, Exit.inBlock] at hq ⊢ <;> try exact ⟨_, _, rfl, hq⟩
      rename_i i
      cases hb : Nat.beq i id <;> simp only [hb, cond_true, cond_false] at hq
      · have : i ≠ id := fun e => by rw [e] at hb; simp at hb
        rw [if_neg this]; exact ⟨_, _, rfl, hq⟩
      · rw [if_pos (Nat.eq_of_beq_eq_true hb)]; exact ⟨_, _, rfl, hq⟩
    all_goals exact h.elim
  | loop x ih =>
    intro ann Q e ds w ha h
    cases ann <;> simp only [wpc] at h
    case loop vs m a =>
      simp only [annOk, Bool.and_eq_true] at ha
      obtain ⟨I, μ, h1, h2⟩ := h
      obtain ⟨hwi, hv, hsub⟩ := fits_spec ha.2
      obtain ⟨s0, hs0, hi0⟩ := takeV_some h1
      refine loop_sound (n := n) (ds := ds) (fun s e' w' => setV vs s (mixV m e' e) = e' ∧ I s w') μ ⟨by rw [mix_same (fun _ _ => rfl)]; exact hs0, hi0⟩ ?_
      rintro s e' w' ⟨hs, hi⟩
      have hb := allV_spec h2 s w' e' hi
      have hfr := wpc_frame (e0 := e) hwi ha.1 (head_off ha.2 (subL_of_within hwi) (fun _ _ => rfl)) hb
      rw [hs] at hfr
      refine wp_mono (ih ha.1 hfr) ?_
      rintro ex a'' w'' ⟨e'', ds'', rfl, hq, hoff, rfl⟩
      cases ex with
      | normal =>
        obtain ⟨s', hs', hi', hlt⟩ := takeV_some hq
        exact ⟨s', e'', rfl, ⟨by rw [mix_same hoff]; exact hs', hi'⟩, hlt⟩
      | exit i => exact ⟨_, _, rfl, hq⟩
      | goto l => exact ⟨_, _, rfl, hq⟩
      | ret => exact ⟨_, _, rfl, hq⟩
      | panic ch => exact ⟨_, _, rfl, hq⟩
      | outgrown => exact ⟨_, _, rfl, hq⟩
    all_goals exact h.elim
end Go.W

namespace Go.W
set_option linter.unusedSimpArgs false
set_option linter.unusedVariables false

/-- what a call hands back, read out of slots or of variables that were captured -/
inductive RV where
  | val (v : Value)
  | cell (a : Value) (t : TypeId)
def slotV (n : Nat) (e : Env) (t : Nat) : Value := bif Nat.blt t n then e t else undef
def rvs (n : Nat) (e : Env) : List ResultVar → List RV
  | [] => []
  | .tmp t :: r => .val (slotV n e t) :: rvs n e r
  | .cell t ty :: r => .cell (slotV n e t) ty :: rvs n e r
def resW {P : Program} (T : TT P) (w : World) : List RV → (List Value → Prop) → Prop
  | [], K => K []
  | .val v :: r, K => resW T w r fun vs => K (v :: vs)
  | .cell a ty :: r, K => loadW T ty a w fun v => resW T w r fun vs => K (v :: vs)
def tupleL : List Value → Value
  | [v] => v
  | vs => .tuple vs.toArray
/-- the deferred calls, the last laid first; then the results are read -/
def LeavesW {P : Program} (T : TT P) (ok : Nat → Bool) (rs : List RV) (R : Ending → World → Prop) : List Deferred → FrameMode → World → Prop
  | [], .returning, w => resW T w rs fun vs => R (.returned (tupleL vs)) w
  | [], .panicking ch, w => R (.panicked ch) w
  | [], .run, _ => False
  | _ :: _, .run, _ => False
  | d :: ds, u, w => match d.target with
    | .fn (.func f) cap => bif ok f then CallsD P f (d.args ++ cap) u w fun en u' w' => match en with
        | .returned _ => LeavesW T ok rs R ds (settle u') w'
        | .panicked ch => LeavesW T ok rs R ds (raised u' ch) w'
        | .outgrown => False
      else False
    | _ => False
def postW {P : Program} (T : TT P) (ok : Nat → Bool) (n : Nat) (rs : List ResultVar) (R : Ending → World → Prop) : Post := fun ex e ds w => match ex with
  | .normal => LeavesW T ok (rvs n e rs) R ds .returning w
  | .ret => LeavesW T ok (rvs n e rs) R ds .returning w
  | .panic ch => LeavesW T ok (rvs n e rs) R ds (.panicking ch) w
  | _ => False

theorem mapM_run {P : Program} {α : Type} (f : ResultVar → Sem α) : ∀ (rs : List ResultVar) (w : World) (vs : List α), (∀ i (h : i < rs.length) (h' : i < vs.length), (f rs[i]).run P w = .ok vs[i] w) → vs.length = rs.length →
    (rs.mapM f).run P w = .ok vs w
  | [], w, vs, h, hl => by obtain rfl := List.length_eq_zero_iff.1 hl; rfl
  | r :: rs, w, v :: vs, h, hl => by
    have h0 := h 0 (by simp) (by simp)
    have ih := mapM_run f rs w vs (fun i h1 h2 => by have := h (i + 1) (by simpa using h1) (by simpa using h2); simp only [List.getElem_cons_succ] at this; exact this) (by simpa using hl)
    simp only [List.getElem_cons_zero] at h0
    simp only [List.mapM_cons, Sem.run_bind, h0, Result.andThen_ok, ih, Sem.run_pure]
  | r :: rs, w, [], h, hl => by simp at hl
theorem slot_eq {n : Nat} {e : Env} {ds : List Deferred} (t : Nat) : (act n e ds).tmps.getD t undef = slotV n e t := by
  have := congrFun (act_eval n e ds) (.tmp t)
  exact this
def readOne (tmps : Array Value) : ResultVar → Sem Value
  | .tmp t => pure (tmps.getD t undef)
  | .cell a t => do loadVar t (← asAddr (tmps.getD a undef))
theorem resW_run {P : Program} {T : TT P} {n : Nat} {e : Env} {ds : List Deferred} {w : World} : ∀ (rs : List ResultVar) (K : List Value → Prop), resW T w (rvs n e rs) K →
    ∃ vs, K vs ∧ (rs.mapM (readOne (act n e ds).tmps)).run P w = .ok vs w
  | [], K, h => ⟨[], h, rfl⟩
  | .tmp t :: r, K, h => by
    obtain ⟨vs, k, hr⟩ := resW_run (ds := ds) r _ h
    refine ⟨_, k, ?_⟩
    simp only [List.mapM_cons, readOne, pure_bind, Sem.run_bind, hr, Result.andThen_ok, Sem.run_pure, slot_eq]
  | .cell a ty :: r, K, h => by
    obtain ⟨v, k, hl⟩ := loadW_sound h
    obtain ⟨vs, k, hr⟩ := resW_run (ds := ds) r _ k
    refine ⟨_, k, ?_⟩
    have hv : (readOne (act n e ds).tmps (.cell a ty)).run P w = .ok v w := by
      show (do loadVar ty (← asAddr ((act n e ds).tmps.getD a undef)) : Sem Value).run P w = .ok v w
      rw [slot_eq]
      revert hl
      generalize slotV n e a = x
      intro hl
      cases x with
      | pointer p =>
        cases p with
        | some p => exact hl
        | none => exact absurd hl (by simp [Instr.loadAt, Instr.sureAddr])
      | _ => exact absurd hl (by simp [Instr.loadAt, Instr.sureAddr])
    simp only [List.mapM_cons, Sem.run_bind, hv, Result.andThen_ok, hr, Sem.run_pure]
theorem results_run {P : Program} {T : TT P} {fn : Func} {n : Nat} {e : Env} {ds : List Deferred} {w : World} {K : List Value → Prop} (h : resW T w (rvs n e fn.results.toList) K) :
    ∃ vs, K vs ∧ (results fn (act n e ds).tmps).run P w = .ok (tupleL vs) w := by
  obtain ⟨vs, k, hr⟩ := resW_run (ds := ds) _ _ h
  refine ⟨vs, k, ?_⟩
  have hm : (fn.results.mapM (readOne (act n e ds).tmps)).run P w = .ok vs.toArray w := by
    rw [Array.mapM_eq_mapM_toList]
    simp only [Sem.run_map, hr, Result.andThen_ok]
  have e1 : results fn (act n e ds).tmps = (do let vs ← fn.results.mapM (readOne (act n e ds).tmps); pure (if h : vs.size = 1 then vs[0] else .tuple vs)) := by
    unfold results
    congr 1
  rw [e1, Sem.run_bind, hm]
  simp only [Result.andThen_ok, Sem.run_pure]
  congr 1
  match vs with
  | [] => rfl
  | [v] => rfl
  | v :: u :: r => simp [tupleL]
theorem leavesW_sound {P : Program} {T : TT P} {ok : Nat → Bool} (hok : ∀ f, ok f = true → enters P f) {fn : Func} {n : Nat} {e : Env} {ds0 : List Deferred} {R : Ending → World → Prop} : ∀ (ds : List Deferred) (u : FrameMode) (w : World),
    LeavesW T ok (rvs n e fn.results.toList) R ds u w → Leaves P fn (act n e ds0).tmps R ds u w
  | [], .returning, w, h => by obtain ⟨vs, k, hr⟩ := results_run (ds := ds0) h; exact ⟨_, hr, k⟩
  | [], .panicking ch, w, h => h
  | [], .run, w, h => h
  | d :: ds, u, w, h => by
    have hu : u ≠ .run := fun hu => by subst hu; exact h
    have h : (match d.target with
      | .fn (.func f) cap => bif ok f then CallsD P f (d.args ++ cap) u w fun en u' w' => match en with
          | .returned _ => LeavesW T ok (rvs n e fn.results.toList) R ds (settle u') w'
          | .panicked ch => LeavesW T ok (rvs n e fn.results.toList) R ds (raised u' ch) w'
          | .outgrown => False
        else False
      | _ => False) := by cases u <;> first | exact absurd rfl hu | exact h
    split at h <;> try exact h.elim
    rename_i f cap hd
    cases hf : ok f <;> simp only [hf, cond_true, cond_false] at h
    unfold Leaves
    refine ⟨?_, .func f, cap, f, d.args ++ cap, hd, ?_, ?_⟩
    · exact hu
    · rw [hd]; exact hok f hf _ _
    · intro c cs hu
      obtain ⟨en, u', w', fr, hq, x⟩ := h c cs hu
      refine ⟨en, u', w', fr, ?_, x⟩
      cases en with
      | returned v => exact leavesW_sound hok ds _ _ hq
      | panicked ch => exact leavesW_sound hok ds _ _ hq
      | outgrown => exact hq.elim
def argsE : List Value → Env
  | [] => fun _ => undef
  | v :: vs => fun k => match k with | 0 => v | k + 1 => argsE vs k
theorem argsE_eq : ∀ (vs : List Value) (k : Nat), argsE vs k = vs.getD k undef
  | [], k => by simp [argsE]
  | v :: vs, 0 => rfl
  | v :: vs, k + 1 => by simp [argsE, argsE_eq vs k]
/-- a string out of its bytes -/
def sb (l : List UInt8) : ByteArray := ⟨l.toArray⟩
theorem act_args (args : List Value) (n : Nat) (h : args.length ≤ n) :
    act n (argsE args) [] = { tmps := args.toArray ++ Array.replicate (n - args.toArray.size) undef, defers := [] } := by
  unfold act
  congr 1
  apply Array.ext
  · simp; omega
  · intro i h1 h2
    have hi : i < n := by simpa using h1
    simp only [Array.getElem_ofFn, argsE_eq, Array.getElem_append, List.size_toArray]
    split
    · rename_i hl; simp [hl]
    · rename_i hl; simp [Nat.not_lt.1 hl]

theorem enter {P : Program} {T : TT P} (hm : P.follows .mixedOrders = true) {ok : Nat → Bool} (hok : ∀ f, ok f = true → enters P f) {f : FuncId} {fn : Func} {c : Code} {ann : Ann} {args : List Value} {w : World} {R : Ending → World → Prop}
    (hf : P.funcs[f]? = some fn) (hb : fn.body = some c) (hn : args.length ≤ fn.ntmps) (ha : annOk T c ann = true)
    (h : wpc T ok fn.ntmps c ann (postW T ok fn.ntmps fn.results.toList R) (argsE args) [] w) : Calls P f args.toArray w R := by
  refine calls_of_wp_defers hf hb ?_
  rw [← act_args args fn.ntmps hn]
  refine wp_mono (wpc_sound hm hok c ha h) ?_
  rintro ex a' w' ⟨e, ds, rfl, hq⟩
  cases ex <;> simp only [postW] at hq <;> first | exact hq.elim | exact leavesW_sound hok ds _ _ hq

noncomputable def bodyOf (fn : Func) : Code := fn.body.getD .skip
/-- the walk of a function's body -/
noncomputable abbrev wpF {P : Program} (T : TT P) (ok : Nat → Bool) (fn : Func) (ann : Ann) (args : List Value) (w : World) (R : Ending → World → Prop) : Prop :=
  wpc T ok fn.ntmps (bodyOf fn) ann (postW T ok fn.ntmps fn.results.toList R) (argsE args) [] w
noncomputable def fitF {P : Program} (T : TT P) (fn : Func) (ann : Ann) (n : Nat) : Bool := fn.body.isSome && Nat.ble n fn.ntmps && annOk T (bodyOf fn) ann
theorem enterF {P : Program} {T : TT P} (hm : P.follows .mixedOrders = true) {ok : Nat → Bool} (hok : ∀ f, ok f = true → enters P f) {f : FuncId} {fn : Func} {ann : Ann} {args : List Value} {w : World} {R : Ending → World → Prop} {N : Prop}
    (hf : P.funcs[f]? = some fn) (hb : fitF T fn ann args.length = true) (he : N = wpF T ok fn ann args w R) (h : N) : Calls P f args.toArray w R := by
  simp only [fitF, Bool.and_eq_true] at hb
  obtain ⟨⟨h1, h2⟩, h3⟩ := hb
  obtain ⟨c, hc⟩ := Option.isSome_iff_exists.1 h1
  have hb : bodyOf fn = c := by simp [bodyOf, hc]
  refine enter hm hok hf hc (Nat.le_of_ble_eq_true h2) (ann := ann) (by rw [← hb]; exact h3) ?_
  rw [← hb]
  exact he.mp h
end Go.W

namespace Go.W
set_option linter.unusedSimpArgs false
set_option linter.unusedVariables false

/-! tables as trees -/
inductive BT where
  | l (t : Nat) (i : TypeInfo)
  | n (k : Nat) (a b : BT)
def BT.get : BT → Nat → Option TypeInfo
  | .l t i, k => bif Nat.beq k t then some i else none
  | .n m a b, k => bif Nat.blt k m then a.get k else b.get k
def BT.All (P : Program) : BT → Prop
  | .l t i => P.types[t]? = some i
  | .n _ a b => a.All P ∧ b.All P
theorem BT.get_ok {P : Program} : ∀ {b : BT}, b.All P → ∀ {t : Nat} {i : TypeInfo}, b.get t = some i → P.types[t]? = some i
  | .l t' i', h, t, i, hg => by
    simp only [BT.get] at hg
    cases hb : Nat.beq t t' <;> simp only [hb, cond_true, cond_false] at hg
    · cases hg
    · obtain rfl := Nat.eq_of_beq_eq_true hb
      obtain rfl := Option.some.inj hg
      exact h
  | .n m a b, h, t, i, hg => by
    simp only [BT.get] at hg
    cases hb : Nat.blt t m <;> simp only [hb, cond_true, cond_false] at hg
    · exact BT.get_ok h.2 hg
    · exact BT.get_ok h.1 hg
theorem info_of_types {P : Program} {t : Nat} {i : TypeInfo} (h : P.types[t]? = some i) : P.info? t = some i := by
  unfold Tables.info?
  obtain ⟨hl, _⟩ := Array.getElem?_eq_some_iff.1 h
  rw [if_pos hl, h]
def undT (b : BT) (t : TypeId) : Option TypeDesc := match b.get t with
  | some i => match i.desc with
    | .named _ u => match b.get u with | some j => some j.desc | none => none
    | d => some d
  | none => none
def infT (b : BT) (t : TypeId) : Option TI := match b.get t with | some i => some ⟨i.size, i.zero⟩ | none => none
def ttOf {P : Program} (b : BT) (h : b.All P) : TT P where
  und := undT b
  inf := infT b
  und_ok t d hd := by
    unfold undT at hd
    split at hd
    · rename_i i hi
      have h1 := info_of_types (BT.get_ok h hi)
      unfold Program.underlying
      rw [h1]
      obtain ⟨desc, str, size, bytes, hp, al, fa, zero, comp, ms⟩ := i
      simp only at hd ⊢
      cases desc <;> simp only at hd ⊢ <;> try exact hd
      rename_i nm u
      split at hd
      · rename_i j hj
        rw [info_of_types (BT.get_ok h hj)]
        exact hd
      · cases hd
    · cases hd
  inf_ok t i hi := by
    unfold infT at hi
    split at hi
    · rename_i j hj
      obtain rfl := Option.some.inj hi
      exact ⟨j, info_of_types (BT.get_ok h hj), rfl, rfl⟩
    · cases hi
/-- the functions that are entered -/
inductive FTr where
  | l (f : Nat)
  | n (k : Nat) (a b : FTr)
def FTr.mem : FTr → Nat → Bool
  | .l f, k => Nat.beq k f
  | .n m a b, k => bif Nat.blt k m then a.mem k else b.mem k
def FTr.All (P : Program) : FTr → Prop
  | .l f => enters P f
  | .n _ a b => a.All P ∧ b.All P
theorem FTr.ok {P : Program} : ∀ {b : FTr}, b.All P → ∀ f, b.mem f = true → enters P f
  | .l f', h, f, hm => by obtain rfl := Nat.eq_of_beq_eq_true hm; exact h
  | .n m a b, h, f, hm => by
    simp only [FTr.mem] at hm
    cases hb : Nat.blt f m <;> simp only [hb, cond_true, cond_false] at hm
    · exact FTr.ok h.2 f hm
    · exact FTr.ok h.1 f hm
end Go.W

namespace Go.W
set_option linter.unusedSimpArgs false
set_option linter.unusedVariables false

/-- what 'recover()' gives a deferred call, and how the caller's mode is turned -/
def recOf : FrameMode → Value × FrameMode
  | .panicking ({ v, recovered := false, goexit := false } :: older) => (v, .panicking ({ v, recovered := true } :: older))
  | u => (.nilIface, u)
theorem recoverD_recOf (c : Frame) (cs : List Frame) : recoverD (c :: cs) = some ((recOf c.mode).1, { c with mode := (recOf c.mode).2 } :: cs) ∨
    (recoverD (c :: cs) = none ∧ recOf c.mode = (.nilIface, c.mode)) := by
  unfold recoverD
  simp only
  split
  · rename_i v older h
    left; simp [recOf, h]
  · rename_i h
    right
    refine ⟨rfl, ?_⟩
    unfold recOf
    split
    · rename_i v older h'
      exact absurd h' (h _ _)
    · rfl

/-- a body that begins with 'x := recover()' -/
def isRec (c : Code) : Option (Nat × Nat × Code) := match c with
  | .seq (.region _ ops false) rest => match ops.toList with
    | [o1, o2] => match o1.op, o1.dst, o1.guard, o2.op, o2.dst, o2.guard with
      | .call cl, some d, none, .assign (.tmp d'), some e, none => match cl.callee, cl.args.toList with
        | .builtin .recover, [] => bif Nat.beq d d' then some (d, e, rest) else none
        | _, _ => none
      | _, _, _, _, _, _ => none
    | _ => none
  | _ => none
def postD {P : Program} (T : TT P) (n : Nat) (rs : List ResultVar) (R : Ending → World → Prop) : Post := fun ex e ds w => match ds with
  | [] => match ex with
    | .normal => resW T w (rvs n e rs) fun vs => R (.returned (tupleL vs)) w
    | .ret => resW T w (rvs n e rs) fun vs => R (.returned (tupleL vs)) w
    | .panic ch => R (.panicked ch) w
    | _ => False
  | _ :: _ => False

theorem enterRec {P : Program} {T : TT P} (hm : P.follows .mixedOrders = true) {ok : Nat → Bool} (hok : ∀ f, ok f = true → enters P f) {f : FuncId} {fn : Func} {c rest : Code} {d e : Nat} {ann : Ann} {args : List Value} {u u' : FrameMode} {v : Value} {w : World}
    {R : Ending → FrameMode → World → Prop} (hf : P.funcs[f]? = some fn) (hb : fn.body = some c) (hr : isRec c = some (d, e, rest)) (hn : args.length ≤ fn.ntmps) (hd : Nat.blt d fn.ntmps = true) (ha : annOk T rest ann = true) (hu : recOf u = (v, u'))
    (h : wpc T ok fn.ntmps rest ann (postD T fn.ntmps fn.results.toList fun en w' => R en u' w') (up (up (argsE args) d v) e v) [] w) : CallsD P f args.toArray u w R := by
  refine callsD_of_wpS hf hb fun c₀ cs hc => ?_
  rw [← act_args args fn.ntmps hn]
  unfold isRec at hr
  split at hr <;> try cases hr
  rename_i id ops rest'
  split at hr <;> try cases hr
  rename_i o1 o2 hops
  split at hr <;> try cases hr
  rename_i cl d0 d1 e0 h1 h2 h3 h4 h5 h6
  split at hr <;> try cases hr
  rename_i hcal hargs
  cases hdd : Nat.beq d0 d1 <;> simp only [hdd, cond_true, cond_false] at hr <;> try cases hr
  obtain rfl := Nat.eq_of_beq_eq_true hdd
  have hops' : ops = #[o1, o2] := by rw [← Array.toArray_toList (xs := ops), hops]
  subst hops'
  refine wpS_seq (wpS_region ?_)
  have hsz : (#[o1, o2] : Array Oper).size = 2 := rfl
  have hrun1 : ∀ a : Act, (execOp a.eval o1).run P w = .ok .recover w := by
    intro a
    obtain ⟨dst, op, ty, pos, after, guard⟩ := o1
    simp only at h1 h2 h3
    subst h1
    obtain ⟨callee, args', ats⟩ := cl
    simp only at hcal hargs
    subst hcal
    have : args' = #[] := by rw [← Array.toArray_toList (xs := args'), hargs]
    subst this
    simp [execOp, resolve, invoke, builtin]
  have hrun2 : ∀ a : Act, (execOp a.eval o2).run P w = .ok (.value (a.eval (.tmp d))) w := by
    intro a
    obtain ⟨dst, op, ty, pos, after, guard⟩ := o2
    simp only at h4 h5 h6
    subst h4
    simp [execOp]
  have hw1 : ∀ a : Act, Region.wanted o1 (yielded #[o1, o2] a.tmps) = true := fun a => by simp [Region.wanted, h3]
  have hw2 : ∀ a : Act, Region.wanted o2 (yielded #[o1, o2] a.tmps) = true := fun a => by simp [Region.wanted, h6]
  have hlist : List.range (#[o1, o2] : Array Oper).size = [0, 1] := rfl
  rw [hlist]
  have fin : (c₀ :: cs).length = (c₀ :: cs).length → wpOpsS P #[o1, o2] (Exit.thenS (Code.wpS P rest (bodyPostS P fn c₀ cs R)) (bodyPostS P fn c₀ cs R)) [1] ((act fn.ntmps (argsE args) []).put (some d) v) ({ c₀ with mode := u' } :: cs) w := by
    intro _
    unfold wpOpsS
    simp only [List.getElem?_toArray, List.getElem?_cons_succ, List.getElem?_cons_zero, hw2, if_true, hrun2, Oper.upon, h5]
    unfold wpOpsS
    simp only [Exit.thenS]
    rw [act_put, act_eval, act_put]
    have hev : ev fn.ntmps (put (argsE args) (some d) v) (.tmp d) = v := by
      simp [ev, hd, put, up]
    rw [hev]
    refine wpS_of_wp (wp_mono (wpc_sound hm hok rest ha h) ?_)
    rintro ex a' w' ⟨e', ds, rfl, hq⟩
    cases ds with
    | cons => exact hq.elim
    | nil =>
    cases ex <;> simp only [postD] at hq
    · obtain ⟨vs, k, hr⟩ := results_run (ds := []) hq
      exact ⟨rfl, u', rfl, _, hr, k⟩
    · obtain ⟨vs, k, hr⟩ := results_run (ds := []) hq
      exact ⟨rfl, u', rfl, _, hr, k⟩
    · exact ⟨rfl, u', rfl, hq⟩
  unfold wpOpsS
  simp only [List.getElem?_toArray, List.getElem?_cons_zero, hw1, if_true, hrun1, h2]
  rcases recoverD_recOf c₀ cs with hr | ⟨hr, hnil⟩
  · rw [hr]
    simp only [hc, hu]
    exact fin rfl
  · rw [hr]
    rw [hc, hu] at hnil
    obtain ⟨rfl, rfl⟩ := Prod.mk.inj hnil
    have : ({ c₀ with mode := c₀.mode } : Frame) = c₀ := rfl
    simp only
    have := fin rfl
    rw [← hc] at this
    exact this

/-- the form that the generator prints -/
noncomputable def restOf (fn : Func) : Nat × Nat × Code := (isRec (bodyOf fn)).getD (0, 0, .skip)
noncomputable abbrev wpR {P : Program} (T : TT P) (ok : Nat → Bool) (fn : Func) (ann : Ann) (args : List Value) (v : Value) (w : World) (R : Ending → World → Prop) : Prop :=
  wpc T ok fn.ntmps (restOf fn).2.2 ann (postD T fn.ntmps fn.results.toList R) (up (up (argsE args) (restOf fn).1 v) (restOf fn).2.1 v) [] w
noncomputable def fitR {P : Program} (T : TT P) (fn : Func) (ann : Ann) (n : Nat) : Bool :=
  fn.body.isSome && (isRec (bodyOf fn)).isSome && Nat.ble n fn.ntmps && Nat.blt (restOf fn).1 fn.ntmps && annOk T (restOf fn).2.2 ann
theorem enterR {P : Program} {T : TT P} (hm : P.follows .mixedOrders = true) {ok : Nat → Bool} (hok : ∀ f, ok f = true → enters P f) {f : FuncId} {fn : Func} {ann : Ann} {args : List Value} {u u' : FrameMode} {v : Value} {w : World} {R : Ending → FrameMode → World → Prop} {N : Prop}
    (hf : P.funcs[f]? = some fn) (hb : fitR T fn ann args.length = true) (he : N = wpR T ok fn ann args v w (fun en w' => R en u' w')) (hu : recOf u = (v, u')) (h : N) : CallsD P f args.toArray u w R := by
  simp only [fitR, Bool.and_eq_true] at hb
  obtain ⟨⟨⟨⟨h1, h2⟩, h3⟩, h4⟩, h5⟩ := hb
  obtain ⟨c, hc⟩ := Option.isSome_iff_exists.1 h1
  have hb : bodyOf fn = c := by simp [bodyOf, hc]
  obtain ⟨⟨d, e, rest⟩, hr⟩ := Option.isSome_iff_exists.1 h2
  have hrest : restOf fn = (d, e, rest) := by simp [restOf, hr]
  rw [he] at h
  simp only [wpR, hrest] at h h4 h5
  rw [hb] at hr
  exact enterRec hm hok hf hc hr (Nat.le_of_ble_eq_true h3) h4 h5 hu h
end Go.W

namespace Go.W
set_option linter.unusedSimpArgs false
set_option linter.unusedVariables false

/-! a range over a function that does not yield -/
theorem wp_rangeFunc {P : Program} {g : Operand} {ps : Array Tmp} {assign body : Code} {Q : Exit → Act → World → Prop} {a : Act} {w : World} {fid : FuncId} {first cap : Array Value} (hg : a.eval g = .func (.func fid) first cap) (hen : enters P fid)
    (h : ∀ rec : Loop, rec.state = .ready → rec.pending = none → rec.tmps = a.tmps → rec.params = ps → rec.assign = assign → rec.body = body → Calls P fid (first ++ #[.func (.yield (w.heap.size + 1)) #[] #[]] ++ cap) ((w.alloc (.deferred (some []))).alloc (.loop rec)) (fun e w3 => match e with
      | .returned _ => ∃ r, w3.heap[w.heap.size + 1]? = some (.loop r) ∧ r.state ≠ .busy ∧ r.pending = none ∧ ∀ r', Q .normal { a with defers := { target := .collected w.heap.size, args := #[] } :: a.defers } (w3.putObj (w.heap.size + 1) (.loop r'))
      | .panicked ch => Q (.panic ch) { a with defers := { target := .collected w.heap.size, args := #[] } :: a.defers } w3
      | .outgrown => False)) : (Code.rangeFunc g ps assign body).wp P Q a w := by
  intro b k cs
  have he := run_enterLoop_outer (P := P) (w := w) b.fn a.tmps ps assign body
  have hres : ∀ w1, (resolve a.eval (rangeCall g (w.heap.size + 1)) 0).run P w1 = .ok { target := .fn (.func fid) cap, args := first ++ #[.func (.yield (w.heap.size + 1)) #[] #[]] } w1 := by
    intro w1
    have e : Array.map a.eval #[Operand.const (Value.func (Fn.yield (w.heap.size + 1)) #[] #[])] = #[Value.func (Fn.yield (w.heap.size + 1)) #[] #[]] := by simp [Act.eval]
    simp only [rangeCall, resolve, Deferred.ofValue, hg, pure_bind, e, Sem.run_pure]
  have hinv : ∀ w1, (invoke (.fn (.func fid) cap) (first ++ #[.func (.yield (w.heap.size + 1)) #[] #[]])).run P w1 = .ok (.enter fid (first ++ #[.func (.yield (w.heap.size + 1)) #[] #[]] ++ cap)) w1 := fun w1 => hen _ _
  have henter := stepR_rangeFunc (P := P) (b := b.at a (.code (.rangeFunc g ps assign body) :: k)) (a := a) (k := k) (cs := cs) (w := w) he (hres _) (hinv _)
  have hcall := h { state := .ready, pending := none, fn := b.fn, tmps := a.tmps, params := ps, assign, body, defers := w.heap.size } rfl rfl rfl rfl rfl rfl (b.at { a with defers := { target := .collected w.heap.size, args := #[] } :: a.defers } (.inRangeFunc (w.heap.size + 1) :: k) :: cs)
  obtain ⟨e, w3, fr, hR, hsteps, hfn, hleave⟩ := hcall
  cases e with
  | outgrown => exact hR.elim
  | returned v =>
    obtain ⟨r, h1, h2, h3, hq⟩ := hR
    have hend := run_endLoop (P := P) h1 h2
    rw [h3] at hend
    refine ⟨.normal, _, _, hq { r with state := .exhausted }, ?_⟩
    refine .head henter (Steps.trans hsteps (.head (step_leave_returned hleave) (.one ?_)))
    have := stepR_endRangeFunc (P := P) (b := b.at a k) (a := { a with defers := { target := .collected w.heap.size, args := #[] } :: a.defers }) (k := k) (cs := cs) hend
    have e1 := finish_atR_inRangeFunc (b := b.at a k) (a := { a with defers := { target := .collected w.heap.size, args := #[] } :: a.defers }) (k := k) (w.heap.size + 1) v
    have e2 : (b.at { a with defers := { target := .collected w.heap.size, args := #[] } :: a.defers } (.inRangeFunc (w.heap.size + 1) :: k)).finish v = (b.at a k).atR { a with defers := { target := .collected w.heap.size, args := #[] } :: a.defers } (.endRangeFunc (w.heap.size + 1) :: k) := e1
    rw [e2, h3]
    exact this
  | panicked ch =>
    refine ⟨.panic ch, _, w3, hR, .inRangeFunc (w.heap.size + 1) :: k, ?_⟩
    refine .head henter (Steps.trans hsteps (.one ?_))
    rw [← Frame.raise_at]; exact step_leave_panicked hleave

/-- what is deferred, marks among it -/
def LeavesM (P : Program) (fn : Func) (tmps : Array Value) (R : Ending → World → Prop) : List Deferred → FrameMode → World → Prop
  | [], u, w => Leaves P fn tmps R [] u w
  | d :: ds, u, w => u ≠ .run ∧
      ((∃ r w', d.target = .collected r ∧ (Instr.takeDeferred r).run P w = .ok [] w' ∧ LeavesM P fn tmps R ds u w') ∨
       (∃ fv cap f args, d.target = .fn fv cap ∧ (invoke d.target d.args).run P w = .ok (.enter f args) w ∧
        CallsD P f args u w fun
          | .returned _, u', w' => LeavesM P fn tmps R ds (settle u') w'
          | .panicked chain, u', w' => LeavesM P fn tmps R ds (raised u' chain) w'
          | .outgrown, _, _ => False))
theorem leavesM_steps {P : Program} {fn : Func} {tmps : Array Value} {R : Ending → World → Prop} : ∀ (ds : List Deferred) (u : FrameMode) (w : World) (fr : Frame)
    (cs : List Frame), fr.mode = u → fr.defers = ds → fr.tmps = tmps → P.funcs[fr.fn]? = some fn → fr.kind = .normal → LeavesM P fn tmps R ds u w →
    ∃ e w' fr', R e w' ∧ Comes P (lone fr cs w) (lone fr' cs w') e ∧ fr'.fn = fr.fn ∧ fr'.leaving P w' e
  | [], u, w, fr, cs, hu, hd, ht, hf, hk, h => leaves_steps [] u w fr cs hu hd ht hf hk h
  | d :: ds, u, w, fr, cs, hu, hd, ht, hf, hk, ⟨hrun, h⟩ => by
    rcases h with ⟨r, w', htar, htake, hrest⟩ | ⟨fv, cap, f, args, htar, hinv, hcall⟩
    · have h1 := step_collected (cs := cs) (hu ▸ hrun) hd htar htake
      obtain ⟨e', w'', fr', hR', hs', hfn', hl'⟩ := leavesM_steps ds u w' { fr with defers := [] ++ ds } cs hu rfl ht hf hk hrest
      exact ⟨e', w'', fr', hR', Comes.of_steps (.one h1) hs', hfn', hl'⟩
    · have h1 := step_defer (cs := cs) (hu ▸ hrun) hd htar hinv
      obtain ⟨e, u', w', frX, hR, hsteps, hkX, hgo⟩ := hcall { fr with defers := ds } cs hu
      cases e with
      | outgrown => exact hR.elim
      | returned v =>
        have h2 := step_going_returned (c := { { fr with defers := ds } with mode := u' }) (cs := cs) hkX hgo
        obtain ⟨e', w'', fr', hR', hs', hfn', hl'⟩ := leavesM_steps ds (settle u') w' { { { fr with defers := ds } with mode := u' } with mode := settle u' } cs rfl rfl ht hf hk hR
        exact ⟨e', w'', fr', hR', Comes.of_steps (.head h1 (Steps.trans hsteps (.one h2))) hs', hfn', hl'⟩
      | panicked chain =>
        have h2 := step_going_panicked (c := { { fr with defers := ds } with mode := u' }) (cs := cs) hgo
        obtain ⟨e', w'', fr', hR', hs', hfn', hl'⟩ := leavesM_steps ds (raised u' chain) w' { { { fr with defers := ds } with mode := u' } with mode := raised u' chain } cs rfl rfl ht hf hk hR
        exact ⟨e', w'', fr', hR', Comes.of_steps (.head h1 (Steps.trans hsteps (.one h2))) hs', hfn', hl'⟩
def bodyPostN (P : Program) (fn : Func) (R : Ending → World → Prop) : Exit → Act → World → Prop
  | .normal, a, w | .ret, a, w => LeavesM P fn a.tmps R a.defers .returning w
  | .panic chain, a, w => LeavesM P fn a.tmps R a.defers (.panicking chain) w
  | _, _, _ => False
theorem calls_of_wp_marks {P : Program} {f : FuncId} {fn : Func} {c : Code} {args : Array Value} {w : World} {R : Ending → World → Prop} (hf : P.funcs[f]? = some fn) (hb : fn.body = some c)
    (h : c.wp P (bodyPostN P fn R) { tmps := args ++ Array.replicate (fn.ntmps - args.size) undef, defers := [] } w) : Calls P f args w R := by
  intro cs
  let b : Frame := { (default : Frame) with fn := f, kind := .normal }
  have henter : Frame.enter P f args .normal = b.at { tmps := args ++ Array.replicate (fn.ntmps - args.size) undef, defers := [] } [.code c] := by
    simp [Frame.enter, Frame.at, hf, hb, b]
  obtain ⟨e, a', w', hq, harr⟩ := h b [] cs
  rw [← henter] at harr
  cases e with
  | normal =>
    obtain ⟨e', w'', fr', hR, hs, hfn, hl⟩ := leavesM_steps a'.defers .returning w' { b.at a' [] with mode := .returning } cs rfl rfl rfl hf rfl hq
    exact ⟨e', w'', fr', hR, Comes.of_steps (Steps.trans harr (.one step_end)) hs, hfn, hl⟩
  | ret =>
    obtain ⟨todo, hs0⟩ := harr
    obtain ⟨e', w'', fr', hR, hs, hfn, hl⟩ := leavesM_steps a'.defers .returning w' { b.at a' todo with mode := .returning } cs rfl rfl rfl hf rfl hq
    exact ⟨e', w'', fr', hR, Comes.of_steps hs0 hs, hfn, hl⟩
  | panic chain =>
    obtain ⟨todo, hs0⟩ := harr
    obtain ⟨e', w'', fr', hR, hs, hfn, hl⟩ := leavesM_steps a'.defers (.panicking chain) w' { b.at a' todo with mode := .panicking chain } cs rfl rfl rfl hf rfl hq
    exact ⟨e', w'', fr', hR, Comes.of_steps hs0 hs, hfn, hl⟩
  | exit id => exact hq.elim
  | goto l => exact hq.elim
  | outgrown => exact hq.elim
/-- the deferred calls, marks among them -/
def LeavesY {P : Program} (T : TT P) (ok : Nat → Bool) (rs : List RV) (R : Ending → World → Prop) : List Deferred → FrameMode → World → Prop
  | [], u, w => LeavesW T ok rs R [] u w
  | d :: ds, u, w => u ≠ .run ∧ match d.target with
    | .fn (.func f) cap => bif ok f then CallsD P f (d.args ++ cap) u w fun en u' w' => match en with
        | .returned _ => LeavesY T ok rs R ds (settle u') w'
        | .panicked ch => LeavesY T ok rs R ds (raised u' ch) w'
        | .outgrown => False
      else False
    | .collected r => w.heap[r]? = some (.deferred (some [])) ∧ LeavesY T ok rs R ds u (w.putObj r (.deferred none))
    | _ => False
def postY {P : Program} (T : TT P) (ok : Nat → Bool) (n : Nat) (rs : List ResultVar) (R : Ending → World → Prop) : Post := fun ex e ds w => match ex with
  | .normal => LeavesY T ok (rvs n e rs) R ds .returning w
  | .ret => LeavesY T ok (rvs n e rs) R ds .returning w
  | .panic ch => LeavesY T ok (rvs n e rs) R ds (.panicking ch) w
  | _ => False
theorem leavesY_sound {P : Program} {T : TT P} {ok : Nat → Bool} (hok : ∀ f, ok f = true → enters P f) {fn : Func} {n : Nat} {e : Env} {ds0 : List Deferred} {R : Ending → World → Prop} : ∀ (ds : List Deferred) (u : FrameMode) (w : World),
    LeavesY T ok (rvs n e fn.results.toList) R ds u w → LeavesM P fn (act n e ds0).tmps R ds u w
  | [], u, w, h => leavesW_sound hok [] u w h
  | d :: ds, u, w, ⟨hu, h⟩ => by
    unfold LeavesM
    refine ⟨hu, ?_⟩
    split at h <;> try exact h.elim
    · rename_i f cap hd
      cases hf : ok f <;> simp only [hf, cond_true, cond_false] at h
      right
      refine ⟨.func f, cap, f, d.args ++ cap, hd, ?_, ?_⟩
      · rw [hd]; exact hok f hf _ _
      · intro c cs hu
        obtain ⟨en, u', w', fr, hq, x⟩ := h c cs hu
        refine ⟨en, u', w', fr, ?_, x⟩
        cases en with
        | returned v => exact leavesY_sound hok ds _ _ hq
        | panicked ch => exact leavesY_sound hok ds _ _ hq
        | outgrown => exact hq.elim
    · rename_i r hd
      exact .inl ⟨r, _, hd, run_takeDeferred h.1, leavesY_sound hok ds _ _ h.2⟩
end Go.W
