/-
  The machine: regions, code, functions, and that it reckons what the program does.
-/
import Derived.RangeFuncIn
import Derived.TacticsIn
import Derived.Test.YtmafmfealhcloaaGreatDoorMachB
namespace Go.X
open Go Go.W
set_option linter.unusedSimpArgs false
set_option linter.unusedVariables false

/-! regions that draw their order -/
def anyNew (nw : List Nat) (op : Op) : Bool := (opsOf op).any fun o => match o with | .tmp t => memL t nw | _ => false
def nwAdd (d : Option Tmp) (nw : List Nat) : List Nat := match d with | some d => d :: nw | none => nw
def dstill {P : Program} (T : TT P) (n : Nat) (A0 : AH) (nw L : List Nat) (E : AEnv) (A : AH) (op : Op) : Option (AV × Bool × List Nat) :=
  bif anyNew nw op then (bif isLoad op then none else match astill T n E A op with | some r => some (r, true, L) | none => none)
  else match loadPtr n E op with
    | some (.ptr i _) => (match A0.get i with
      | some _ => bif Nat.beq (A.ver i) (A0.ver i) then (match astill T n E A0 op with | some r => some (r, false, i :: L) | none => none) else none
      | none => none)
    | _ => match astill T n E A0 op with | some r => some (r, false, L) | none => none
def verAll (A A0 : AH) (L : List Nat) : Bool := L.all fun i => Nat.beq (A.ver i) (A0.ver i)
abbrev PL := List (Nat × Nat × AO)
def noPool (pl : PL) (op : Op) : Bool := (opsOf op).all fun o => match o with | .tmp t => !(memL t (pl.map (·.1))) | _ => true
def intact (pl : PL) (A : AH) : Bool := pl.all fun p => match A.get p.2.1 with | some o => AO.beq o p.2.2 | none => false
def distI : PL → Bool
  | [] => true
  | p :: r => !(memL p.2.1 (r.map (·.2.1))) && distI r
def poolX {P : Program} (T : TT P) (all : List Oper) : List Nat → AH → Option (PL × AH)
  | [], A => some ([], A)
  | a :: as, A => match all[a]? with
    | some o => match o.op, o.dst, o.guard with
      | .alloc t, some d, none => match zeroA T t, A.get A.next with
        | some z, none => match poolX T all as (A.set A.next (.cells t 0 z)).bump with
          | some (l, A') => some ((d, A.next, .cells t 0 z) :: l, A')
          | none => none
        | _, _ => none
      | _, _, _ => none
    | none => none
def putP : PL → AEnv → AEnv
  | [], E => E
  | (d, i, _) :: r, E => (putP r E).set ed d (.ptr i 0)
section
variable {P : Program} (X : Cx P) (call : CallF) (ext : ExtF) (n : Nat) (all : List Oper) (A0 : AH)
def achain (pl : PL) : OT → List Nat → List Nat → AEnv → AH → Option (AEnv × AH × List Nat × List Nat)
  | .done, nw, L, E, A => some (E, A, L, nw)
  | .step i _ rest, nw, L, E, A => match all[i]? with
    | none => none
    | some o => bif o.guard.isNone && noPool pl o.op then
        (bif isStill X.T o.op then
          (match dstill X.T n A0 nw L E A o.op with
           | some (r, nu, L') => achain pl rest (bif nu then nwAdd o.dst nw else nw) L' (aput E o.dst r) A
           | none => none)
        else (match aop X call ext n E A o.op o.type with
           | some (.val r A') => bif verAll A' A0 L && intact pl A' then achain pl rest (nwAdd o.dst nw) L (aput E o.dst r) A' else none
           | _ => none))
      else none
  | _, _, _, _, _ => none
def adraw : OT → List Nat → List Nat → AEnv → AH → Option (AEnv × AH × List Nat)
  | .done, nw, L, E, A => some (E, A, L)
  | .both x y, nw, L, E, A => match adraw x nw L E A with
    | some (E1, A1, L1) => (match adraw y nw L E A with
      | some (E2, A2, L2) => bif Tr.beq AV.beq E1 E2 && AH.beq A1 A2 && natsBeq L1 L2 then some (E1, A1, L1) else none
      | none => none)
    | none => none
  | .step i b rest, nw, L, E, A => match all[i]? with
    | none => none
    | some o => match aguard n all o.guard E with
      | none => none
      | some false => adraw rest (nwAdd o.dst nw) L (aput E o.dst (.tup [])) A
      | some true => bif isStill X.T o.op then
          (match dstill X.T n A0 nw L E A o.op with
           | some (r, nu, L') => adraw rest (bif nu then nwAdd o.dst nw else nw) L' (aput E o.dst r) A
           | none => none)
        else (match aop X call ext n E A o.op o.type with
           | some (.val r A') => bif !b || verAll A' A0 L then adraw rest (nwAdd o.dst nw) L (aput E o.dst r) A' else none
           | _ => none)
  | .pool as t r, nw, L, E, A => match poolX X.T all as A with
    | some (pl, A1) => bif distI pl && intact pl A1 && verAll A1 A0 L then
        (match achain X call ext n all A0 pl t nw L E A1 with
         | some (E', A', L', nw') => adraw r (pl.map (·.1) ++ nw') L' (putP pl E') A'
         | none => none)
      else none
    | none => none
end

/-! which variables are read; their versions -/
def Lok (A0 A : AH) (L L' : List Nat) : Prop := (∀ i ∈ L, i ∈ L') ∧ ∀ i ∈ L', i ∈ L ∨ (A0.get i ≠ none ∧ (A.get i ≠ none → A.ver i ≤ A0.ver i))
theorem Lok.refl {A0 A : AH} {L : List Nat} : Lok A0 A L L := ⟨fun _ h => h, fun _ h => .inl h⟩
theorem Lok.of_le {A0 A A' : AH} {L L' : List Nat} (h : Lok A0 A' L L') (hv : leV A A') : Lok A0 A L L' :=
  ⟨h.1, fun i hi => (h.2 i hi).imp id fun k => ⟨k.1, fun hg => by have := hv i hg; have := k.2 this.1; omega⟩⟩
theorem Lok.cons {A0 A : AH} {L L' : List Nat} {i : Nat} (h : Lok A0 A (i :: L) L') (h0 : A0.get i ≠ none) (hv : A.ver i = A0.ver i) : Lok A0 A L L' :=
  ⟨fun j hj => h.1 j (List.mem_cons_of_mem _ hj), fun j hj => by
    rcases h.2 j hj with k | k
    · rcases List.mem_cons.1 k with rfl | k
      · exact .inr ⟨h0, fun _ => by omega⟩
      · exact .inl k
    · exact .inr k⟩
theorem Lok.trans {A0 A A' : AH} {L L' L'' : List Nat} (h : Lok A0 A L L') (hv : leV A A') (h' : Lok A0 A' L' L'') : Lok A0 A L L'' :=
  ⟨fun i hi => h'.1 i (h.1 i hi), fun i hi => by
    rcases (h'.of_le hv).2 i hi with k | k
    · exact h.2 i k
    · exact .inr k⟩
theorem dstill_L {P : Program} {T : TT P} {n : Nat} {A0 A : AH} {nw L L' L'' : List Nat} {E : AEnv} {op : Op} {r : AV} {nu : Bool} (h : dstill T n A0 nw L E A op = some (r, nu, L')) (k : Lok A0 A L' L'') : Lok A0 A L L'' := by
  unfold dstill at h
  cases hn : anyNew nw op <;> simp only [hn, cond_true, cond_false] at h
  · split at h
    · rename_i i o _
      split at h <;> try cases h
      rename_i ob hg
      cases hb : Nat.beq (A.ver i) (A0.ver i) <;> simp only [hb, cond_true, cond_false] at h
      · cases h
      split at h <;> try cases h
      exact k.cons (by rw [hg]; simp) (Nat.eq_of_beq_eq_true hb)
    · split at h <;> try cases h
      exact k
  · cases hl : isLoad op <;> simp only [hl, cond_true, cond_false] at h
    · split at h <;> try cases h
      exact k
    · cases h
theorem poolX_leV {P : Program} {T : TT P} {all : List Oper} : ∀ {as : List Nat} {A A' : AH} {pl : PL}, poolX T all as A = some (pl, A') → leV A A'
  | [], A, A', pl, h => by simp only [poolX, Option.some.injEq, Prod.mk.injEq] at h; rw [← h.2]; exact leV.refl A
  | a :: as, A, A', pl, h => by
    simp only [poolX] at h
    split at h <;> try cases h
    split at h <;> try cases h
    split at h <;> try cases h
    rename_i hn
    split at h <;> try cases h
    rename_i h2
    exact (leV_new (o := _) hn).trans (poolX_leV (A := (A.set A.next _).bump) h2)
section
variable {P : Program} {X : Cx P} {call : CallF} {ext : ExtF} {n : Nat} {all : List Oper} {A0 : AH}
theorem achain_L (hc : CallV call) (hx : ExtV ext) {pl : PL} : ∀ {t : OT} {nw L : List Nat} {E : AEnv} {A : AH} {Ef : AEnv} {Af : AH} {Lf nwf : List Nat}, achain X call ext n all A0 pl t nw L E A = some (Ef, Af, Lf, nwf) → Lok A0 A L Lf ∧ leV A Af
  | .done, nw, L, E, A, Ef, Af, Lf, nwf, h => by
    simp only [achain, Option.some.injEq, Prod.mk.injEq] at h
    obtain ⟨_, rfl, rfl, _⟩ := h
    exact ⟨Lok.refl, leV.refl A⟩
  | .step i b rest, nw, L, E, A, Ef, Af, Lf, nwf, h => by
    unfold achain at h
    split at h
    · cases h
    rename_i o ho
    cases hg : (o.guard.isNone && noPool pl o.op) <;> simp only [hg, cond_true, cond_false] at h
    · cases h
    cases hs : isStill X.T o.op <;> simp only [hs, cond_true, cond_false] at h
    · split at h <;> try cases h
      rename_i r A' ha
      cases hv : (verAll A' A0 L && intact pl A') <;> simp only [hv, cond_true, cond_false] at h
      · cases h
      obtain ⟨k1, k2⟩ := achain_L hc hx h
      have := aop_V hc hx ha
      exact ⟨k1.of_le this, leV.trans this k2⟩
    · split at h
      · rename_i r nu L' hd
        obtain ⟨k1, k2⟩ := achain_L hc hx h
        exact ⟨dstill_L hd k1, k2⟩
      · cases h
  | .both _ _, _, _, _, _, _, _, _, _, h => by simp [achain] at h
  | .pool _ _ _, _, _, _, _, _, _, _, _, h => by simp [achain] at h
theorem adraw_L (hc : CallV call) (hx : ExtV ext) : ∀ {t : OT} {nw L : List Nat} {E : AEnv} {A : AH} {Ef : AEnv} {Af : AH} {Lf : List Nat}, adraw X call ext n all A0 t nw L E A = some (Ef, Af, Lf) → Lok A0 A L Lf ∧ leV A Af
  | .done, nw, L, E, A, Ef, Af, Lf, h => by
    simp only [adraw, Option.some.injEq, Prod.mk.injEq] at h
    obtain ⟨_, rfl, rfl⟩ := h
    exact ⟨Lok.refl, leV.refl A⟩
  | .both x y, nw, L, E, A, Ef, Af, Lf, h => by
    unfold adraw at h
    split at h
    · rename_i E1 A1 L1 h1
      split at h
      · rename_i E2 A2 L2 h2
        revert h
        generalize (Tr.beq AV.beq E1 E2 && AH.beq A1 A2 && natsBeq L1 L2) = b
        intro h
        cases b <;> simp only [cond_true, cond_false] at h
        · cases h
        · simp only [Option.some.injEq, Prod.mk.injEq] at h
          obtain ⟨rfl, rfl, rfl⟩ := h
          exact adraw_L hc hx h1
      · cases h
    · cases h
  | .step i b rest, nw, L, E, A, Ef, Af, Lf, h => by
    unfold adraw at h
    split at h
    · cases h
    rename_i o ho
    split at h
    · cases h
    · exact adraw_L hc hx h
    · cases hs : isStill X.T o.op <;> simp only [hs, cond_true, cond_false] at h
      · split at h <;> try cases h
        rename_i r A' ha
        cases hv : (!b || verAll A' A0 L) <;> simp only [hv, cond_true, cond_false] at h
        · cases h
        obtain ⟨k1, k2⟩ := adraw_L hc hx h
        have := aop_V hc hx ha
        exact ⟨k1.of_le this, leV.trans this k2⟩
      · split at h
        · rename_i r nu L' hd
          obtain ⟨k1, k2⟩ := adraw_L hc hx h
          exact ⟨dstill_L hd k1, k2⟩
        · cases h
  | .pool as t r, nw, L, E, A, Ef, Af, Lf, h => by
    unfold adraw at h
    split at h
    · rename_i pl A1 hp
      cases hb : (distI pl && intact pl A1 && verAll A1 A0 L) <;> simp only [hb, cond_true, cond_false] at h
      · cases h
      split at h
      · rename_i E' A' L' nw' hch
        obtain ⟨k1, k2⟩ := achain_L hc hx hch
        obtain ⟨k3, k4⟩ := adraw_L hc hx h
        have h1 := poolX_leV hp
        exact ⟨(k1.of_le h1).trans (h1.trans k2) k3, (h1.trans k2).trans k4⟩
      · cases h
    · cases h
end
end Go.X

namespace Go.X
open Go Go.W
set_option linter.unusedSimpArgs false
set_option linter.unusedVariables false

/-! regions that draw: they are sound -/
theorem Fut.pre {g0 g : G} {A0 A : AH} {w0 w : World} {i : Nat} {o : AO} (F : Fut g0 A0 w0 g A w) (hn : A.get i = none) : Fut g0 A0 w0 g (A.set i o) w := by
  have hne : ∀ j, A.get j ≠ none → j ≠ i := fun j hj e => hj (by rw [e]; exact hn)
  refine ⟨F.le, ⟨fun j b hv => ?_, F.sat.sig, F.sat.inj, F.sat.dis, F.sat.tok, F.sat.tsig, F.sat.stamp⟩, F.sigc, fun j b hv he => ?_, fun j hj => ?_, F.fresh, F.env, F.size, F.old⟩
  · obtain ⟨ob, x, h1, h2, h3⟩ := F.sat.var j b hv
    exact ⟨ob, x, by rw [A.get_set_ne _ (hne j (by rw [h1]; simp))]; exact h1, h2, h3⟩
  · obtain ⟨ob, x, h1, h2, h3⟩ := F.sat.var j b (F.le.var j b hv)
    exact F.varc j b hv (by simpa only [AH.ver, A.get_set_ne _ (hne j (by rw [h1]; simp))] using he)
  · have h1 := F.verm j hj
    simp only [AH.ver, A.get_set_ne _ (hne j h1.1)]
    exact h1
theorem Fut.lay {g0 g : G} {A0 A : AH} {w0 w : World} {i : Nat} {o : AO} {x : Obj} (s0 : Sat g0 A0 w0) (F : Fut g0 A0 w0 g A w) (h0 : A0.get i = none) (hA : A.get i = some o) (hn : g.var i = none) (hx : repO g o x) :
    Fut g0 A0 w0 (g.setVar i w.heap.size) A (w.alloc x) := by
  have h := F.sat
  have hle : g.le (g.setVar i w.heap.size) := by
    refine ⟨fun j b hv => ?_, fun b S L hs => ⟨[], by simp [G.setVar, hs]⟩, fun _ => Nat.le_refl _, fun _ _ _ ht => ⟨ht, rfl⟩⟩
    have : j ≠ i := fun e => by rw [e, hn] at hv; cases hv
    simp [G.setVar, this, hv]
  have old : ∀ j b, g.var j = some b → b < w.heap.size := fun j b hv => by
    obtain ⟨o, x, _, hh, _⟩ := h.var j b hv; exact heap_lt hh
  have olds : ∀ b S L, g.sig b = some (S, L) → b < w.heap.size := fun b S L hs => by
    obtain ⟨vs, e, fz, hh, _⟩ := h.sig b S L hs; exact heap_lt hh
  refine ⟨F.le.trans hle, ⟨fun j b hv => ?_, fun b S L hs => ?_, fun j k b hj hk => ?_, fun j b hv => ?_, h.tok, fun j b ht => ?_, h.stamp⟩, fun b S L i hs hi => ?_, fun j b hv he => ?_, F.verm, fun j b hv => ?_, F.env, by have := F.size; simp; omega, fun b hb q1 q2 => ?_⟩
  · by_cases e : j = i
    · subst e
      simp only [G.setVar, if_true] at hv
      obtain rfl := Option.some.inj hv
      exact ⟨o, x, hA, alloc_new, repO_mono hle hx⟩
    · simp only [G.setVar, if_neg e] at hv
      obtain ⟨o', x', h1, h2, h3⟩ := h.var j b hv
      exact ⟨o', x', h1, by rw [alloc_old (old j b hv)]; exact h2, repO_mono hle h3⟩
  · obtain ⟨vs, e, fz, h1, h2, h3, h4, h5⟩ := h.sig b S L hs
    exact ⟨vs, e, fz, by rw [alloc_old (olds b S L hs)]; exact h1, h2, h3, h4, reps_mono hle _ h5⟩
  · by_cases e : j = i <;> by_cases e' : k = i
    · rw [e, e']
    · simp only [G.setVar, if_pos e, if_neg e'] at hj hk
      have := old k b hk; obtain rfl := Option.some.inj hj; omega
    · simp only [G.setVar, if_neg e, if_pos e'] at hj hk
      have := old j b hj; obtain rfl := Option.some.inj hk; omega
    · simp only [G.setVar, if_neg e, if_neg e'] at hj hk
      exact h.inj j k b hj hk
  · show g.sig b = none
    by_cases e : j = i
    · simp only [G.setVar, if_pos e] at hv
      obtain rfl := Option.some.inj hv
      cases hs : g.sig w.heap.size with
      | none => rfl
      | some p => have := olds _ p.1 p.2 hs; omega
    · simp only [G.setVar, if_neg e] at hv
      exact h.dis j b hv
  · have := h.tsig j b ht; simp; omega
  · obtain ⟨R, hR⟩ := F.le.sig b S L hs
    rw [alloc_cell (olds b _ L hR)]; exact F.sigc b S L i hs hi
  · rw [alloc_old (old j b (F.le.var j b hv))]; exact F.varc j b hv he
  · by_cases e : j = i
    · subst e; exact .inr h0
    · simp only [G.setVar, if_neg e] at hv; exact F.fresh j b hv
  · obtain ⟨k1, k2, k3⟩ := F.old b hb q1 q2
    have hbs : b < w.heap.size := Nat.lt_of_lt_of_le hb F.size
    refine ⟨fun j => ?_, k2, by rw [alloc_old hbs]; exact k3⟩
    by_cases e : j = i
    · simp only [G.setVar, if_pos e]; intro hh; have := Option.some.inj hh; omega
    · simp only [G.setVar, if_neg e]; exact k1 j

section
variable {P : Program} {X : Cx P} {call : CallF} {ext : ExtF} {n : Nat} {all : List Oper} {g0 : G} {A0 : AH} {w0 : World} {Lf : List Nat}
def Hd (g0 : G) (A0 : AH) (w0 : World) (Lf : List Nat) : World → Prop := fun w' => ∃ g' A', Fut g0 A0 w0 g' A' w' ∧ ∀ i ∈ Lf, A'.ver i = A0.ver i
def Cd (g0 : G) (A0 : AH) (w0 : World) (Lf : List Nat) : Addr → Value → Prop := fun a v => ∀ w', Hd g0 A0 w0 Lf w' → w'.cell? a = some v
/-- slots that are as they were hold what was there at first -/
def oldR (g0 : G) (nw : List Nat) (E : AEnv) (e : Env) : Prop := ∀ t, memL t nw = false → rep g0 (slot E t) (e t)
theorem oldR_put {nw : List Nat} {E : AEnv} {e : Env} {d : Option Tmp} {a : AV} {v : Value} (h : oldR g0 nw E e) : oldR g0 (nwAdd d nw) (aput E d a) (put e d v) := by
  cases d with
  | none => exact h
  | some d =>
    intro t ht
    simp only [nwAdd, memL] at ht
    cases hb : Nat.beq t d <;> simp only [hb, cond_true, cond_false] at ht
    · simp only [aput, Go.W.put, up, slot, hb, cond_false]
      have : t ≠ d := fun e => by rw [e] at hb; simp at hb
      rw [Tr.get_set_ne _ _ _ this]; exact h t ht
    · cases ht
theorem oldR_putOld {nw : List Nat} {E : AEnv} {e : Env} {d : Option Tmp} {a : AV} {v : Value} (h : oldR g0 nw E e) (hv : rep g0 a v) : oldR g0 nw (aput E d a) (put e d v) := by
  cases d with
  | none => exact h
  | some d =>
    intro t ht
    cases hb : Nat.beq t d
    · simp only [aput, Go.W.put, up, slot, hb, cond_false]
      have : t ≠ d := fun e => by rw [e] at hb; simp at hb
      rw [Tr.get_set_ne _ _ _ this]; exact h t ht
    · obtain rfl := Nat.eq_of_beq_eq_true hb
      simp only [aput, Go.W.put, up, slot, hb, cond_true]
      rw [Tr.get_set_same]; exact hv
theorem loadPtr_eq {n : Nat} {E : AEnv} {op : Op} {p : AV} (h : loadPtr n E op = some p) : isLoad op = true ∧ aev n E (loadOp op) = some p ∧ loadOp op ∈ opsOf op := by
  cases op <;> simp only [loadPtr] at h <;> first | cases h | exact ⟨rfl, h, by simp [opsOf, loadOp]⟩
/-- one that reads alone -/
theorem dstill_W (s0 : Sat g0 A0 w0) {nw L L' : List Nat} {E : AEnv} {A : AH} {g : G} {w : World} {op : Op} {r : AV} {nu : Bool} {ρ : Operand → Value} (h : dstill X.T n A0 nw L E A op = some (r, nu, L')) (hL : ∀ i ∈ L', i ∈ Lf)
    (s : Sat g A w) (hle : g0.le g) (he : opR g n E ρ op) (ho : anyNew nw op = false → opR g0 n E ρ op) {K : Value → Prop} (k : ∀ v, rep g r v → (nu = false → rep g0 r v) → K v) : stillW X.T ρ op (Cd g0 A0 w0 Lf) K := by
  unfold dstill at h
  cases hn : anyNew nw op <;> simp only [hn, cond_true, cond_false] at h
  · have old : ∀ {r}, astill X.T n E A0 op = some r → (∀ i o', loadPtr n E op = some (.ptr i o') → i ∈ Lf) → (∀ v, rep g r v → rep g0 r v → K v) → stillW X.T ρ op (Cd g0 A0 w0 Lf) K := by
      intro r hr hl k
      refine astill_S s0 (ho hn) hr (fun p hp b o u hu hw => ?_) (fun v hv => k v (rep_mono hle _ hv) hv)
      rcases hw with ⟨i, o', rfl, hv⟩ | ⟨cs', o', rfl, hv, h1, h2⟩
      · intro w' ⟨g', A', F, hver⟩
        have := F.varc i b hv (hver i (hl i o' hp))
        simp only [World.cell?, this] at hu ⊢
        exact hu
      · intro w' ⟨g', A', F, hver⟩
        have hrep := ho hn _ (loadPtr_eq hp).2.2 _ (loadPtr_eq hp).2.1
        rw [hv] at hrep
        obtain ⟨b', o'', S, L, r', e1, e2, e3⟩ := hrep
        simp only [Value.pointer.injEq, Option.some.injEq, Addr.mk.injEq] at e1
        obtain ⟨rfl, rfl, _⟩ := e1
        have hlen := congrArg List.length e3
        simp at hlen
        rw [F.sigc b S L o e2 (by omega)]; exact hu
    split at h
    · rename_i i o hp
      split at h <;> try cases h
      cases hb : Nat.beq (A.ver i) (A0.ver i) <;> simp only [hb, cond_true, cond_false] at h
      · cases h
      split at h <;> try cases h
      rename_i hr
      refine old hr (fun j o' hj => ?_) (fun v h1 h2 => k v h1 (fun _ => h2))
      rw [hp] at hj
      simp only [Option.some.injEq, AV.ptr.injEq] at hj
      obtain ⟨rfl, _⟩ := hj
      exact hL _ (List.mem_cons_self ..)
    · rename_i hnp
      split at h <;> try cases h
      rename_i hr
      exact old hr (fun j o' hj => absurd hj (hnp j o')) (fun v h1 h2 => k v h1 (fun _ => h2))
  · cases hl : isLoad op <;> simp only [hl, cond_true, cond_false] at h
    · split at h <;> try cases h
      rename_i hr
      exact astill_S s he hr (fun p hp => by rw [(loadPtr_eq hp).1] at hl; cases hl) (fun v hv => k v hv (fun h => by cases h))
    · cases h
theorem anyNew_old {nw : List Nat} {E : AEnv} {e : Env} {op : Op} (h : oldR g0 nw E e) (hn : anyNew nw op = false) : opR g0 n E (ev n e) op := by
  intro o ho a ha
  cases o with
  | tmp t =>
    have ht : memL t nw = false := by
      unfold anyNew at hn
      have := List.any_eq_false.1 hn (.tmp t) ho
      simpa using this
    simp only [aev, Option.some.injEq] at ha; subst ha
    simp only [ev]
    cases Nat.blt t n
    · exact rep_undef g0
    · exact h t ht
  | const v => exact ofV_rep v ha
  | global k => cases ha
  | func f => simp only [aev, Option.some.injEq] at ha; subst ha; exact ⟨[], [], rfl, rfl, rfl⟩
/-- versions at a mark -/
theorem ver_mark {g : G} {A : AH} {w : World} {L : List Nat} (F : Fut g0 A0 w0 g A w) (hL : Lok A0 A L Lf) (hv : verAll A A0 L = true) : ∀ i ∈ Lf, A.ver i = A0.ver i := by
  intro i hi
  rcases hL.2 i hi with k | ⟨k1, k2⟩
  · unfold verAll at hv
    exact Nat.eq_of_beq_eq_true (List.all_eq_true.1 hv i k)
  · have := F.verm i k1
    have := k2 this.1
    omega

/-! pools -/
/-- the variables and their cells -/
def PA (g : G) : PL → List (Nat × Obj) → Prop
  | [], A => A = []
  | (d, i, ob) :: r, A => ∃ x A', A = (d, x) :: A' ∧ repO g ob x ∧ PA g r A'
theorem PA.mono {g g' : G} (h : g.le g') : ∀ {pl : PL} {A : List (Nat × Obj)}, PA g pl A → PA g' pl A
  | [], _, k => k
  | _ :: _, _, ⟨x, A', h1, h2, h3⟩ => ⟨x, A', h1, repO_mono h h2, PA.mono h h3⟩
theorem PA.len {g : G} : ∀ {pl : PL} {A : List (Nat × Obj)}, PA g pl A → A.length = pl.length
  | [], _, k => by simp only [PA] at k; rw [k]; rfl
  | (d, i, ob) :: _, _, ⟨x, A', h1, h2, h3⟩ => by rw [h1]; simp [PA.len h3]
theorem poolX_A {g : G} : ∀ {as : List Nat} {A A' : AH} {pl : PL}, poolX X.T all as A = some (pl, A') → ∃ Al, poolA X.T all as = some Al ∧ PA g pl Al
  | [], A, A', pl, h => by simp only [poolX, Option.some.injEq, Prod.mk.injEq] at h; exact ⟨[], rfl, by rw [← h.1]; rfl⟩
  | a :: as, A, A', pl, h => by
    simp only [poolX] at h
    split at h <;> try cases h
    rename_i o ho
    split at h <;> try cases h
    rename_i t d h1 h2 h3
    split at h <;> try cases h
    rename_i z hz hn
    split at h <;> try cases h
    rename_i l h4
    obtain ⟨vs, hz1, hz2⟩ := zeroA_W (g := g) hz
    obtain ⟨Al, q1, q2⟩ := poolX_A h4
    exact ⟨_, by simp only [poolA, ho, h1, h2, h3, hz1, q1], _, Al, rfl, ⟨vs, rfl, hz2⟩, q2⟩
theorem poolX_F : ∀ {as : List Nat} {A A' : AH} {pl : PL} {g : G} {w : World}, poolX X.T all as A = some (pl, A') → Fut g0 A0 w0 g A w → Fut g0 A0 w0 g A' w ∧ ∀ p ∈ pl, A.get p.2.1 = none
  | [], A, A', pl, g, w, h, F => by
    simp only [poolX, Option.some.injEq, Prod.mk.injEq] at h
    rw [← h.2, ← h.1]; exact ⟨F, fun p hp => by cases hp⟩
  | a :: as, A, A', pl, g, w, h, F => by
    simp only [poolX] at h
    split at h <;> try cases h
    split at h <;> try cases h
    rename_i t d h1 h2 h3
    split at h <;> try cases h
    rename_i z hz hn
    split at h <;> try cases h
    rename_i l h4
    obtain ⟨k1, k2⟩ := poolX_F h4 ((F.pre (o := .cells t 0 z) hn).bump _)
    refine ⟨k1, fun p hp => ?_⟩
    rcases List.mem_cons.1 hp with rfl | hp
    · exact hn
    · have := k2 p hp
      have this : (A.set A.next (.cells t 0 z)).get p.2.1 = none := this
      by_cases e : p.2.1 = A.next
      · rw [e]; exact hn
      · rwa [A.get_set_ne _ e] at this
def vars (g : G) (pl : PL) : List (Option Nat) := pl.map fun p => g.var p.2.1
theorem intact_spec {pl : PL} {A : AH} (h : intact pl A = true) : ∀ p ∈ pl, A.get p.2.1 = some p.2.2 := by
  intro p hp
  have := List.all_eq_true.1 h p hp
  revert this
  cases A.get p.2.1 with
  | none => intro h; cases h
  | some o => intro h; rw [AO.beq_eq h]
theorem allOpt_mk : ∀ {m : Nat} {K : List (Option Nat) → Prop}, (∀ xs, xs.length = m → K xs) → allOpt m K
  | 0, K, h => h [] rfl
  | m + 1, K, h => fun x => allOpt_mk fun xs hl => h (x :: xs) (by simp [hl])
theorem allNat_mk : ∀ {m : Nat} {K : List Nat → Prop}, (∀ xs, xs.length = m → K xs) → allNat m K
  | 0, K, h => h [] rfl
  | m + 1, K, h => fun x => allNat_mk fun xs hl => h (x :: xs) (by simp [hl])
theorem closedP_mk {Inv : List (Option Nat) → World → Prop} : ∀ {r : List (Nat × Obj)} {pre : Nat},
    (∀ r1 d o r2, r = r1 ++ (d, o) :: r2 → ∀ xs ys w, xs.length = pre + r1.length → ys.length = r2.length → Inv (xs ++ none :: ys) w → Inv (xs ++ some w.heap.size :: ys) (w.alloc o)) → closedP pre r Inv
  | [], pre, h => trivial
  | (d, o) :: r, pre, h => by
    refine ⟨allOpt_mk fun xs hx => allOpt_mk fun ys hy w b w' hI hb hw => ?_, closedP_mk fun r1 d' o' r2 hr xs ys w hx hy hI => ?_⟩
    · subst hb; subst hw
      exact h [] d o r rfl xs ys w (by simpa using hx) hy hI
    · exact h ((d, o) :: r1) d' o' r2 (by rw [hr]; rfl) xs ys w (by simp only [List.length_cons]; omega) hy hI
theorem PA_at {g : G} {d : Nat} {o : Obj} {r2 : List (Nat × Obj)} : ∀ {pl : PL} {r1 : List (Nat × Obj)}, PA g pl (r1 ++ (d, o) :: r2) → ∃ p1 i ob p2, pl = p1 ++ (d, i, ob) :: p2 ∧ p1.length = r1.length ∧ repO g ob o
  | [], r1, h => by simp only [PA] at h; cases r1 <;> cases h
  | (d', i', ob') :: pl, [], ⟨x, A', h1, h2, h3⟩ => by
    simp only [List.nil_append, List.cons.injEq, Prod.mk.injEq] at h1
    obtain ⟨⟨rfl, rfl⟩, rfl⟩ := h1
    exact ⟨[], i', ob', pl, rfl, rfl, h2⟩
  | (d', i', ob') :: pl, q :: r1, ⟨x, A', h1, h2, h3⟩ => by
    simp only [List.cons_append, List.cons.injEq] at h1
    obtain ⟨rfl, rfl⟩ := h1
    obtain ⟨p1, i, ob, p2, e1, e2, e3⟩ := PA_at h3
    exact ⟨(d', i', ob') :: p1, i, ob, p2, by rw [e1]; rfl, by simp [e2], e3⟩
theorem distI_at {d i : Nat} {ob : AO} {p2 : PL} : ∀ {p1 : PL}, distI (p1 ++ (d, i, ob) :: p2) = true → (∀ p ∈ p1, p.2.1 ≠ i) ∧ ∀ p ∈ p2, p.2.1 ≠ i
  | [], h => by
    simp only [List.nil_append, distI, Bool.and_eq_true, Bool.not_eq_true'] at h
    refine ⟨fun p hp => (by cases hp), fun p hp e => ?_⟩
    have : ∀ (l : List Nat) (x : Nat), memL x l = false → x ∉ l := by
      intro l x
      induction l with
      | nil => simp
      | cons y l ih =>
        intro hm
        simp only [memL] at hm
        cases hb : Nat.beq x y <;> simp only [hb, cond_true, cond_false] at hm
        · have : x ≠ y := fun e => by rw [e] at hb; simp at hb
          simp [this, ih hm]
        · cases hm
    exact this _ _ h.1 (List.mem_map.2 ⟨p, hp, e⟩)
  | q :: p1, h => by
    simp only [List.cons_append, distI, Bool.and_eq_true, Bool.not_eq_true'] at h
    obtain ⟨k1, k2⟩ := distI_at h.2
    refine ⟨fun p hp => ?_, k2⟩
    rcases List.mem_cons.1 hp with rfl | hp
    · intro e
      have : ∀ (l : List Nat) (x : Nat), memL x l = false → x ∉ l := by
        intro l x
        induction l with
        | nil => simp
        | cons y l ih =>
          intro hm
          simp only [memL] at hm
          cases hb : Nat.beq x y <;> simp only [hb, cond_true, cond_false] at hm
          · have : x ≠ y := fun e => by rw [e] at hb; simp at hb
            simp [this, ih hm]
          · cases hm
      exact this _ _ h.1 (by rw [e]; simp)
    · exact k1 p hp
theorem envP_off {t : Nat} : ∀ {A : List (Nat × Obj)} {xs : List (Option Nat)} {e : Env}, (∀ p ∈ A, p.1 ≠ t) → envP A xs e t = e t
  | [], _, _, _ => rfl
  | _ :: _, [], _, _ => rfl
  | (d, o) :: r, x :: xs, e, h => by
    simp only [envP, up]
    have : Nat.beq t d = false := by
      cases hb : Nat.beq t d with
      | false => rfl
      | true => exact absurd (Nat.eq_of_beq_eq_true hb).symm (h (d, o) (List.mem_cons_self ..))
    rw [this]
    exact envP_off (fun p hp => h p (List.mem_cons_of_mem _ hp))
theorem PA_dst {g : G} : ∀ {pl : PL} {A : List (Nat × Obj)}, PA g pl A → A.map (·.1) = pl.map (·.1)
  | [], _, h => by simp only [PA] at h; rw [h]; rfl
  | (d, i, ob) :: pl, _, ⟨x, A', h1, _, h3⟩ => by rw [h1]; simp [PA_dst h3]
theorem memL_mem {x : Nat} : ∀ {l : List Nat}, memL x l = false → x ∉ l
  | [], _ => by simp
  | y :: l, h => by
    simp only [memL] at h
    cases hb : Nat.beq x y <;> simp only [hb, cond_true, cond_false] at h
    · have : x ≠ y := fun e => by rw [e] at hb; simp at hb
      simp [this, memL_mem h]
    · cases h
/-- operands beside the pool -/
theorem pool_ops {g : G} {pl : PL} {Al : List (Nat × Obj)} {E : AEnv} {e : Env} {op : Op} {xs : List (Option Nat)} (hPA : PA g0 pl Al) (hnp : noPool pl op = true) (he : opR g n E (ev n e) op) : opR g n E (ev n (envP Al xs e)) op := by
  intro o ho a ha
  have := he o ho a ha
  cases o with
  | tmp t =>
    have ht := List.all_eq_true.1 hnp (.tmp t) ho
    simp only [Bool.not_eq_true'] at ht
    have hoff : ∀ p ∈ Al, p.1 ≠ t := fun p hp e => by
      apply memL_mem ht
      rw [← PA_dst hPA, ← e]
      exact List.mem_map_of_mem hp
    simp only [ev, envP_off hoff] at this ⊢
    exact this
  | _ => exact this
end
end Go.X

namespace Go.X
open Go Go.W
set_option linter.unusedSimpArgs false
set_option linter.unusedVariables false

section
variable {P : Program} {X : Cx P} {call : CallF} {ext : ExtF} {n : Nat} {all : List Oper} {g0 : G} {A0 : AH} {w0 : World} {Lf : List Nat}
def InvP (g0 : G) (A0 : AH) (w0 : World) (pl : PL) (A : AH) (E : AEnv) (e : Env) : List (Option Nat) → World → Prop :=
  fun ys w' => ∃ g', Fut g0 A0 w0 g' A w' ∧ ys = vars g' pl ∧ envR g' E e
theorem split_at {α : Type} {f : α → Option Nat} {x : α} : ∀ {p1 p2 : List α} {us vs : List (Option Nat)}, us.length = p1.length → us ++ none :: vs = (p1 ++ x :: p2).map f → us = p1.map f ∧ f x = none ∧ vs = p2.map f
  | [], p2, [], vs, _, h => by
    simp only [List.nil_append, List.map_cons, List.cons.injEq] at h
    exact ⟨rfl, h.1.symm, h.2⟩
  | [], _, _ :: _, _, h, _ => by simp at h
  | _ :: _, _, [], _, h, _ => by simp at h
  | q :: p1, p2, u :: us, vs, hl, h => by
    simp only [List.cons_append, List.map_cons, List.cons.injEq] at h
    obtain ⟨h1, h2, h3⟩ := split_at (by simpa using hl) h.2
    exact ⟨by rw [List.map_cons, ← h1, ← h.1], h2, h3⟩
theorem inv_closed (s0 : Sat g0 A0 w0) {pl : PL} {Al : List (Nat × Obj)} (hPA : PA g0 pl Al) (hd : distI pl = true) (h0 : ∀ p ∈ pl, A0.get p.2.1 = none) {A : AH} {E : AEnv} {e : Env} (hi : intact pl A = true) : closedP 0 Al (InvP g0 A0 w0 pl A E e) := by
  refine closedP_mk fun r1 d o r2 hr xs ys w hx hy hI => ?_
  rw [hr] at hPA
  obtain ⟨p1, i, ob, p2, rfl, hp1, hob⟩ := PA_at hPA
  obtain ⟨g', F, hv, he⟩ := hI
  obtain ⟨e1, e2, e3⟩ := split_at (f := fun p : Nat × Nat × AO => g'.var p.2.1) (by omega) hv
  have hmem : (d, i, ob) ∈ p1 ++ (d, i, ob) :: p2 := by simp
  obtain ⟨k1, k2⟩ := distI_at hd
  have F' := F.lay s0 (h0 _ hmem) (intact_spec hi _ hmem) e2 (repO_mono F.le hob)
  refine ⟨_, F', ?_, envR_mono (le_setVar e2) he⟩
  unfold vars
  rw [List.map_append, List.map_cons]
  congr 1
  · rw [e1]
    refine List.map_congr_left fun p hp => ?_
    simp only [G.setVar, if_neg (k1 p hp)]
  · simp only [G.setVar, if_true, List.cons.injEq, true_and]
    rw [e3]
    refine List.map_congr_left fun p hp => ?_
    simp only [if_neg (k2 p hp)]
  where
  le_setVar {g : G} {i b : Nat} (hn : g.var i = none) : g.le (g.setVar i b) := by
    refine ⟨fun j b' hv => ?_, fun b S L hs => ⟨[], by simp [G.setVar, hs]⟩, fun _ => Nat.le_refl _, fun _ _ _ ht => ⟨ht, rfl⟩⟩
    have : j ≠ i := fun e => by rw [e, hn] at hv; cases hv
    simp [G.setVar, this, hv]
theorem achain_W (hc : CallOk P call) (hx : ExtOk P ext) (hcV : CallV call) (hxV : ExtV ext) (s0 : Sat g0 A0 w0) {pl : PL} {Al : List (Nat × Obj)} (hPA : PA g0 pl Al) (hd : distI pl = true) (h0 : ∀ p ∈ pl, A0.get p.2.1 = none)
    {K : Env → World → Prop} {Ef : AEnv} {Af : AH} {L' nwf : List Nat} (hLf : Lok A0 Af L' Lf)
    (hK : ∀ g' e' w' bs, Fut g0 A0 w0 g' Af w' → vars g' pl = List.map some bs → envR g' Ef e' → oldR g0 nwf Ef e' → K (envP Al (bs.map some) e') w') :
    ∀ {t : OT} {nw L : List Nat} {E : AEnv} {A : AH}, achain X call ext n all A0 pl t nw L E A = some (Ef, Af, L', nwf) → ∀ {g : G} {e : Env} {w : World}, Fut g0 A0 w0 g A w → envR g E e → oldR g0 nw E e → intact pl A = true → (∀ i ∈ Lf, A.ver i = A0.ver i) →
      poolW X.T X.ok n all (Cd g0 A0 w0 Lf) (Hd g0 A0 w0 Lf) Al K t (vars g pl) e w
  | .done, nw, L, E, A, h, g, e, w, F, he, hold, hi, hver => by
    simp only [achain, Option.some.injEq, Prod.mk.injEq] at h
    obtain ⟨rfl, rfl, rfl, rfl⟩ := h
    refine ⟨InvP g0 A0 w0 pl A E e, ⟨g, F, rfl, he⟩, allOpt_mk fun ys _ w' ⟨g', F', _, _⟩ => ⟨g', A, F', hver⟩, inv_closed s0 hPA hd h0 hi, allNat_mk fun bs _ w' ⟨g', F', hv, he'⟩ => hK g' e w' bs F' hv.symm he' hold⟩
  | .step i b rest, nw, L, E, A, h, g, e, w, F, he, hold, hi, hver => by
    have hLok := fun {t nw L E A} (h : achain X call ext n all A0 pl t nw L E A = some (Ef, Af, L', nwf)) => (achain_L hcV hxV h).1.trans (achain_L hcV hxV h).2 hLf
    unfold achain at h
    unfold poolW
    split at h
    · cases h
    rename_i o ho
    rw [ho]
    simp only
    cases hg : (o.guard.isNone && noPool pl o.op) <;> simp only [hg, cond_true, cond_false] at h
    · cases h
    simp only [Bool.and_eq_true, Option.isNone_iff_eq_none] at hg
    rw [hg.1]
    simp only
    cases hs : isStill X.T o.op <;> simp only [hs, cond_true, cond_false] at h ⊢
    · split at h <;> try cases h
      rename_i r A' ha
      cases hv : (verAll A' A0 L && intact pl A') <;> simp only [hv, cond_true, cond_false] at h
      · cases h
      simp only [Bool.and_eq_true] at hv
      refine ⟨InvP g0 A0 w0 pl A E e, ⟨g, F, rfl, he⟩, allOpt_mk fun ys _ w' ⟨g', F', _, _⟩ => ⟨g', A, F', hver⟩, inv_closed s0 hPA hd h0 hi, allOpt_mk fun ys _ w' ⟨g', F', hys, he'⟩ => ?_⟩
      refine aop_W hc hx F'.sat (pool_ops hPA hg.2 (he'.opR _)) ha _ _ _ (fun g'' v w'' F'' hr => ?_)
      have F2 := F'.trans s0 F''
      have key := achain_W hc hx hcV hxV s0 hPA hd h0 hLf hK h F2 (envR_put (envR_mono F''.le he') hr) (oldR_put hold) hv.2 (ver_mark F2 (hLok h) hv.1)
      have hvars : vars g'' pl = ys := by
        rw [hys]
        refine List.map_congr_left fun p hp => ?_
        cases hgv : g'.var p.2.1 with
        | some b => exact F''.le.var _ _ hgv
        | none =>
          cases hg2 : g''.var p.2.1 with
          | none => rfl
          | some b =>
            rcases F''.fresh _ _ hg2 with h1 | h1
            · rw [hgv] at h1; cases h1
            · rw [intact_spec hi p hp] at h1; cases h1
      rw [hvars] at key
      exact key
    · split at h
      · rename_i r nu L1 hds
        have hlk := dstill_L hds (hLok h)
        refine dstill_W s0 hds (fun i hi => (hLok h).1 i hi) F.sat F.le (pool_ops hPA hg.2 (he.opR _)) (fun hn => pool_ops hPA hg.2 (anyNew_old hold hn)) (fun v hr hr0 => ?_)
        refine achain_W hc hx hcV hxV s0 hPA hd h0 hLf hK h F (envR_put he hr) ?_ hi hver
        cases nu
        · exact oldR_putOld hold (hr0 rfl)
        · exact oldR_put hold
      · cases h
  | .both _ _, _, _, _, _, h, _, _, _, _, _, _, _, _ => by simp [achain] at h
  | .pool _ _ _, _, _, _, _, h, _, _, _, _, _, _, _, _ => by simp [achain] at h
theorem putP_rep {g : G} {e : Env} {E : AEnv} (he : envR g E e) : ∀ {pl : PL} {Al : List (Nat × Obj)} {bs : List Nat}, Al.map (·.1) = pl.map (·.1) → vars g pl = bs.map some → envR g (putP pl E) (envP Al (bs.map some) e)
  | [], Al, bs, h, hv => by
    have : Al = [] := by simpa using h
    subst this; exact he
  | (d, i, ob) :: pl, [], bs, h, hv => by simp at h
  | (d, i, ob) :: pl, (d', o) :: Al, [], h, hv => by simp [vars] at hv
  | (d, i, ob) :: pl, (d', o) :: Al, b :: bs, h, hv => by
    simp only [List.map_cons, List.cons.injEq] at h
    obtain ⟨rfl, h⟩ := h
    simp only [vars, List.map_cons, List.cons.injEq] at hv
    exact envR_put (d := some d') (putP_rep he h hv.2) ⟨b, hv.1, rfl⟩
theorem putP_old {e : Env} {E : AEnv} {nw : List Nat} (he : oldR g0 nw E e) : ∀ {pl : PL} {Al : List (Nat × Obj)} {bs : List (Option Nat)}, Al.map (·.1) = pl.map (·.1) → oldR g0 (pl.map (·.1) ++ nw) (putP pl E) (envP Al bs e) := by
  intro pl Al bs h t ht
  have hm : ∀ (l : List Nat), memL t (l ++ nw) = false → memL t l = false ∧ memL t nw = false := by
    intro l
    induction l with
    | nil => intro h; exact ⟨rfl, h⟩
    | cons x l ih =>
      intro h
      simp only [List.cons_append, memL] at h ⊢
      cases hb : Nat.beq t x <;> simp only [hb, cond_true, cond_false] at h ⊢
      · exact ih h
      · cases h
  obtain ⟨h1, h2⟩ := hm _ ht
  have h3 := memL_mem h1
  have e1 : envP Al bs e t = e t := envP_off fun p hp hpt => h3 (by rw [← h, ← hpt]; exact List.mem_map_of_mem hp)
  have e2 : slot (putP pl E) t = slot E t := by
    clear h e1 ht h1
    induction pl with
    | nil => rfl
    | cons p pl ih =>
      obtain ⟨d, i, ob⟩ := p
      simp only [List.map_cons, List.mem_cons, not_or] at h3
      simp only [putP, slot, Tr.get_set_ne _ _ _ h3.1]
      exact ih h3.2
  rw [e1, e2]; exact he t h2
theorem adraw_W (hc : CallOk P call) (hx : ExtOk P ext) (hcV : CallV call) (hxV : ExtV ext) (s0 : Sat g0 A0 w0) {Q : Post} {ds : List Deferred} {Ef : AEnv} {Af : AH}
    (hQ : ∀ g' e' w', Fut g0 A0 w0 g' Af w' → envR g' Ef e' → Q .normal e' ds w') :
    ∀ {t : OT} {nw L : List Nat} {E : AEnv} {A : AH}, adraw X call ext n all A0 t nw L E A = some (Ef, Af, Lf) → ∀ {g : G} {e : Env} {w : World}, Fut g0 A0 w0 g A w → envR g E e → oldR g0 nw E e →
      drawW X.T X.ok n all (Cd g0 A0 w0 Lf) (Hd g0 A0 w0 Lf) Q t e ds w
  | .done, nw, L, E, A, h, g, e, w, F, he, hold => by
    simp only [adraw, Option.some.injEq, Prod.mk.injEq] at h
    obtain ⟨rfl, rfl, rfl⟩ := h
    exact hQ g e w F he
  | .both x y, nw, L, E, A, h, g, e, w, F, he, hold => by
    unfold adraw at h
    split at h
    · rename_i E1 A1 L1 h1
      split at h
      · rename_i E2 A2 L2 h2
        cases hb : (Tr.beq AV.beq E1 E2 && AH.beq A1 A2 && natsBeq L1 L2) <;> simp only [hb, cond_true, cond_false] at h
        · cases h
        · simp only [Option.some.injEq, Prod.mk.injEq] at h
          simp only [Bool.and_eq_true] at hb
          have e1 := Tr.beq_eq (fun _ _ => AV.beq_eq) hb.1.1
          have e2 := AH.beq_eq hb.1.2
          have e3 := natsBeq_eq hb.2
          rw [← e1, ← e2, ← e3, h.1, h.2.1, h.2.2] at h2
          rw [h.1, h.2.1, h.2.2] at h1
          exact ⟨adraw_W hc hx hcV hxV s0 hQ h1 F he hold, adraw_W hc hx hcV hxV s0 hQ h2 F he hold⟩
      · cases h
    · cases h
  | .step i b rest, nw, L, E, A, h, g, e, w, F, he, hold => by
    unfold adraw at h
    unfold drawW
    split at h
    · cases h
    rename_i o ho
    rw [ho]
    simp only
    split at h
    · cases h
    · rename_i hg
      exact aguard_W hg (fun _ _ d _ _ => he d) (fun h => by cases h) (fun _ => adraw_W hc hx hcV hxV s0 hQ h F (envR_put he (rep_undef g)) (oldR_put hold))
    · rename_i hg
      refine aguard_W hg (fun _ _ d _ _ => he d) (fun _ => ?_) (fun h => by cases h)
      cases hs : isStill X.T o.op <;> simp only [hs, cond_true, cond_false] at h ⊢
      · split at h <;> try cases h
        rename_i r A' ha
        cases hv : (!b || verAll A' A0 L) <;> simp only [hv, cond_true, cond_false] at h
        · cases h
        refine aop_W hc hx F.sat (he.opR _) ha _ _ _ (fun g' v w' F' hr => ?_)
        have F2 := F.trans s0 F'
        have key := adraw_W hc hx hcV hxV s0 hQ h F2 (envR_put (envR_mono F'.le he) hr) (oldR_put hold)
        cases b
        · exact key
        · refine ⟨⟨g', A', F2, ver_mark F2 (adraw_L hcV hxV h).1 ?_⟩, key⟩
          simpa using hv
      · split at h
        · rename_i r nu L1 hds
          refine dstill_W s0 hds (fun i hi => (adraw_L hcV hxV h).1.1 i hi) F.sat F.le (he.opR _) (fun hn => anyNew_old hold hn) (fun v hr hr0 => ?_)
          refine adraw_W hc hx hcV hxV s0 hQ h F (envR_put he hr) ?_
          cases nu
          · exact oldR_putOld hold (hr0 rfl)
          · exact oldR_put hold
        · cases h
  | .pool as t r, nw, L, E, A, h, g, e, w, F, he, hold => by
    unfold adraw at h
    split at h
    · rename_i pl A1 hp
      cases hb : (distI pl && intact pl A1 && verAll A1 A0 L) <;> simp only [hb, cond_true, cond_false] at h
      · cases h
      simp only [Bool.and_eq_true] at hb
      split at h
      · rename_i E' A' L' nw' hch
        obtain ⟨Al, q1, q2⟩ := poolX_A (g := g0) hp
        obtain ⟨F1, hfresh⟩ := poolX_F hp F
        have h0 : ∀ p ∈ pl, A0.get p.2.1 = none := fun p hpp => by
          cases h0 : A0.get p.2.1 with
          | none => rfl
          | some ob => exact absurd (hfresh p hpp) (F.verm _ (by rw [h0]; simp)).1
        have hLr := (adraw_L hcV hxV h).1
        have hLch := achain_L hcV hxV hch
        unfold drawW
        rw [q1]
        simp only
        have hvn : vars g pl = Al.map fun _ => none := by
          have : vars g pl = pl.map fun _ => none := List.map_congr_left fun p hpp => by
            cases hv : g.var p.2.1 with
            | none => rfl
            | some b => obtain ⟨ob, x, hg, _⟩ := F.sat.var _ _ hv; rw [hfresh p hpp] at hg; cases hg
          rw [this]
          have hl := PA.len q2
          clear this q1 q2 h0 hfresh F1 hb hp h hch hLr hLch
          induction pl generalizing Al with
          | nil => have : Al = [] := List.length_eq_zero_iff.1 hl; subst this; rfl
          | cons p pl ih => cases Al with
            | nil => simp at hl
            | cons a Al => simp only [List.map_cons, List.cons.injEq, true_and]; exact ih _ (by simpa using hl)
        rw [← hvn]
        refine achain_W hc hx hcV hxV s0 q2 hb.1.1 h0 hLr (fun g' e' w' bs F' hv he' ho' => ?_) hch F1 he hold hb.1.2 (ver_mark F1 (hLch.1.trans hLch.2 hLr) hb.2)
        exact adraw_W hc hx hcV hxV s0 hQ h F' (putP_rep he' (PA_dst q2) hv) (putP_old ho' (PA_dst q2))
      · cases h
    · cases h
end
end Go.X

namespace Go.X
open Go Go.W
set_option linter.unusedSimpArgs false
set_option linter.unusedVariables false

/-! walking over a map of one entry at the most -/
section
variable {P : Program} {w : World} {r mb : Nat} {clock : Nat}
theorem run_next_none {ty : TypeId} {last : Nat} (hr : w.heap[r]? = some (.mapIter (some mb) clock #[] last)) (hm : w.heap[mb]? = some (.map #[] clock)) :
    (Instr.next (.pointer (some ⟨r, 0, none⟩)) false ty).run P w = .ok (.tuple #[.bool false]) w := by
  simp [Instr.next, getObj, Sem.run, hr, hm, Sem.run_bind, Result.andThen, Question.forced]
theorem run_next_one {ty : TypeId} {e : MapEntry} (hr : w.heap[r]? = some (.mapIter (some mb) clock #[] clock)) (hm : w.heap[mb]? = some (.map #[e] clock)) (hb : e.born < clock) :
    (Instr.next (.pointer (some ⟨r, 0, none⟩)) false ty).run P w = .ok (.tuple #[.bool true, e.key, e.val]) { w with heap := w.heap.setIfInBounds r (.mapIter (some mb) clock #[e.born] clock) } := by
  have h2 : ¬ clock ≤ e.born := by omega
  simp [Instr.next, getObj, setObj, Sem.run, hr, hm, Sem.run_bind, Result.andThen, Question.forced, hb, h2]
theorem run_next_over {ty : TypeId} {e : MapEntry} (hr : w.heap[r]? = some (.mapIter (some mb) clock #[e.born] clock)) (hm : w.heap[mb]? = some (.map #[e] clock)) (hb : e.born < clock) :
    (Instr.next (.pointer (some ⟨r, 0, none⟩)) false ty).run P w = .ok (.tuple #[.bool false]) w := by
  have h2 : ¬ clock ≤ e.born := by omega
  simp [Instr.next, getObj, setObj, Sem.run, hr, hm, Sem.run_bind, Result.andThen, Question.forced, hb, h2]
theorem run_entry_one {e : MapEntry} (hr : w.heap[r]? = some (.mapIter (some mb) clock #[e.born] clock)) (hm : w.heap[mb]? = some (.map #[e] clock)) :
    (Instr.entry (.pointer (some ⟨r, 0, none⟩))).run P w = .ok (.tuple #[e.key, e.val]) w := by
  simp [Instr.entry, getObj, setObj, Sem.run, hr, hm, Sem.run_bind, Result.andThen]
theorem run_range_one {es : Array MapEntry} {T : TT P} {t : TypeId} {a b : TypeId} (ht : T.und t = some (.map a b)) (hm : w.heap[mb]? = some (.map es clock)) :
    (Instr.range t (.map (some mb))).run P w = .ok (.pointer (some ⟨w.heap.size, 0, none⟩)) (w.alloc (.mapIter (some mb) clock #[] clock)) := by
  have h := run_underlying (T.und_ok _ _ ht)
  simp [Instr.range, getObj, Sem.run, hm, Sem.run_bind, Result.andThen, h, run_newObj_alloc]
end

/-! steps within a fence that asks nothing -/
def Fw (ro : Option Nat) : Fence := { Fence.wide with round := ro }
section
variable {P : Program} {ro : Option Nat} {m n : Nat} {ops : Array Oper}
theorem calls_Fw {f : FuncId} {args : Array Value} {w : World} {R : Ending → World → Prop} (h : Calls P f args w R) : CallsIn (Fw ro) m P f args w R := callsIn_wide.2 h
theorem uponI_of_res {o : Oper} {a : Act} {next : Act → World → Prop} {Q : Exit → Act → World → Prop} {r : Result Next}
    (h : res P r (fun v w' => next (a.put o.dst v) w') (fun d w' => next ({ a with defers := d :: a.defers }.put o.dst undef) w') (fun ch w' => Q (.panic ch) a w')) : o.uponIn (Fw ro) m P a next Q r := by
  unfold res at h
  split at h
  · exact h
  · exact h
  · exact h
  · constructor
    · intro hh; exact absurd hh (by simp [Fw, Fence.wide])
    · refine calls_Fw (calls_mono h fun e w' he => ?_)
      cases e <;> simp at he ⊢ <;> exact he
  · exact h
  · exact h.elim
theorem wpI_of {o : Oper} {a : Act} {w : World} {next : Act → World → Prop} {Q : Exit → Act → World → Prop} (hd : ∀ c, o.op ≠ .defer c)
    (h : res P ((execOp a.eval o).run P w) (fun v w' => next (a.put o.dst v) w') (fun d w' => next ({ a with defers := d :: a.defers }.put o.dst undef) w') (fun ch w' => Q (.panic ch) a w')) : o.wpIn (Fw ro) m P a w next Q :=
  ⟨fun _ _ => trivial, by rw [Oper.semAt_eq _ _ _ hd]; exact uponI_of_res h⟩
def noDefer (o : Oper) : Bool := match o.op with | .defer _ => false | _ => true
theorem noDefer_ne {o : Oper} (h : noDefer o = true) : ∀ c, o.op ≠ .defer c := fun c e => by unfold noDefer at h; rw [e] at h; cases h
theorem regW_soundI {T : TT P} {ok : Nat → Bool} (hok : ∀ f, ok f = true → enters P f) {Q : Post} :
    ∀ (l : List Oper) (e : Env) (ds : List Deferred) (w : World), l.all noDefer = true → regW T ok n ops.toList Q l e ds w → wpListIn (Fw ro) m P ops (liftQ n Q) l (act n e ds) w
  | [], e, ds, w, _, h => ⟨e, ds, rfl, h⟩
  | o :: rest, e, ds, w, hnd, h => by
    simp only [List.all_cons, Bool.and_eq_true] at hnd
    unfold regW at h
    unfold wpListIn
    rcases guardW_sound (ds := ds) h with ⟨hw, h⟩ | ⟨hw, h⟩
    · rw [if_pos hw]
      refine wpI_of (noDefer_ne hnd.1) ?_
      rw [act_eval]
      have := opW_sound hok (o := o) h
      refine regW_sound.res_mono this (fun v w' k => ?_) (fun d w' k => ?_) (fun ch w' k => ⟨e, ds, rfl, k⟩)
      · rw [act_put]; exact regW_soundI hok rest _ ds w' hnd.2 k
      · have := regW_soundI hok rest _ (d :: ds) w' hnd.2 k
        have e1 : ({ act n e ds with defers := d :: (act n e ds).defers } : Act) = act n e (d :: ds) := rfl
        rw [e1, act_put]; exact this
    · rw [if_neg (by rw [hw]; simp), act_put]
      exact ⟨fun _ _ => trivial, regW_soundI hok rest _ ds w hnd.2 h⟩
theorem wantedI {o : Oper} {f : Nat → Option Bool} (h : o.guard = none) : Region.wanted o f = true := by unfold Region.wanted; rw [h]
theorem stepI {l : List Oper} {d : Option Tmp} {op : Op} {k : List (Option Tmp × Op)} {Q : Exit → Act → World → Prop} {e : Env} {ds : List Deferred} {w w' : World} {v : Value} (hl : opsL l ((d, op) :: k)) (hd : ∀ c, op ≠ .defer c)
    (hrun : ∀ o : Oper, o.op = op → (execOp (ev n e) o).run P w = .ok (.value v) w') (h : ∀ r, opsL r k → wpListIn (Fw ro) m P ops Q r (act n (put e d v) ds) w') : wpListIn (Fw ro) m P ops Q l (act n e ds) w := by
  obtain ⟨o, r, rfl, e1, e2, e3, e4⟩ := opsL_cons hl
  unfold wpListIn
  rw [if_pos (wantedI e3)]
  refine wpI_of (by rw [e2]; exact hd) ?_
  rw [act_eval, hrun o e2]
  show wpListIn (Fw ro) m P ops Q r ((act n e ds).put o.dst v) w'
  rw [act_put, e1]
  exact h r e4
/-- a call of what is yielded to -/
theorem stepRound {l : List Oper} {d : Option Tmp} {c : Call} {x y : Operand} {k : List (Option Tmp × Op)} {Q : Exit → Act → World → Prop} {e : Env} {ds : List Deferred} {w : World} {b : Nat} {f : FuncId} {tmps : Array Value} {assign body : Code} (hl : opsL l ((d, .call c) :: k))
    (hc : c.callee = .value x) (ha : c.args = #[y]) (hv : ev n e x = .func (.yield b) #[] #[]) (hy : (Instr.yield b #[ev n e y]).run P w = .ok (.round b f tmps assign body) w) {R : Ending → World → Prop} (hR : RoundIn (Fw ro) (m - 1) P b f tmps assign body w R)
    (h : ∀ en w', R en w' → ∃ v, en = .returned v ∧ ∀ r, opsL r k → wpListIn (Fw ro) m P ops Q r (act n (put e d v) ds) w') : wpListIn (Fw ro) m P ops Q l (act n e ds) w := by
  obtain ⟨o, r, rfl, e1, e2, e3, e4⟩ := opsL_cons hl
  unfold wpListIn
  rw [if_pos (wantedI e3)]
  have hrun : (execOp (act n e ds).eval o).run P w = .ok (.round b f tmps assign body) w := by
    obtain ⟨dst, op, ty, pos, after, guard⟩ := o
    simp only at e2; subst e2
    obtain ⟨callee, args, ats⟩ := c
    simp only at hc ha; subst hc; subst ha
    rw [act_eval]
    have ey : Array.map (ev n e) #[y] = #[ev n e y] := by simp
    simp only [execOp, resolve, Deferred.ofValue, hv, pure_bind, invoke, ey]
    simpa using hy
  refine ⟨fun _ _ => trivial, ?_⟩
  rw [Oper.semAt_eq _ _ _ (by rw [e2]; intro c h; cases h), hrun]
  constructor
  · intro hh; exact absurd hh (by simp [Fw, Fence.wide])
  refine hR.mono ?_
  intro en w' hen
  obtain ⟨v, rfl, hk⟩ := h en w' hen
  show wpListIn (Fw ro) m P ops Q r ((act n e ds).put o.dst v) w'
  rw [act_put, e1]
  exact hk r e4
end
end Go.X

namespace Go.X
open Go Go.W
set_option linter.unusedSimpArgs false
set_option linter.unusedVariables false

section
variable {P : Program} {ro : Option Nat} {m n : Nat} {ops : Array Oper}
theorem stepW {T : TT P} {ok : Nat → Bool} (hok : ∀ f, ok f = true → enters P f) {l : List Oper} {d : Option Tmp} {op : Op} {k : List (Option Tmp × Op)} {Q : Exit → Act → World → Prop} {e : Env} {ds : List Deferred} {w : World} (hl : opsL l ((d, op) :: k)) (hd : ∀ c, op ≠ .defer c)
    (h : ∀ ty, opW T ok (ev n e) op ty w (fun v w' => ∀ r, opsL r k → wpListIn (Fw ro) m P ops Q r (act n (put e d v) ds) w') (fun _ _ => False) (fun ch w' => Q (.panic ch) (act n e ds) w')) : wpListIn (Fw ro) m P ops Q l (act n e ds) w := by
  obtain ⟨o, r, rfl, e1, e2, e3, e4⟩ := opsL_cons hl
  unfold wpListIn
  rw [if_pos (wantedI e3)]
  refine wpI_of (by rw [e2]; exact hd) ?_
  rw [act_eval]
  have := opW_sound hok (o := o) (by rw [e2]; exact h o.type)
  refine regW_sound.res_mono this (fun v w' k => ?_) (fun d w' k => k.elim) (fun ch w' k => k)
  rw [act_put, e1]
  exact k r e4
end
/-- new blocks that are not tracked -/
theorem Fut.ext {g : G} {A : AH} {w w' : World} (s : Sat g A w) (h : ∀ b, b < w.heap.size → w'.heap[b]? = w.heap[b]?) (hs : w.heap.size ≤ w'.heap.size) (he : w'.os = w.os ∧ w'.output = w.output) : Fut g A w g A w' := by
  have old : ∀ j b, g.var j = some b → b < w.heap.size := fun j b hv => by
    obtain ⟨o, x, _, hh, _⟩ := s.var j b hv; exact heap_lt hh
  have olds : ∀ b S L, g.sig b = some (S, L) → b < w.heap.size := fun b S L hs => by
    obtain ⟨vs, e, fz, hh, _⟩ := s.sig b S L hs; exact heap_lt hh
  refine ⟨G.le.refl g, ⟨fun i b hv => ?_, fun b S L hb => ?_, s.inj, s.dis, s.tok, fun i b ht => Nat.lt_of_lt_of_le (s.tsig i b ht) hs, s.stamp⟩, fun b S L i hb hi => ?_, fun i b hv _ => h b (old i b hv), fun _ h => ⟨h, Nat.le_refl _⟩, fun _ _ h => .inl h, he, hs, fun b hb h1 h2 => ⟨h1, h2, h b hb⟩⟩
  · rw [h b (old i b hv)]; exact s.var i b hv
  · rw [h b (olds b S L hb)]; exact s.sig b S L hb
  · simp only [World.cell?, h b (olds b S L hb)]
theorem Sat.untracked {g : G} {A : AH} {w : World} (s : Sat g A w) {b : Nat} (h : w.heap.size ≤ b) : (∀ i, g.var i ≠ some b) ∧ g.sig b = none := by
  constructor
  · intro i hv
    obtain ⟨o, x, _, hh, _⟩ := s.var i b hv
    have := heap_lt hh; omega
  · cases hs : g.sig b with
    | none => rfl
    | some p =>
      obtain ⟨vs, e, fz, hh, _⟩ := s.sig b p.1 p.2 hs
      have := heap_lt hh; omega
def loop1 (r1 r2 r3 : Array Oper) : Code := .seq (.region 1 r1 false) (.seq (.cond (.tmp 7) .skip (.exit 0)) (.block 1 (.seq (.region 2 r2 false) (.seq (.region 3 r3 false) (.cond (.tmp 13) .ret .skip)))))
/-- up to the loop -/
theorem keys_enter {P : Program} {X : Cx P} {f : FuncId} {tm : TypeId} (K : KeysIt P f tm) {g : G} {A : AH} {w : World} {i mi bm : Nat} {yv : Value} {es : List MapEntry} {clock : Nat} {ka kb : TypeId} (s : Sat g A w) (hl : aload X.T A tm (.ptr i 0) = some (.map (some mi)))
    (hbm : g.var i = some bm) (hmi : ∀ b, g.var mi = some b → w.heap[b]? = some (.map es.toArray clock)) (ht : X.T.und tm = some (.map ka kb)) {R : Ending → World → Prop}
    (h : ∀ mb e, g.var mi = some mb → e 0 = yv → e 5 = .pointer (some ⟨w.heap.size, 0, none⟩) → (Code.loop (loop1 K.r1 K.r2 K.r3)).wpIn (Fw none) 0 P (fun ex a w' => (ex = .exit 0 ∨ ex = .ret) ∧ a.defers = [] ∧ R (.returned (.tuple #[])) w') (act 14 e []) (w.alloc (.mapIter (some mb) clock #[] clock))) :
    Calls P f #[yv, .pointer (some ⟨bm, 0, none⟩)] w R := by
  refine callsIn_wide.1 (callsIn_of_wp (F := Fence.wide) (n := 0) K.hf K.hb trivial ?_)
  have ea := act_args [yv, .pointer (some ⟨bm, 0, none⟩)] 14 (by simp)
  rw [K.hn]
  rw [show (#[yv, Value.pointer (some ⟨bm, 0, none⟩)] ++ Array.replicate (14 - (#[yv, Value.pointer (some ⟨bm, 0, none⟩)]).size) undef) = [yv, Value.pointer (some ⟨bm, 0, none⟩)].toArray ++ Array.replicate (14 - [yv, Value.pointer (some ⟨bm, 0, none⟩)].toArray.size) undef from rfl, ← ea]
  refine wpIn_seq (wpIn_region_list ?_)
  refine stepW (ro := none) (m := 0) (T := X.T) X.hok K.h0 (by simp) (fun ty => ?_)
  simp only [opW]
  refine aload_W s (p := .ptr i 0) (show rep g (.ptr i 0) _ from ⟨bm, hbm, rfl⟩) hl ?_
  rintro u ⟨mb, hmb, rfl⟩ r hr
  refine stepI (ro := none) (m := 0) hr (by simp) (w' := w.alloc (.mapIter (some mb) clock #[] clock)) (v := .pointer (some ⟨w.heap.size, 0, none⟩)) (fun o ho => ?_) (fun r hr => ?_)
  · obtain ⟨dst, op, ty, pos, after, guard⟩ := o
    simp only at ho; subst ho
    have := run_range_one (P := P) (T := X.T) ht (hmi mb hmb)
    have e4 : ev 14 (put (argsE [yv, Value.pointer (some ⟨bm, 0, none⟩)]) (some 4) (.map (some mb))) (.tmp 4) = .map (some mb) := rfl
    simp only [execOp, e4, Sem.run_bind, Sem.run_map, this, Result.andThen, Sem.run_pure]
  · obtain rfl := opsL_nil hr
    show wpListIn _ _ _ _ _ [] _ _
    unfold wpListIn
    show (Code.block 0 (.loop _)).wpIn _ _ _ _ _ _
    refine wpIn_block (wpIn_mono (h mb _ hmb ?_ ?_) ?_)
    · rfl
    · rfl
    · rintro ex a w' ⟨hex, hd, hR⟩
      have hres : ∃ v, (results K.fn a.tmps).run P w' = .ok v w' ∧ R (.returned v) w' := by
        refine ⟨.tuple #[], ?_, hR⟩
        simp [results, K.hres]
      rcases hex with rfl | rfl
      · simp only [Exit.inBlock, if_true]
        exact ⟨hd, hres⟩
      · exact ⟨hd, hres⟩
theorem exec_next {P : Program} {ρ : Operand → Value} {o : Oper} {it : Operand} {w w' : World} {v : Value} (ho : o.op = .next it false) (h : ∀ ty, (Instr.next (ρ it) false ty).run P w = .ok v w') : (execOp ρ o).run P w = .ok (.value v) w' := by
  obtain ⟨dst, op, ty, pos, after, guard⟩ := o
  simp only at ho; subst ho
  simp only [execOp, Sem.run_bind, Sem.run_map, h ty, Result.andThen, Sem.run_pure]
theorem exec_entry {P : Program} {ρ : Operand → Value} {o : Oper} {it : Operand} {w w' : World} {v : Value} (ho : o.op = .entry it) (h : (Instr.entry (ρ it)).run P w = .ok v w') : (execOp ρ o).run P w = .ok (.value v) w' := by
  obtain ⟨dst, op, ty, pos, after, guard⟩ := o
  simp only at ho; subst ho
  simp only [execOp, Sem.run_bind, Sem.run_map, h, Result.andThen, Sem.run_pure]
/-- the step that says that no more comes -/
theorem keys_stop {P : Program} {X : Cx P} {f : FuncId} {tm : TypeId} (K : KeysIt P f tm) {w : World} {r : Nat} {e : Env} {Q : Exit → Act → World → Prop} (h5 : e 5 = .pointer (some ⟨r, 0, none⟩))
    (hn : ∀ ty, (Instr.next (.pointer (some ⟨r, 0, none⟩)) false ty).run P w = .ok (.tuple #[.bool false]) w) (h : ∀ e', Q (.exit 0) (act 14 e' []) w) : (loop1 K.r1 K.r2 K.r3).wpIn (Fw none) 0 P Q (act 14 e []) w := by
  refine wpIn_seq (wpIn_region_list ?_)
  refine stepI (ro := none) (m := 0) K.h1 (by simp) (w' := w) (v := .tuple #[.bool false]) (fun o ho => exec_next ho (fun ty => ?_)) (fun r1 hr1 => ?_)
  · show (Instr.next (e 5) false ty).run P w = _
    rw [h5]; exact hn ty
  refine stepW (ro := none) (m := 0) (T := X.T) X.hok hr1 (by simp) (fun ty => ?_)
  simp only [opW]
  show ∀ r, opsL r [] → _
  intro r2 hr2
  obtain rfl := opsL_nil hr2
  refine wpIn_seq (wpIn_cond (t := false) ?_ (wpIn_exit (h _)))
  rw [act_eval]; rfl
theorem keys_none {P : Program} {X : Cx P} {f : FuncId} {tm : TypeId} (K : KeysIt P f tm) {g : G} {A : AH} {w : World} {i mi bm : Nat} {yv : Value} {ver clock : Nat} {ka kb : TypeId} (s : Sat g A w) (hl : aload X.T A tm (.ptr i 0) = some (.map (some mi)))
    (hbm : g.var i = some bm) (hm : A.get mi = some (.map ver [] clock)) (ht : X.T.und tm = some (.map ka kb)) {R : Ending → World → Prop} (hR : ∀ w', Fut g A w g A w' → R (.returned (.tuple #[])) w') :
    Calls P f #[yv, .pointer (some ⟨bm, 0, none⟩)] w R := by
  have hmi : ∀ b, g.var mi = some b → w.heap[b]? = some (.map ([] : List MapEntry).toArray clock) := by
    intro b hb
    obtain ⟨o, x, k1, k2, k3⟩ := s.var mi b hb
    rw [hm] at k1; obtain rfl := Option.some.inj k1
    obtain ⟨ms, rfl, hms⟩ := k3
    simp only [repM] at hms; subst hms
    exact k2
  refine keys_enter K s hl hbm hmi ht (fun mb e hmb h0 h5 => ?_)
  have hlt : mb < w.heap.size := heap_lt (hmi mb hmb)
  have F : Fut g A w g A (w.alloc (.mapIter (some mb) clock #[] clock)) := Fut.ext s (fun b hb => alloc_old hb) (by simp) ⟨rfl, rfl⟩
  refine wpIn_loop (fun a w' => a = act 14 e [] ∧ w' = w.alloc (.mapIter (some mb) clock #[] clock)) (fun _ _ => 0) ⟨rfl, rfl⟩ ?_
  rintro a w' ⟨rfl, rfl⟩
  refine keys_stop (X := X) K h5 (fun ty => run_next_none (mb := mb) (clock := clock) (last := clock) alloc_new (by rw [alloc_old hlt]; exact hmi mb hmb)) (fun e' => ?_)
  exact ⟨.inl rfl, rfl, hR _ F⟩
theorem heap_setI {w : World} {b : Nat} {o : Obj} (h : b < w.heap.size) : ({ w with heap := w.heap.setIfInBounds b o } : World).heap[b]? = some o := by simp [h]
theorem heap_setI_ne {w : World} {b c : Nat} {o : Obj} (h : c ≠ b) : ({ w with heap := w.heap.setIfInBounds b o } : World).heap[c]? = w.heap[c]? := by simp [Array.getElem?_setIfInBounds_ne (Ne.symm h)]
theorem keys_one {P : Program} {X : Cx P} {f : FuncId} {tm : TypeId} (K : KeysIt P f tm) {g : G} {A A1 : AH} {w : World} {i mi bm yb : Nat} {ver clock bn : Nat} {ak av : AV} {ka kb : TypeId} (s : Sat g A w) (hl : aload X.T A tm (.ptr i 0) = some (.map (some mi)))
    (hbm : g.var i = some bm) (hm : A.get mi = some (.map ver [(ak, av, bn)] clock)) (hbn : bn < clock) (hver : A1.ver mi = A.ver mi) (ht : X.T.und tm = some (.map ka kb)) {R : Ending → World → Prop}
    (hY : ∀ w' k, Fut g A w g A w' → rep g ak k → ∃ f tmps assign body, (Instr.yield yb #[k]).run P w' = .ok (.round yb f tmps assign body) w' ∧ RoundIn (Fw none) 0 P yb f tmps assign body w' (fun en w'' => en = .returned (.bool true) ∧ ∃ g1, Fut g A w' g1 A1 w''))
    (hR : ∀ w' g1, Fut g A w g1 A1 w' → R (.returned (.tuple #[])) w') :
    Calls P f #[.func (.yield yb) #[] #[], .pointer (some ⟨bm, 0, none⟩)] w R := by
  have hmi : ∃ me : MapEntry, rep g ak me.key ∧ me.born = bn ∧ ∀ b, g.var mi = some b → w.heap[b]? = some (.map [me].toArray clock) := by
    obtain ⟨b0, hb0⟩ : ∃ b0, g.var mi = some b0 := by
      have : loadW X.T tm (.pointer (some ⟨bm, 0, none⟩)) w (fun u => ∃ b, g.var mi = some b) := aload_W s (p := .ptr i 0) (show rep g (.ptr i 0) _ from ⟨bm, hbm, rfl⟩) hl (fun u ⟨b, hb, _⟩ => ⟨b, hb⟩)
      obtain ⟨_, h, _⟩ := loadW_sound this
      exact h
    obtain ⟨o, x, k1, k2, k3⟩ := s.var mi b0 hb0
    rw [hm] at k1; obtain rfl := Option.some.inj k1
    obtain ⟨ms, rfl, hms⟩ := k3
    obtain ⟨me, ms', rfl, q1, q2, q3, q4⟩ := hms
    simp only [repM] at q4; subst q4
    exact ⟨me, q1, q3, fun b hb => by rw [hb0] at hb; obtain rfl := Option.some.inj hb; exact k2⟩
  obtain ⟨me, hkey, hborn, hmi⟩ := hmi
  subst hborn
  refine keys_enter K s hl hbm hmi ht (fun mb e hmb h0 h5 => ?_)
  have hmw := hmi mb hmb
  have hlt : mb < w.heap.size := heap_lt hmw
  let r := w.heap.size
  let I0 : World := w.alloc (.mapIter (some mb) clock #[] clock)
  refine wpIn_loop (fun a w' => ∃ e, a = act 14 e [] ∧ e 0 = .func (.yield yb) #[] #[] ∧ e 5 = .pointer (some ⟨w.heap.size, 0, none⟩) ∧ (w' = I0 ∨
      (w'.heap[w.heap.size]? = some (.mapIter (some mb) clock #[me.born] clock) ∧ w'.heap[mb]? = some (.map [me].toArray clock) ∧ ∃ g1, Fut g A w g1 A1 w')))
    (fun _ w' => match w'.heap[w.heap.size]? with | some (.mapIter _ _ seen _) => 1 - seen.size | _ => 0) ⟨e, rfl, h0, h5, .inl rfl⟩ ?_
  rintro a w' ⟨e, rfl, h0, h5, hst⟩
  rcases hst with rfl | ⟨hit, hmp, g1, F1⟩
  rotate_left
  · refine keys_stop (X := X) K h5 (fun ty => run_next_over (mb := mb) (clock := clock) hit hmp hbn) (fun e' => ?_)
    exact ⟨.inl rfl, rfl, hR _ g1 F1⟩
  · refine wpIn_seq (wpIn_region_list ?_)
    have hnext : ∀ ty, (Instr.next (.pointer (some ⟨w.heap.size, 0, none⟩)) false ty).run P I0 = .ok (.tuple #[.bool true, me.key, me.val]) { I0 with heap := I0.heap.setIfInBounds w.heap.size (.mapIter (some mb) clock #[me.born] clock) } :=
      fun ty => run_next_one alloc_new (by rw [alloc_old hlt]; exact hmw) hbn
    generalize hI1 : ({ I0 with heap := I0.heap.setIfInBounds w.heap.size (.mapIter (some mb) clock #[me.born] clock) } : World) = I1 at hnext
    have hs0 : I0.heap.size = w.heap.size + 1 := by simp [I0]
    have hr1 : I1.heap[w.heap.size]? = some (.mapIter (some mb) clock #[me.born] clock) := by rw [← hI1]; exact heap_setI (by omega)
    have ho1 : ∀ b, b < w.heap.size → I1.heap[b]? = w.heap[b]? := fun b hb => by rw [← hI1, heap_setI_ne (by omega)]; exact alloc_old hb
    have hs1 : I1.heap.size = w.heap.size + 1 := by rw [← hI1]; simp [hs0]
    have F1 : Fut g A w g A I1 := Fut.ext s ho1 (by omega) (by rw [← hI1]; exact ⟨rfl, rfl⟩)
    refine stepI (ro := none) (m := 0) K.h1 (by simp) (w' := I1) (v := .tuple #[.bool true, me.key, me.val]) (fun o ho => exec_next ho (fun ty => ?_)) (fun r1 hr1 => ?_)
    · show (Instr.next (e 5) false ty).run P I0 = _
      rw [h5]; exact hnext ty
    refine stepW (ro := none) (m := 0) (T := X.T) X.hok hr1 (by simp) (fun ty => ?_)
    simp only [opW]
    show ∀ r, opsL r [] → _
    intro r2 hr2
    obtain rfl := opsL_nil hr2
    refine wpIn_seq (wpIn_cond (t := true) (by rw [act_eval]; rfl) (wpIn_skip ?_))
    refine wpIn_block (wpIn_seq (wpIn_region_list ?_))
    refine stepI (ro := none) (m := 0) K.h2 (by simp) (w' := I1) (v := .tuple #[me.key, me.val]) (fun o ho => exec_entry ho ?_) (fun r1 hr1 => ?_)
    · show (Instr.entry (e 5)).run P I1 = _
      rw [h5]; exact run_entry_one (mb := mb) (clock := clock) ‹_› (by rw [ho1 mb hlt]; exact hmw)
    refine stepW (ro := none) (m := 0) (T := X.T) X.hok hr1 (by simp) (fun ty => ?_)
    simp only [opW]
    show ∀ r, opsL r [_] → _
    intro r2 hr2
    refine stepW (ro := none) (m := 0) (T := X.T) X.hok hr2 (by simp) (fun ty => ?_)
    simp only [opW]
    intro r3 hr3
    obtain rfl := opsL_nil hr3
    refine wpIn_seq (wpIn_region_list ?_)
    refine stepW (ro := none) (m := 0) (T := X.T) X.hok K.h3 (by simp) (fun ty => ?_)
    simp only [opW]
    intro r1 hr1
    refine stepW (ro := none) (m := 0) (T := X.T) X.hok hr1 (by simp) (fun ty => ?_)
    simp only [opW]
    intro r2 hr2
    obtain ⟨f', tmps, assign, body, hy1, hy2⟩ := hY I1 me.key F1 hkey
    refine stepRound (ro := none) (m := 0) hr2 K.hc K.ha (b := yb) h0 (by exact hy1) (R := _) (by exact hy2) ?_
    rintro en w2 ⟨rfl, g1, F2⟩
    refine ⟨_, rfl, fun r hr => ?_⟩
    refine stepW (ro := none) (m := 0) (T := X.T) X.hok hr (by simp) (fun ty => ?_)
    simp only [opW]
    show ∀ r, opsL r [] → _
    intro r3 hr3
    obtain rfl := opsL_nil hr3
    refine wpIn_cond (t := false) (by rw [act_eval]; rfl) (wpIn_skip ?_)
    have hun := s.untracked (b := w.heap.size) (Nat.le_refl _)
    have hit := (F2.old w.heap.size (by omega) hun.1 hun.2).2.2
    have hmp := F2.varc mi mb hmb hver
    have hr1' : I1.heap[w.heap.size]? = some (.mapIter (some mb) clock #[me.born] clock) := ‹_›
    rw [hr1'] at hit
    rw [ho1 mb hlt, hmw] at hmp
    refine ⟨⟨_, rfl, h0, h5, .inr ⟨hit, hmp, g1, F1.trans s F2⟩⟩, ?_⟩
    have e0 : I0.heap[w.heap.size]? = some (.mapIter (some mb) clock #[] clock) := alloc_new
    simp only [hit, e0]
    simp
end Go.X

namespace Go.X
open Go Go.W
set_option linter.unusedSimpArgs false
set_option linter.unusedVariables false

/-! code -/
inductive AXt where
  | normal
  | exit (i : Nat)
  | ret
  | pan (ch : List (AV × Bool))
abbrev CR := Option (AXt × AEnv × List ADef × AH)
def ordAt (ord : List (Nat × OT)) (id : Nat) : Option OT := look ord id
def aloop (body : AEnv → List ADef → AH → CR) : Nat → AEnv → List ADef → AH → CR
  | 0, _, _, _ => none
  | k + 1, E, ds, A => match body E ds A with
    | some (.normal, E', ds', A') => aloop body k E' ds' A'
    | r => r
section
variable {P : Program} (X : Cx P) (call : CallF) (ext : ExtF) (n lf : Nat) (ord : List (Nat × OT))
/-- one round of a range over the keys of a map -/
def around (assign body : Code) (p : Nat) (E : AEnv) (k : AV) (l : Nat) (A : AH) : Option AH := match assign, body with
  | .region _ a2 false, .block _ (.region _ a3 false) => bif a2.toList.all noDefer && a3.toList.all noDefer then
      (match areg X call ext n a2.toList a2.toList (E.set ed p k) [] A with
      | some (.ok E3 [] A5) => (match A5.get l with
        | some (.misc v1 1) => (match areg X call ext n a3.toList a3.toList E3 [] (A5.set l (.misc (v1 + 1) 2)) with
          | some (.ok _ [] A7) => (match A7.get l with
            | some (.misc v2 2) => bif Nat.beq v2 (v1 + 1) then some (A7.set l (.misc (v2 + 1) 1)) else none
            | _ => none)
          | _ => none)
        | _ => none)
      | _ => none) else none
  | _, _ => none
def afin (l j : Nat) (E : AEnv) (ds : List ADef) (A3 : AH) : CR := match A3.get l with
  | some (.misc v 1) => some (.normal, E, .mark j :: ds, A3.set l (.misc (v + 1) 2))
  | _ => none
/-- a range over the keys of a map of one entry at the most -/
def akeys (tm : TypeId) (ps : List Nat) (assign body : Code) (i : Nat) (E : AEnv) (ds : List ADef) (A : AH) : CR := match anew A (.misc 0 0) with
  | some (.ptr j _, A1) => (match anew A1 (.misc 0 1) with
    | some (.ptr l _, A2) => (match aload X.T A2 tm (.ptr i 0), X.T.und tm with
      | some (.map (some mi)), some (.map _ _) => (match A2.get mi with
        | some (.map _ [] _) => afin l j E ds A2
        | some (.map _ [(ak, _, bn)] clock) => bif Nat.blt bn clock then (match ps with
          | [p] => (match around X call ext n assign body p E ak l A2 with
            | some A8 => bif Nat.beq (A8.ver mi) (A2.ver mi) then afin l j E ds A8 else none
            | none => none)
          | _ => none) else none
        | _ => none)
      | _, _ => none)
    | _ => none)
  | _ => none
/-- a range over a function that does not yield: what it is given may not be called -/
def arange (f : Option AV) (ps : List Nat) (assign body : Code) (E : AEnv) (ds : List ADef) (A : AH) : CR := match f with
  | some (.func (.func g) first cap) => bif X.ok g then (match X.keys g with | some tm => (match first, cap with | [], [.ptr i 0] => akeys X call ext n tm ps assign body i E ds A | _, _ => none) | none => (match anew A (.misc 0 0) with
      | some (.ptr j _, A1) => (match anew A1 (.misc 0 1) with
        | some (.ptr l _, A2) => (match call g (first ++ [.any] ++ cap) A2 with
          | some (.ret _, A3) => afin l j E ds A3
          | some (.pan ch, A3) => some (.pan ch, E, .mark j :: ds, A3)
          | none => none)
        | _ => none)
      | _ => none)) else none
  | _ => none
def acode : Code → AEnv → List ADef → AH → CR
  | .skip, E, ds, A => some (.normal, E, ds, A)
  | .label _, E, ds, A => some (.normal, E, ds, A)
  | .exit id, E, ds, A => some (.exit id, E, ds, A)
  | .ret, E, ds, A => some (.ret, E, ds, A)
  | .region _ ops false, E, ds, A => match areg X call ext n ops.toList ops.toList E ds A with
    | some (.ok E' ds' A') => some (.normal, E', ds', A')
    | some (.pan ch E' ds' A') => some (.pan ch, E', ds', A')
    | none => none
  | .region id ops true, E, ds, A => match ordAt ord id with
    | none => none
    | some o => match adraw X call ext n ops.toList A o [] [] E A with
      | some (E', A', _) => some (.normal, E', ds, A')
      | none => none
  | .seq x y, E, ds, A => match acode x E ds A with
    | some (.normal, E', ds', A') => acode y E' ds' A'
    | r => r
  | .cond c x y, E, ds, A => match aev n E c with
    | some (.bool true) => acode x E ds A
    | some (.bool false) => acode y E ds A
    | _ => none
  | .block id x, E, ds, A => match acode x E ds A with
    | some (.exit i, E', ds', A') => bif Nat.beq i id then some (.normal, E', ds', A') else some (.exit i, E', ds', A')
    | r => r
  | .loop x, E, ds, A => aloop (acode x) lf E ds A
  | .rangeFunc f ps a b, E, ds, A => arange X call ext n (aev n E f) ps.toList a b E ds A
  | _, _, _, _ => none
end
/-- the orders fit -/
def ordsOk {P : Program} (T : TT P) (ord : List (Nat × OT)) : Code → Bool
  | .region id ops true => match ordAt ord id with | some o => drawOk T ops o | none => true
  | .seq x y => ordsOk T ord x && ordsOk T ord y
  | .cond _ x y => ordsOk T ord x && ordsOk T ord y
  | .block _ x => ordsOk T ord x
  | .loop x => ordsOk T ord x
  | _ => true
def repX (g : G) : AXt → Exit → Prop
  | .normal, ex => ex = .normal
  | .exit i, ex => ex = .exit i
  | .ret, ex => ex = .ret
  | .pan ch, ex => ∃ ch', ex = .panic ch' ∧ repCh g ch ch'
/-- a loop whose relation speaks of something beside the frame, and of what is deferred -/
theorem loop_soundX {P : Program} {n : Nat} {σ : Type} {c : Code} {Q : Exit → Act → World → Prop} (I : σ → Env → List Deferred → World → Prop) (μ : σ → Nat) {s0 : σ} {e : Env} {ds : List Deferred} {w : World} (h0 : I s0 e ds w)
    (round : ∀ s e ds w, I s e ds w → c.wp P (Exit.then (fun a' w' => ∃ s' e' ds', a' = act n e' ds' ∧ I s' e' ds' w' ∧ μ s' < μ s) Q) (act n e ds) w) : (Code.loop c).wp P Q (act n e ds) w := by
  have key : ∀ (k : Nat) (s : σ) (e : Env) (ds : List Deferred) (w : World), μ s = k → I s e ds w → ∀ (b : Frame) (kk : List Item) (cs : List Frame),
      ∃ ex a' w', Q ex a' w' ∧ Arrives P (lone (b.at (act n e ds) (.code c :: .inLoop c :: kk)) cs w) b kk cs ex a' w' := by
    intro k
    induction k using Nat.strongRecOn with
    | _ k ih =>
      intro s e ds w hk hI b kk cs
      obtain ⟨ex, a₁, w₁, hq, harr⟩ := round s e ds w hI b (.inLoop c :: kk) cs
      cases ex with
      | normal =>
        obtain ⟨s', e', ds', rfl, hI', hlt⟩ := hq
        obtain ⟨e₂, a₂, w₂, hq₂, harr₂⟩ := ih (μ s') (hk ▸ hlt) s' e' ds' w₁ rfl hI' b kk cs
        exact ⟨e₂, a₂, w₂, hq₂, .of_steps (Steps.trans harr (.one step_inLoop)) harr₂⟩
      | exit id => exact ⟨_, a₁, w₁, hq, .pass (x := .inLoop c) rfl (fun _ _ => .inl (by simp)) harr⟩
      | goto l => exact ⟨_, a₁, w₁, hq, .pass (x := .inLoop c) rfl (fun _ _ => .inl (by simp)) harr⟩
      | ret => exact ⟨_, a₁, w₁, hq, .pass (x := .inLoop c) rfl (fun _ _ => .inl (by simp)) harr⟩
      | panic ch => exact ⟨_, a₁, w₁, hq, .pass (x := .inLoop c) rfl (fun _ _ => .inl (by simp)) harr⟩
      | outgrown => exact ⟨_, a₁, w₁, hq, .pass (x := .inLoop c) rfl (fun _ _ => .inl (by simp)) harr⟩
  intro b kk cs
  obtain ⟨ex, a', w', hq, harr⟩ := key _ s0 e ds w rfl h0 b kk cs
  exact ⟨ex, a', w', hq, .of_steps (.one step_loop) harr⟩

/-- what a piece of code leaves -/
def crOk (g : G) (A : AH) (w : World) (x : AXt) (E : AEnv) (ds : List ADef) (A' : AH) : Post := fun ex e dd w' => ∃ g', Fut g A w g' A' w' ∧ repX g' x ex ∧ envR g' E e ∧ repDs g' ds dd
def Sound {P : Program} (n : Nat) (c : Code) (body : AEnv → List ADef → AH → CR) : Prop :=
  ∀ {E : AEnv} {ds : List ADef} {A : AH} {x : AXt} {E' : AEnv} {ds' : List ADef} {A' : AH}, body E ds A = some (x, E', ds', A') → ∀ {g : G} {e : Env} {dd : List Deferred} {w : World}, Sat g A w → envR g E e → repDs g ds dd →
    c.wp P (liftQ n (crOk g A w x E' ds' A')) (act n e dd) w
theorem crOk_trans {g g1 : G} {A A1 : AH} {w w1 : World} {x : AXt} {E : AEnv} {ds : List ADef} {A' : AH} {ex : Exit} {e : Env} {dd : List Deferred} {w' : World} (s : Sat g A w) (F : Fut g A w g1 A1 w1) (h : crOk g1 A1 w1 x E ds A' ex e dd w') : crOk g A w x E ds A' ex e dd w' :=
  let ⟨g', F', k⟩ := h; ⟨g', F.trans s F', k⟩
theorem aloop_W {P : Program} {n : Nat} {c : Code} {body : AEnv → List ADef → AH → CR} (hb : Sound (P := P) n c body) {lf : Nat} : Sound (P := P) n (.loop c) (aloop body lf) := by
  intro E ds A x E' ds' A' h g e dd w s he hd
  refine loop_soundX (P := P) (σ := Nat) (fun k e dd w' => ∃ g1 E1 ds1 A1, Fut g A w g1 A1 w' ∧ envR g1 E1 e ∧ repDs g1 ds1 dd ∧ aloop body k E1 ds1 A1 = some (x, E', ds', A')) (fun k => k) (s0 := lf) ⟨g, E, ds, A, Fut.refl s, he, hd, h⟩ ?_
  rintro k e dd w1 ⟨g1, E1, ds1, A1, F1, he1, hd1, h1⟩
  cases k with
  | zero => cases h1
  | succ k =>
    unfold aloop at h1
    split at h1
    · rename_i E2 ds2 A2 h2
      refine wp_mono (hb h2 F1.sat he1 hd1) ?_
      rintro ex a w2 ⟨e2, dd2, rfl, g2, F2, rfl, he2, hd2⟩
      exact ⟨k, e2, dd2, rfl, ⟨g2, E2, ds2, A2, F1.trans s F2, he2, hd2, h1⟩, Nat.lt_succ_self k⟩
    · rename_i hne
      refine wp_mono (hb h1 F1.sat he1 hd1) ?_
      rintro ex a w2 ⟨e2, dd2, rfl, g2, F2, hx, he2, hd2⟩
      cases x with
      | normal => exact (hne _ _ _ h1).elim
      | exit i => obtain rfl := hx; exact ⟨e2, dd2, rfl, g2, F1.trans s F2, rfl, he2, hd2⟩
      | ret => obtain rfl := hx; exact ⟨e2, dd2, rfl, g2, F1.trans s F2, rfl, he2, hd2⟩
      | pan ch => obtain ⟨ch', rfl, hch⟩ := hx; exact ⟨e2, dd2, rfl, g2, F1.trans s F2, ⟨ch', rfl, hch⟩, he2, hd2⟩
theorem anew_var {g : G} {A A' : AH} {w : World} {o : AO} {x : Obj} {i p : Nat} (s : Sat g A w) (h : anew A o = some (.ptr i p, A')) (hx : repO g o x) :
    ∃ g', Fut g A w g' A' (w.alloc x) ∧ g'.var i = some w.heap.size := by
  obtain ⟨g', F, b, h1, h2⟩ := anew_F s h hx
  simp only [Value.pointer.injEq, Option.some.injEq, Addr.mk.injEq] at h2
  exact ⟨g', F, by rw [h1, h2.1]⟩
theorem afin_W {n : Nat} {l j : Nat} {E : AEnv} {ds : List ADef} {A A3 : AH} {x : AXt} {E' : AEnv} {ds' : List ADef} {A' : AH} {g g2 : G} {w : World} {e : Env} {dd : List Deferred} {w2 : World} {A2 : AH} (h : afin l j E ds A3 = some (x, E', ds', A')) (s : Sat g A w) (he : envR g E e) (hd : repDs g ds dd)
    (F2 : Fut g A w g2 A2 w2) (hl : g2.var l = some (w.heap.size + 1)) (hj : g2.var j = some w.heap.size) {g3 : G} {w3 : World} (F3 : Fut g2 A2 w2 g3 A3 w3) :
    ∃ r, w3.heap[w.heap.size + 1]? = some (.loop r) ∧ r.state ≠ .busy ∧ r.pending = none ∧ ∀ r', (liftQ n (crOk g A w x E' ds' A')) .normal { act n e dd with defers := { target := .collected w.heap.size, args := #[] } :: (act n e dd).defers } (w3.putObj (w.heap.size + 1) (.loop r')) := by
  unfold afin at h
  split at h <;> try cases h
  rename_i v hlv
  have v3 := F3.le.var _ _ hl
  obtain ⟨o, x, k1, k2, k3⟩ := F3.sat.var l _ v3
  rw [hlv] at k1
  obtain rfl := Option.some.inj k1
  obtain ⟨r0, rfl, q1, q2⟩ := k3
  refine ⟨r0, k2, by rw [q1]; simp, q2, fun r' => ⟨e, { target := .collected w.heap.size, args := #[] } :: dd, rfl, g3, (F2.trans s F3).trans s ?_, rfl, envR_mono (F2.trans s F3).le he, ?_⟩⟩
  · exact Fut.store (ver := v) (x := .loop r') F3.sat v3 (by simp only [AH.ver, hlv, AO.ver]; omega) (World.putObj_heap_same (heap_lt k2)) trivial (fun c hc => World.putObj_heap_other hc) ⟨by simp, rfl, rfl⟩
  · exact ⟨_, dd, rfl, ⟨_, rfl, F3.le.var _ _ hj⟩, repDs_mono (F2.trans s F3).le hd⟩
theorem region_I {P : Program} {X : Cx P} {call : CallF} {ext : ExtF} (hc : CallOk P call) (hx : ExtOk P ext) {ro : Option Nat} {m n id : Nat} {ops : Array Oper} {E E' : AEnv} {ds ds' : List ADef} {A A' : AH} (h : areg X call ext n ops.toList ops.toList E ds A = some (.ok E' ds' A')) (hnd : ops.toList.all noDefer = true)
    {g : G} {e : Env} {dd : List Deferred} {w : World} (s : Sat g A w) (he : envR g E e) (hd : repDs g ds dd) {Q : Exit → Act → World → Prop} (hQ : ∀ g' e' dd' w', Fut g A w g' A' w' → envR g' E' e' → repDs g' ds' dd' → Q .normal (act n e' dd') w') :
    (Code.region id ops false).wpIn (Fw ro) m P Q (act n e dd) w := by
  refine wpIn_mono (wpIn_region_list (regW_soundI X.hok (Q := fun ex e' dd' w' => ex = .normal ∧ Q .normal (act n e' dd') w') _ _ _ _ hnd (areg_W hc hx h s he hd (fun g' e' dd' w' F he' hd' => ⟨rfl, hQ g' e' dd' w' F he' hd'⟩)))) ?_
  rintro ex a w' ⟨e', dd', rfl, rfl, hq⟩
  exact hq
theorem around_W {P : Program} {X : Cx P} {call : CallF} {ext : ExtF} (hc : CallOk P call) (hx : ExtOk P ext) {n p l : Nat} {assign body : Code} {E : AEnv} {k : AV} {A A8 : AH} (h : around X call ext n assign body p E k l A = some A8)
    {g : G} {w : World} {yb : Nat} {rec : Loop} {e : Env} {dd : List Deferred} {vk : Value} (s : Sat g A w) (he : envR g E e) (hk : rep g k vk) (hl : g.var l = some yb) (hw : w.heap[yb]? = some (.loop rec)) (ht : rec.tmps = (act n e dd).tmps) (hp : rec.params = #[p]) (ha : rec.assign = assign) (hb : rec.body = body) :
    ∃ f tmps assign body, (Instr.yield yb #[vk]).run P w = .ok (.round yb f tmps assign body) w ∧ RoundIn (Fw none) 0 P yb f tmps assign body w (fun en w'' => en = .returned (.bool true) ∧ ∃ g1, Fut g A w g1 A8 w'') := by
  unfold around at h
  split at h <;> try cases h
  rename_i id2 a2 bid id3 a3
  cases hnd : (a2.toList.all noDefer && a3.toList.all noDefer) <;> simp only [hnd, cond_true, cond_false] at h
  · cases h
  simp only [Bool.and_eq_true] at hnd
  split at h <;> try cases h
  rename_i E3 A5 h2
  split at h <;> try cases h
  rename_i v1 hl5
  split at h <;> try cases h
  rename_i E7 A7 h3
  split at h <;> try cases h
  rename_i v2 hl7
  cases hv : Nat.beq v2 (v1 + 1) <;> simp only [hv, cond_true, cond_false] at h
  · cases h
  obtain rfl := Option.some.inj h
  have hv := Nat.eq_of_beq_eq_true hv
  refine ⟨_, _, _, _, run_yield hw (by rw [hp]; rfl), ?_⟩
  have et : (rec.params.zip #[vk]).foldl (fun tmps (x : Tmp × Value) => tmps.setIfInBounds x.1 x.2) rec.tmps = (act n (up e p vk) []).tmps := by
    rw [hp, ht]
    have := act_put n e dd (some p) vk
    have h1 := congrArg Act.tmps this
    simp only [Act.put, put] at h1
    simpa [act] using h1
  rw [ha, hb]
  have et' : (rec.params.zip #[vk]).foldl (fun tmps (t, a) => tmps.setIfInBounds t a) rec.tmps = (act n (up e p vk) []).tmps := et
  rw [et']
  refine roundIn_of_wpIn (F := Fw none) trivial ?_
  refine region_I (ro := some yb) (m := 0) (dd := []) hc hx h2 hnd.1 s (envR_put (d := some p) he hk) rfl ?_
  intro g5 e5 dd5 w5 F5 he5 hd5
  simp only [repDs] at hd5; subst hd5
  have l5 := F5.le.var _ _ hl
  obtain ⟨o, x, k1, k2, k3⟩ := F5.sat.var l _ l5
  rw [hl5] at k1
  obtain rfl := Option.some.inj k1
  obtain ⟨r5, rfl, q1, q2⟩ := k3
  show ∃ w2, (Instr.beginRound yb).run P w5 = .ok () w2 ∧ _
  refine ⟨_, run_beginRound k2 q1, ?_⟩
  have F6 : Fut g5 A5 w5 g5 (A5.set l (.misc (v1 + 1) 2)) (w5.putObj yb (.loop { r5 with state := .busy })) :=
    Fut.store (ver := v1) (x := .loop { r5 with state := .busy }) F5.sat l5 (by simp only [AH.ver, hl5, AO.ver]; omega) (World.putObj_heap_same (heap_lt k2)) trivial (fun c hc => World.putObj_heap_other hc) ⟨by simp, rfl, rfl⟩
  have hb6 : (w5.putObj yb (.loop { r5 with state := .busy })).heap[yb]? = some (.loop { r5 with state := .busy }) := World.putObj_heap_same (heap_lt k2)
  refine wpIn_block (region_I (ro := some yb) (m := 0) (dd := []) hc hx h3 hnd.2 F6.sat he5 rfl ?_)
  intro g7 e7 dd7 w7 F7 he7 hd7
  have l7 := F7.le.var _ _ l5
  have hb7 : w7.heap[yb]? = some (.loop { r5 with state := .busy }) := by
    rw [F7.varc l yb l5 (by simp only [AH.ver, hl7, AH.get_set_same, AO.ver]; exact hv)]; exact hb6
  show ∃ v w', (Instr.endRound yb none).run P w7 = .ok v w' ∧ _
  refine ⟨_, _, run_endRound none hb7, rfl, g7, ((F5.trans s F6).trans s F7).trans s ?_⟩
  exact Fut.store (ver := v2) F7.sat l7 (by simp only [AH.ver, hl7, AO.ver]; omega) (World.putObj_heap_same (heap_lt hb7)) ⟨_, rfl, rfl, rfl⟩ (fun c hc => World.putObj_heap_other hc) ⟨by simp, rfl, rfl⟩
theorem akeys_W {P : Program} {X : Cx P} {call : CallF} {ext : ExtF} (hc : CallOk P call) (hx : ExtOk P ext) {n tm fid i : Nat} (hK : KeysIt P fid tm) (hen : enters P fid) {f : Operand} {ps : Array Tmp} {assign body : Code} {E : AEnv} {ds : List ADef} {A : AH} {x : AXt} {E' : AEnv} {ds' : List ADef} {A' : AH}
    (h : akeys X call ext n tm ps.toList assign body i E ds A = some (x, E', ds', A')) {g : G} {e : Env} {dd : List Deferred} {w : World} {bm : Nat} (s : Sat g A w) (he : envR g E e) (hd : repDs g ds dd) (hbm : g.var i = some bm) (hf : (act n e dd).eval f = .func (.func fid) #[] #[.pointer (some ⟨bm, 0, none⟩)]) :
    (Code.rangeFunc f ps assign body).wp P (liftQ n (crOk g A w x E' ds' A')) (act n e dd) w := by
  unfold akeys at h
  split at h <;> try cases h
  rename_i j _ A1 h1
  split at h <;> try cases h
  rename_i l _ A2 h2
  split at h <;> try cases h
  rename_i mi ka kb hal hund
  obtain ⟨g1, F1, v1⟩ := anew_var (x := .deferred (some [])) s h1 rfl
  refine wp_rangeFunc hf hen (fun rec hr1 hr2 hr3 hr4 hr5 hr6 => ?_)
  obtain ⟨g2, F2, v2⟩ := anew_var (x := .loop rec) F1.sat h2 ⟨rec, rfl, hr1, hr2⟩
  have F12 := F1.trans s F2
  have v2' : g2.var l = some (w.heap.size + 1) := by rw [v2]; simp
  have v1' : g2.var j = some w.heap.size := F2.le.var _ _ v1
  have hrec : ((w.alloc (.deferred (some []))).alloc (.loop rec)).heap[w.heap.size + 1]? = some (.loop rec) := by
    have := alloc_new (w := w.alloc (.deferred (some []))) (o := .loop rec)
    rwa [World.size_alloc] at this
  generalize hW2 : (w.alloc (.deferred (some []))).alloc (.loop rec) = W2 at *
  show Calls P fid #[.func (.yield (w.heap.size + 1)) #[] #[], .pointer (some ⟨bm, 0, none⟩)] W2 _
  split at h <;> try cases h
  · rename_i ver clock hmi
    exact keys_none hK F12.sat hal (F12.le.var _ _ hbm) hmi hund (fun w' F => afin_W h s he hd F12 v2' v1' F)
  · rename_i ver ak av bn clock hmi
    cases hbn : Nat.blt bn clock <;> simp only [hbn, cond_true, cond_false] at h
    · cases h
    have hbn : bn < clock := by simpa using hbn
    split at h <;> try cases h
    rename_i p hps
    split at h <;> try cases h
    rename_i A8 har
    cases hv : Nat.beq (A8.ver mi) (A2.ver mi) <;> simp only [hv, cond_true, cond_false] at h
    · cases h
    have hv := Nat.eq_of_beq_eq_true hv
    have hps' : ps = #[p] := by apply Array.ext'; simpa using hps
    refine keys_one hK F12.sat hal (F12.le.var _ _ hbm) hmi hbn hv hund (fun w' k F hk => ?_) (fun w' g3 F => afin_W h s he hd F12 v2' v1' F)
    have hw' : w'.heap[w.heap.size + 1]? = some (.loop rec) := by rw [F.varc l _ v2' rfl]; exact hrec
    exact around_W (dd := dd) hc hx har F.sat (envR_mono F12.le he) hk v2' hw' hr3 (by rw [hr4, hps']) hr5 hr6
theorem arange_W {P : Program} {X : Cx P} {call : CallF} {ext : ExtF} (hc : CallOk P call) (hx : ExtOk P ext) {n : Nat} {f : Operand} {ps : Array Tmp} {assign body : Code} : Sound (P := P) n (.rangeFunc f ps assign body) (fun E ds A => arange X call ext n (aev n E f) ps.toList assign body E ds A) := by
  intro E ds A x E' ds' A' h g e dd w s he hd
  simp only at h
  generalize hf : aev n E f = af at h
  unfold arange at h
  split at h <;> try cases h
  rename_i fid first cap
  obtain ⟨first', cap', hv, e1, e2⟩ := aev_rep (n := n) he hf
  cases hok : X.ok fid <;> simp only [hok, cond_true, cond_false] at h
  · cases h
  split at h
  · rename_i tm hkeys
    split at h <;> try cases h
    rename_i i
    obtain ⟨K⟩ := X.hkeys fid tm hkeys
    simp only [reps] at e1; subst e1
    obtain ⟨u, us, rfl, ⟨bm, hbm, rfl⟩, e3⟩ := e2
    simp only [reps] at e3; subst e3
    exact akeys_W hc hx K (X.hok fid hok) h s he hd hbm (by rw [act_eval]; exact hv)
  split at h <;> try cases h
  rename_i j _ A1 h1
  split at h <;> try cases h
  rename_i l _ A2 h2
  obtain ⟨g1, F1, v1⟩ := anew_var (x := .deferred (some [])) s h1 rfl
  refine wp_rangeFunc (first := first'.toArray) (cap := cap'.toArray) (by rw [act_eval]; exact hv) (X.hok fid hok) (fun rec hr1 hr2 _ _ _ _ => ?_)
  obtain ⟨g2, F2, v2⟩ := anew_var (x := .loop rec) F1.sat h2 ⟨rec, rfl, hr1, hr2⟩
  have F12 := F1.trans s F2
  have hargs : reps g2 (first ++ [.any] ++ cap) (first' ++ [Value.func (.yield (w.heap.size + 1)) #[] #[]] ++ cap') :=
    reps_app (reps_app (reps_mono F12.le _ e1) ⟨_, [], rfl, trivial, rfl⟩) (reps_mono F12.le _ e2)
  have eqa : (first' ++ [Value.func (.yield (w.heap.size + 1)) #[] #[]] ++ cap').toArray = first'.toArray ++ #[Value.func (.yield (w.heap.size + 1)) #[] #[]] ++ cap'.toArray := by apply Array.ext'; simp
  rw [← eqa]
  have v2' : g2.var l = some (w.heap.size + 1) := by rw [v2]; simp
  split at h
  · rename_i r A3 hcall
    refine (hc _ _ _ _ _ hcall g2 _ _ F12.sat hargs).mono ?_
    rintro en w3 ⟨g3, F3, u, rfl, _⟩
    exact afin_W h s he hd F12 v2' (F2.le.var _ _ v1) F3
  · rename_i ch A3 hcall
    cases h
    refine (hc _ _ _ _ _ hcall g2 _ _ F12.sat hargs).mono ?_
    rintro en w3 ⟨g3, F3, ch', rfl, hch⟩
    refine ⟨e, { target := .collected w.heap.size, args := #[] } :: dd, rfl, g3, F12.trans s F3, ⟨ch', rfl, hch⟩, envR_mono (F12.trans s F3).le he, ?_⟩
    exact ⟨_, dd, rfl, ⟨_, rfl, F3.le.var _ _ (F2.le.var _ _ v1)⟩, repDs_mono (F12.trans s F3).le hd⟩
  · cases h
theorem acode_W {P : Program} {X : Cx P} {call : CallF} {ext : ExtF} (hc : CallOk P call) (hx : ExtOk P ext) (hcV : CallV call) (hxV : ExtV ext) {n lf : Nat} {ord : List (Nat × OT)} : ∀ (c : Code), ordsOk X.T ord c = true → Sound (P := P) n c (acode X call ext n lf ord c) := by
  intro c
  induction c with
  | skip => intro _ E ds A x E' ds' A' h g e dd w s he hd; simp only [acode, Option.some.injEq, Prod.mk.injEq] at h; obtain ⟨rfl, rfl, rfl, rfl⟩ := h; exact wp_skip ⟨e, dd, rfl, g, Fut.refl s, rfl, he, hd⟩
  | label l => intro _ E ds A x E' ds' A' h g e dd w s he hd; simp only [acode, Option.some.injEq, Prod.mk.injEq] at h; obtain ⟨rfl, rfl, rfl, rfl⟩ := h; exact wp_label ⟨e, dd, rfl, g, Fut.refl s, rfl, he, hd⟩
  | exit l => intro _ E ds A x E' ds' A' h g e dd w s he hd; simp only [acode, Option.some.injEq, Prod.mk.injEq] at h; obtain ⟨rfl, rfl, rfl, rfl⟩ := h; exact wp_exit ⟨e, dd, rfl, g, Fut.refl s, rfl, he, hd⟩
  | ret => intro _ E ds A x E' ds' A' h g e dd w s he hd; simp only [acode, Option.some.injEq, Prod.mk.injEq] at h; obtain ⟨rfl, rfl, rfl, rfl⟩ := h; exact wp_ret ⟨e, dd, rfl, g, Fut.refl s, rfl, he, hd⟩
  | goto l => intro _ E ds A x E' ds' A' h; simp [acode] at h
  | refuse l => intro _ E ds A x E' ds' A' h; simp [acode] at h
  | scope l => intro _ E ds A x E' ds' A' h; simp [acode] at h
  | rangeFunc f ps a b => intro _; exact arange_W hc hx
  | region id ops dr =>
    intro ho E ds A x E' ds' A' h g e dd w s he hd
    cases dr with
    | false =>
      simp only [acode] at h
      split at h
      · rename_i E1 ds1 A1 hr
        simp only [Option.some.injEq, Prod.mk.injEq] at h; obtain ⟨rfl, rfl, rfl, rfl⟩ := h
        exact region_list (regW_sound X.hok _ _ _ _ (areg_W hc hx hr s he hd (fun g' e' dd' w' F he' hd' => ⟨g', F, rfl, he', hd'⟩)))
      · rename_i ch E1 ds1 A1 hr
        simp only [Option.some.injEq, Prod.mk.injEq] at h; obtain ⟨rfl, rfl, rfl, rfl⟩ := h
        exact region_list (regW_sound X.hok _ _ _ _ (areg_W hc hx hr s he hd (fun g' ch' e' dd' w' F hch he' hd' => ⟨g', F, ⟨ch', rfl, hch⟩, he', hd'⟩)))
      · cases h
    | true =>
      simp only [acode] at h
      simp only [ordsOk] at ho
      split at h
      · cases h
      rename_i o hord
      rw [hord] at ho
      simp only at ho
      split at h
      · rename_i E1 A1 L1 hr
        simp only [Option.some.injEq, Prod.mk.injEq] at h; obtain ⟨rfl, rfl, rfl, rfl⟩ := h
        have s' : Sat g A w.drew := s.of_heap rfl
        refine draw_sound (C := Cd g A w.drew L1) (H := Hd g A w.drew L1) X.hm X.hok ho (fun a v hcd w' hw => hcd w' hw) ⟨g, A, Fut.refl s', fun _ _ => rfl⟩ ?_
        refine adraw_W hc hx hcV hxV s' (fun g' e' w' F he' => ?_) hr (Fut.refl s') he (fun t _ => he t)
        exact ⟨g', (Fut.of_heap (w' := w.drew) s rfl ⟨rfl, rfl⟩).trans s F, rfl, he', repDs_mono F.le hd⟩
      · cases h
  | seq x y ihx ihy =>
    intro ho E ds A xx E' ds' A' h g e dd w s he hd
    simp only [ordsOk, Bool.and_eq_true] at ho
    simp only [acode] at h
    split at h
    · rename_i E1 ds1 A1 h1
      refine wp_seq (wp_mono (ihx ho.1 h1 s he hd) ?_)
      rintro ex a w1 ⟨e1, dd1, rfl, g1, F1, rfl, he1, hd1⟩
      refine wp_mono (ihy ho.2 h F1.sat he1 hd1) ?_
      rintro ex a w2 ⟨e2, dd2, rfl, hq⟩
      exact ⟨e2, dd2, rfl, crOk_trans s F1 hq⟩
    · rename_i hne
      refine wp_seq (wp_mono (ihx ho.1 h s he hd) ?_)
      rintro ex a w1 ⟨e1, dd1, rfl, g1, F1, hxx, he1, hd1⟩
      cases xx with
      | normal => exact (hne _ _ _ h).elim
      | exit i => obtain rfl := hxx; exact ⟨e1, dd1, rfl, g1, F1, rfl, he1, hd1⟩
      | ret => obtain rfl := hxx; exact ⟨e1, dd1, rfl, g1, F1, rfl, he1, hd1⟩
      | pan ch => obtain ⟨ch', rfl, hch⟩ := hxx; exact ⟨e1, dd1, rfl, g1, F1, ⟨ch', rfl, hch⟩, he1, hd1⟩
  | cond c x y ihx ihy =>
    intro ho E ds A xx E' ds' A' h g e dd w s he hd
    simp only [ordsOk, Bool.and_eq_true] at ho
    simp only [acode] at h
    split at h
    · rename_i hcv
      have hv := aev_rep (n := n) he hcv
      simp only [rep] at hv
      exact wp_cond (t := true) (by rw [act_eval]; exact hv) (ihx ho.1 h s he hd)
    · rename_i hcv
      have hv := aev_rep (n := n) he hcv
      simp only [rep] at hv
      exact wp_cond (t := false) (by rw [act_eval]; exact hv) (ihy ho.2 h s he hd)
    · cases h
  | block id x ih =>
    intro ho E ds A xx E' ds' A' h g e dd w s he hd
    simp only [ordsOk] at ho
    simp only [acode] at h
    split at h
    · rename_i i E1 ds1 A1 h1
      refine wp_block (wp_mono (ih ho h1 s he hd) ?_)
      rintro ex a w1 ⟨e1, dd1, rfl, g1, F1, rfl, he1, hd1⟩
      simp only [Exit.inBlock]
      cases hb : Nat.beq i id <;> simp only [hb, cond_true, cond_false, Option.some.injEq, Prod.mk.injEq] at h
      · obtain ⟨rfl, rfl, rfl, rfl⟩ := h
        have : i ≠ id := fun e => by rw [e] at hb; simp at hb
        rw [if_neg this]; exact ⟨e1, dd1, rfl, g1, F1, rfl, he1, hd1⟩
      · obtain ⟨rfl, rfl, rfl, rfl⟩ := h
        rw [if_pos (Nat.eq_of_beq_eq_true hb)]; exact ⟨e1, dd1, rfl, g1, F1, rfl, he1, hd1⟩
    · rename_i hne
      refine wp_block (wp_mono (ih ho h s he hd) ?_)
      rintro ex a w1 ⟨e1, dd1, rfl, g1, F1, hxx, he1, hd1⟩
      cases xx with
      | normal => obtain rfl := hxx; exact ⟨e1, dd1, rfl, g1, F1, rfl, he1, hd1⟩
      | exit i => exact (hne _ _ _ _ h).elim
      | ret => obtain rfl := hxx; exact ⟨e1, dd1, rfl, g1, F1, rfl, he1, hd1⟩
      | pan ch => obtain ⟨ch', rfl, hch⟩ := hxx; exact ⟨e1, dd1, rfl, g1, F1, ⟨ch', rfl, hch⟩, he1, hd1⟩
  | loop x ih =>
    intro ho
    simp only [ordsOk] at ho
    intro E ds A xx E' ds' A' h
    simp only [acode] at h
    exact aloop_W (ih ho) h
end Go.X

namespace Go.X
open Go Go.W
set_option linter.unusedSimpArgs false
set_option linter.unusedVariables false

/-! versions, of code -/
def RX.leV (A : AH) : RX → Prop
  | .ok _ _ A' => Go.X.leV A A'
  | .pan _ _ _ A' => Go.X.leV A A'
section
variable {P : Program} {X : Cx P} {call : CallF} {ext : ExtF} {n lf : Nat} {ord : List (Nat × OT)}
theorem areg_V (hc : CallV call) (hx : ExtV ext) {all : List Oper} : ∀ {l : List Oper} {E : AEnv} {ds : List ADef} {A : AH} {R : RX}, areg X call ext n all l E ds A = some R → R.leV A
  | [], E, ds, A, R, h => by simp only [areg, Option.some.injEq] at h; subst h; exact leV.refl A
  | o :: r, E, ds, A, R, h => by
    have step : ∀ {A1 : AH}, leV A A1 → R.leV A1 → R.leV A := fun {A1} h1 h2 => by cases R <;> exact leV.trans h1 h2
    unfold areg at h
    split at h
    · cases h
    · exact areg_V hc hx h
    · split at h
      · rename_i v A' ho; exact step (aop_V hc hx ho) (areg_V hc hx h)
      · exact areg_V hc hx h
      · rename_i ch A' ho; obtain rfl := Option.some.inj h; exact aop_V hc hx ho
      · cases h
def CRV (body : AEnv → List ADef → AH → CR) : Prop := ∀ E ds A x E' ds' A', body E ds A = some (x, E', ds', A') → leV A A'
theorem aloop_V {body : AEnv → List ADef → AH → CR} (h : CRV body) : ∀ k, CRV (aloop body k)
  | 0, E, ds, A, x, E', ds', A', e => by cases e
  | k + 1, E, ds, A, x, E', ds', A', e => by
    unfold aloop at e
    split at e
    · rename_i E1 ds1 A1 h1; exact (h _ _ _ _ _ _ _ h1).trans (aloop_V h k _ _ _ _ _ _ _ e)
    · exact h _ _ _ _ _ _ _ e
theorem afin_V {l j : Nat} {E : AEnv} {ds : List ADef} {A A' : AH} {x : AXt} {E' : AEnv} {ds' : List ADef} (h : afin l j E ds A = some (x, E', ds', A')) : leV A A' := by
  unfold afin at h
  split at h <;> try cases h
  rename_i h4
  exact leV_set h4 (by simp [AO.ver])
theorem around_V (hc : CallV call) (hx : ExtV ext) {assign body : Code} {p l : Nat} {E : AEnv} {k : AV} {A A' : AH} (h : around X call ext n assign body p E k l A = some A') : leV A A' := by
  unfold around at h
  split at h <;> try cases h
  rename_i a2 _ _ a3
  revert h
  generalize (a2.toList.all noDefer && a3.toList.all noDefer) = b
  intro h
  cases b <;> simp only [cond_true, cond_false] at h
  · cases h
  split at h <;> try cases h
  rename_i h1
  split at h <;> try cases h
  rename_i h2
  split at h <;> try cases h
  rename_i h3
  split at h <;> try cases h
  rename_i v1 _ _ _ _ v2 h4
  revert h
  generalize Nat.beq v2 (v1 + 1) = b
  intro h
  cases b <;> simp only [cond_true, cond_false] at h
  · cases h
  obtain rfl := Option.some.inj h
  have k1 := areg_V hc hx h1
  have k3 := areg_V hc hx h3
  exact (k1.trans (leV_set h2 (by simp [AO.ver]))).trans (leV.trans k3 (leV_set h4 (by simp [AO.ver])))
theorem arange_V (hc : CallV call) (hx : ExtV ext) {f : Option AV} {ps : List Nat} {assign body : Code} {E : AEnv} {ds : List ADef} {A A' : AH} {x : AXt} {E' : AEnv} {ds' : List ADef} (h : arange X call ext n f ps assign body E ds A = some (x, E', ds', A')) : leV A A' := by
  unfold arange at h
  split at h <;> try cases h
  rename_i fid first cap
  cases hok : X.ok fid <;> simp only [hok, cond_true, cond_false] at h
  · cases h
  split at h
  · split at h <;> try cases h
    unfold akeys at h
    split at h <;> try cases h
    rename_i h1
    split at h <;> try cases h
    rename_i h2
    have k := (leV_anew h1).trans (leV_anew h2)
    split at h <;> try cases h
    split at h <;> try cases h
    · exact k.trans (afin_V h)
    · rename_i bn clock _
      cases hbn : Nat.blt bn clock <;> simp only [hbn, cond_true, cond_false] at h
      · cases h
      split at h <;> try cases h
      split at h <;> try cases h
      rename_i A8 h3
      revert h
      generalize Nat.beq (A8.ver _) _ = b
      intro h
      cases b <;> simp only [cond_true, cond_false] at h
      · cases h
      exact (k.trans (around_V hc hx h3)).trans (afin_V h)
  · split at h <;> try cases h
    rename_i h1
    split at h <;> try cases h
    rename_i h2
    have k := (leV_anew h1).trans (leV_anew h2)
    split at h
    · rename_i h3
      exact (k.trans (hc _ _ _ _ _ h3)).trans (afin_V h)
    · rename_i h3
      cases h
      exact k.trans (hc _ _ _ _ _ h3)
    · cases h
theorem acode_V (hc : CallV call) (hx : ExtV ext) : ∀ (c : Code), CRV (acode X call ext n lf ord c) := by
  intro c
  induction c with
  | skip => intro E ds A x E' ds' A' h; simp only [acode, Option.some.injEq, Prod.mk.injEq] at h; obtain ⟨rfl, rfl, rfl, rfl⟩ := h; exact leV.refl _
  | label l => intro E ds A x E' ds' A' h; simp only [acode, Option.some.injEq, Prod.mk.injEq] at h; obtain ⟨rfl, rfl, rfl, rfl⟩ := h; exact leV.refl _
  | exit l => intro E ds A x E' ds' A' h; simp only [acode, Option.some.injEq, Prod.mk.injEq] at h; obtain ⟨rfl, rfl, rfl, rfl⟩ := h; exact leV.refl _
  | ret => intro E ds A x E' ds' A' h; simp only [acode, Option.some.injEq, Prod.mk.injEq] at h; obtain ⟨rfl, rfl, rfl, rfl⟩ := h; exact leV.refl _
  | goto l => intro E ds A x E' ds' A' h; simp [acode] at h
  | refuse l => intro E ds A x E' ds' A' h; simp [acode] at h
  | scope l => intro E ds A x E' ds' A' h; simp [acode] at h
  | rangeFunc f ps a b =>
    intro E ds A x E' ds' A' h
    simp only [acode] at h
    exact arange_V hc hx h
  | region id ops dr =>
    intro E ds A x E' ds' A' h
    cases dr with
    | false =>
      simp only [acode] at h
      split at h
      · rename_i E1 ds1 A1 hr
        simp only [Option.some.injEq, Prod.mk.injEq] at h; obtain ⟨rfl, rfl, rfl, rfl⟩ := h
        exact areg_V hc hx hr
      · rename_i ch E1 ds1 A1 hr
        simp only [Option.some.injEq, Prod.mk.injEq] at h; obtain ⟨rfl, rfl, rfl, rfl⟩ := h
        exact areg_V hc hx hr
      · cases h
    | true =>
      simp only [acode] at h
      split at h
      · cases h
      split at h
      · rename_i E1 A1 L1 hr
        simp only [Option.some.injEq, Prod.mk.injEq] at h; obtain ⟨rfl, rfl, rfl, rfl⟩ := h
        exact (adraw_L hc hx hr).2
      · cases h
  | seq x y ihx ihy =>
    intro E ds A xx E' ds' A' h
    simp only [acode] at h
    split at h
    · rename_i E1 ds1 A1 h1; exact (ihx _ _ _ _ _ _ _ h1).trans (ihy _ _ _ _ _ _ _ h)
    · exact ihx _ _ _ _ _ _ _ h
  | cond c x y ihx ihy =>
    intro E ds A xx E' ds' A' h
    simp only [acode] at h
    split at h
    · exact ihx _ _ _ _ _ _ _ h
    · exact ihy _ _ _ _ _ _ _ h
    · cases h
  | block id x ih =>
    intro E ds A xx E' ds' A' h
    simp only [acode] at h
    split at h
    · rename_i i E1 ds1 A1 h1
      cases hb : Nat.beq i id <;> simp only [hb, cond_true, cond_false, Option.some.injEq, Prod.mk.injEq] at h
      · obtain ⟨rfl, rfl, rfl, rfl⟩ := h; exact ih _ _ _ _ _ _ _ h1
      · obtain ⟨rfl, rfl, rfl, rfl⟩ := h; exact ih _ _ _ _ _ _ _ h1
    · exact ih _ _ _ _ _ _ _ h
  | loop x ih => intro E ds A xx E' ds' A' h; simp only [acode] at h; exact aloop_V ih lf _ _ _ _ _ _ _ h
end

/-! functions -/
def slotN (n : Nat) (E : AEnv) (t : Nat) : AV := bif Nat.blt t n then slot E t else .tup []
theorem slotN_rep {g : G} {n : Nat} {E : AEnv} {e : Env} (he : envR g E e) (t : Nat) : rep g (slotN n E t) (slotV n e t) := by
  unfold slotN slotV
  cases Nat.blt t n
  · exact rep_undef g
  · exact he t
def aresL {P : Program} (T : TT P) (n : Nat) (E : AEnv) (A : AH) : List ResultVar → Option (List AV)
  | [] => some []
  | .tmp t :: r => match aresL T n E A r with | some l => some (slotN n E t :: l) | none => none
  | .cell t ty :: r => match aload T A ty (slotN n E t), aresL T n E A r with | some v, some l => some (v :: l) | _, _ => none
def tupA : List AV → AV
  | [v] => v
  | vs => .tup vs
theorem tupA_rep {g : G} {l : List AV} {vs : List Value} (h : reps g l vs) : rep g (tupA l) (tupleL vs) := by
  match l with
  | [] => simp only [reps] at h; subst h; exact ⟨[], rfl, rfl⟩
  | [a] => obtain ⟨u, us, rfl, h1, h2⟩ := h; simp only [reps] at h2; subst h2; exact h1
  | a :: b :: l =>
    have h' := h
    obtain ⟨u, us, rfl, h1, v, vs, rfl, h2, h3⟩ := h
    exact ⟨_, rfl, h'⟩
theorem aresL_W {P : Program} {T : TT P} {n : Nat} {g : G} {E : AEnv} {e : Env} {A : AH} {w : World} (s : Sat g A w) (he : envR g E e) : ∀ {rs : List ResultVar} {l : List AV} {K : List Value → Prop}, aresL T n E A rs = some l → (∀ vs, reps g l vs → K vs) → resW T w (rvs n e rs) K
  | [], l, K, h, k => by simp only [aresL, Option.some.injEq] at h; subst h; exact k [] rfl
  | .tmp t :: r, l, K, h, k => by
    simp only [aresL] at h
    cases h1 : aresL T n E A r with
    | none => rw [h1] at h; cases h
    | some l' =>
      rw [h1] at h
      obtain rfl := Option.some.inj h
      show resW T w (rvs n e r) (fun vs => K (slotV n e t :: vs))
      refine aresL_W s he h1 (fun vs hv => k _ ?_)
      exact ⟨_, vs, rfl, slotN_rep he t, hv⟩
  | .cell t ty :: r, l, K, h, k => by
    simp only [aresL] at h
    cases h0 : aload T A ty (slotN n E t) with
    | none => rw [h0] at h; cases h
    | some v =>
      cases h1 : aresL T n E A r with
      | none => rw [h0, h1] at h; cases h
      | some l' =>
        rw [h0, h1] at h
        obtain rfl := Option.some.inj h
        refine aload_W s (slotN_rep he t) h0 (fun u hu => aresL_W s he h1 (fun vs hv => k _ ?_))
        exact ⟨u, vs, rfl, hu, hv⟩
inductive AM where
  | returning
  | panicking (ch : List (AV × Bool))
def repM' (g : G) : AM → FrameMode → Prop
  | .returning, u => u = .returning
  | .panicking ch, u => ∃ ch', u = .panicking ch' ∧ repCh g ch ch'
def settleA : AM → AM
  | .panicking ((_, true) :: _) => .returning
  | m => m
def raisedA (u : AM) (ch : List (AV × Bool)) : AM := match u with
  | .panicking old => .panicking (ch ++ old)
  | _ => .panicking ch
def recA : AM → AV × AM
  | .panicking ((v, false) :: older) => (v, .panicking ((v, true) :: older))
  | u => (.nili, u)
theorem repCh_goexit {g : G} : ∀ {c : List (AV × Bool)} {ch : List PanicEntry}, repCh g c ch → ch.dropWhile (!·.goexit) = []
  | [], _, h => by simp only [repCh] at h; rw [h]; rfl
  | (a, b) :: c, _, ⟨v, ch', h1, h2, h3⟩ => by rw [h1]; simp [repCh_goexit h3]
theorem settleA_rep {g : G} {u : AM} {u' : FrameMode} (h : repM' g u u') : repM' g (settleA u) (settle u') := by
  cases u with
  | returning => simp only [repM'] at h; rw [h]; rfl
  | panicking ch =>
    obtain ⟨ch', rfl, hc⟩ := h
    cases ch with
    | nil => simp only [repCh] at hc; subst hc; exact ⟨[], rfl, rfl⟩
    | cons p older =>
      obtain ⟨a, b⟩ := p
      obtain ⟨v, ch'', rfl, h1, h2⟩ := id hc
      cases b
      · exact ⟨_, rfl, hc⟩
      · simp only [settleA, settle, repCh_goexit h2]; rfl
theorem repCh_app {g : G} : ∀ {c d : List (AV × Bool)} {c' d' : List PanicEntry}, repCh g c c' → repCh g d d' → repCh g (c ++ d) (c' ++ d')
  | [], d, c', d', h, k => by simp only [repCh] at h; rw [h]; exact k
  | (a, b) :: c, d, _, d', ⟨v, ch', h1, h2, h3⟩, k => ⟨v, ch' ++ d', by rw [h1]; rfl, h2, repCh_app h3 k⟩
theorem raisedA_rep {g : G} {u : AM} {u' : FrameMode} {ch : List (AV × Bool)} {ch' : List PanicEntry} (h : repM' g u u') (hc : repCh g ch ch') : repM' g (raisedA u ch) (raised u' ch') := by
  cases u with
  | returning => simp only [repM'] at h; rw [h]; exact ⟨ch', rfl, hc⟩
  | panicking old => obtain ⟨o, rfl, ho⟩ := h; exact ⟨_, rfl, repCh_app hc ho⟩
theorem recA_rep {g : G} {u : AM} {u' : FrameMode} (h : repM' g u u') : rep g (recA u).1 (recOf u').1 ∧ repM' g (recA u).2 (recOf u').2 := by
  cases u with
  | returning => simp only [repM'] at h; rw [h]; exact ⟨rfl, rfl⟩
  | panicking ch =>
    obtain ⟨ch', rfl, hc⟩ := h
    cases ch with
    | nil => simp only [repCh] at hc; subst hc; exact ⟨rfl, [], rfl, rfl⟩
    | cons p older =>
      obtain ⟨a, b⟩ := p
      obtain ⟨v, ch'', rfl, h1, h2⟩ := id hc
      cases b
      · exact ⟨h1, _, rfl, v, ch'', rfl, h1, h2⟩
      · exact ⟨rfl, _, rfl, hc⟩
theorem repM'_mono {g g' : G} (h : g.le g') {u : AM} {u' : FrameMode} (k : repM' g u u') : repM' g' u u' := by
  cases u with
  | returning => exact k
  | panicking ch => obtain ⟨c, h1, h2⟩ := k; exact ⟨c, h1, repCh_mono h h2⟩
abbrev CallDF := FuncId → List AV → AH → AM → Option (AE × AM × AH)
def CallDOk (P : Program) (callD : CallDF) : Prop := ∀ f args A u e u' A', callD f args A u = some (e, u', A') → ∀ g w vs m, Sat g A w → reps g args vs → repM' g u m →
  CallsD P f vs.toArray m w (fun en m' w' => ∃ g', Fut g A w g' A' w' ∧ repE g' e en ∧ repM' g' u' m')
def CallDV (callD : CallDF) : Prop := ∀ f args A u e u' A', callD f args A u = some (e, u', A') → leV A A'
section
variable {P : Program} (X : Cx P) (callD : CallDF) (n : Nat) (rs : List ResultVar) (E : AEnv)
def aleave : List ADef → AM → AH → Option (AE × AH)
  | [], .returning, A => match aresL X.T n E A rs with | some l => some (.ret (tupA l), A) | none => none
  | [], .panicking ch, A => some (.pan ch, A)
  | .fn f args :: ds, u, A => bif X.ok f then (match callD f args A u with
    | some (.ret _, u', A') => aleave ds (settleA u') A'
    | some (.pan ch, u', A') => aleave ds (raisedA u' ch) A'
    | none => none) else none
  | .mark i :: ds, u, A => match A.get i with
    | some (.misc v 0) => aleave ds u (A.set i (.misc (v + 1) 2))
    | _ => none
end
theorem aleave_W {P : Program} {X : Cx P} {callD : CallDF} (hD : CallDOk P callD) {n : Nat} {rs : List ResultVar} {E : AEnv} {e : Env} {g0 : G} {A0 : AH} {w0 : World} (s0 : Sat g0 A0 w0) {ae : AE} {Af : AH} :
    ∀ {ds : List ADef} {u : AM} {A : AH}, aleave X callD n rs E ds u A = some (ae, Af) → ∀ {g : G} {w : World} {dd : List Deferred} {m : FrameMode}, Fut g0 A0 w0 g A w → envR g E e → repDs g ds dd → repM' g u m →
      LeavesY X.T X.ok (rvs n e rs) (fun en w' => ∃ g', Fut g0 A0 w0 g' Af w' ∧ repE g' ae en) dd m w
  | [], .returning, A, h, g, w, dd, m, F, he, hd, hm => by
    simp only [repDs] at hd; subst hd
    simp only [repM'] at hm; subst hm
    simp only [aleave] at h
    split at h <;> try cases h
    rename_i l hl
    exact aresL_W F.sat he hl (fun vs hv => ⟨g, F, _, rfl, tupA_rep hv⟩)
  | [], .panicking ch, A, h, g, w, dd, m, F, he, hd, hm => by
    simp only [repDs] at hd; subst hd
    obtain ⟨ch', rfl, hc⟩ := hm
    simp only [aleave, Option.some.injEq, Prod.mk.injEq] at h
    obtain ⟨rfl, rfl⟩ := h
    exact ⟨g, F, ch', rfl, hc⟩
  | .mark i :: ds, u, A, h, g, w, dd, m, F, he, hd, hm => by
    obtain ⟨d', dd', rfl, ⟨b, ht, hv⟩, hds⟩ := hd
    have hmr : m ≠ .run := by
      cases u with
      | returning => simp only [repM'] at hm; rw [hm]; simp
      | panicking ch => obtain ⟨c, rfl, _⟩ := hm; simp
    unfold aleave at h
    split at h <;> try cases h
    rename_i v hg
    obtain ⟨o, x, k1, k2, k3⟩ := F.sat.var i b hv
    rw [hg] at k1
    obtain rfl := Option.some.inj k1
    obtain rfl : x = .deferred (some []) := k3
    have F1 : Fut g A w g (A.set i (.misc (v + 1) 2)) (w.putObj b (.deferred none)) := Fut.store (ver := v) (x := .deferred none) F.sat hv (by simp only [AH.ver, hg, AO.ver]; omega) (World.putObj_heap_same (heap_lt k2)) trivial (fun c hc => World.putObj_heap_other hc) ⟨by simp, rfl, rfl⟩
    unfold LeavesY
    rw [ht]
    exact ⟨hmr, k2, aleave_W hD s0 h (F.trans s0 F1) he hds hm⟩
  | .fn f args :: ds, u, A, h, g, w, dd, m, F, he, hd, hm => by
    obtain ⟨d', dd', rfl, ⟨cap, ht, hargs⟩, hds⟩ := hd
    have hmr : m ≠ .run := by
      cases u with
      | returning => simp only [repM'] at hm; rw [hm]; simp
      | panicking ch => obtain ⟨c, rfl, _⟩ := hm; simp
    unfold aleave at h
    cases hok : X.ok f <;> simp only [hok, cond_true, cond_false] at h
    · cases h
    unfold LeavesY
    rw [ht]
    refine ⟨hmr, ?_⟩
    simp only [hok, cond_true]
    have eqa : (d'.args.toList ++ cap.toList).toArray = d'.args ++ cap := by apply Array.ext'; simp
    split at h
    · rename_i v u' A' hcd
      have := hD _ _ _ _ _ _ _ hcd g w _ m F.sat hargs hm
      rw [eqa] at this
      refine callsD_mono this ?_
      rintro en m' w' ⟨g', F', ⟨v', rfl, _⟩, hm'⟩
      exact aleave_W hD s0 h (F.trans s0 F') (envR_mono F'.le he) (repDs_mono F'.le hds) (settleA_rep hm')
    · rename_i ch u' A' hcd
      have := hD _ _ _ _ _ _ _ hcd g w _ m F.sat hargs hm
      rw [eqa] at this
      refine callsD_mono this ?_
      rintro en m' w' ⟨g', F', ⟨ch', rfl, hch⟩, hm'⟩
      exact aleave_W hD s0 h (F.trans s0 F') (envR_mono F'.le he) (repDs_mono F'.le hds) (raisedA_rep hm' hch)
    · cases h
  where
  callsD_mono {P : Program} {f : FuncId} {args : Array Value} {u : FrameMode} {w : World} {R R' : Ending → FrameMode → World → Prop} (h : CallsD P f args u w R) (k : ∀ e u w, R e u w → R' e u w) : CallsD P f args u w R' := by
    intro c cs hu
    obtain ⟨en, u', w', fr, hq, x⟩ := h c cs hu
    exact ⟨en, u', w', fr, k _ _ _ hq, x⟩
theorem aleave_V {P : Program} {X : Cx P} {callD : CallDF} (hD : CallDV callD) {n : Nat} {rs : List ResultVar} {E : AEnv} {ae : AE} {Af : AH} : ∀ {ds : List ADef} {u : AM} {A : AH}, aleave X callD n rs E ds u A = some (ae, Af) → leV A Af
  | [], .returning, A, h => by
    simp only [aleave] at h
    split at h <;> try cases h
    exact leV.refl _
  | [], .panicking ch, A, h => by simp only [aleave, Option.some.injEq, Prod.mk.injEq] at h; rw [← h.2]; exact leV.refl _
  | .mark i :: ds, u, A, h => by
    unfold aleave at h
    split at h <;> try cases h
    rename_i hg
    exact (leV_set hg (by simp [AO.ver])).trans (aleave_V hD h)
  | .fn f args :: ds, u, A, h => by
    unfold aleave at h
    cases hok : X.ok f <;> simp only [hok, cond_true, cond_false] at h
    · cases h
    split at h
    · rename_i v u' A' hcd; exact (hD _ _ _ _ _ _ _ hcd).trans (aleave_V hD h)
    · rename_i v u' A' hcd; exact (hD _ _ _ _ _ _ _ hcd).trans (aleave_V hD h)
    · cases h
end Go.X

namespace Go.X
open Go Go.W
set_option linter.unusedSimpArgs false
set_option linter.unusedVariables false

theorem enterRecX {P : Program} {T : TT P} {f : FuncId} {fn : Func} {c rest : Code} {d e : Nat} {args : List Value} {u u' : FrameMode} {v : Value} {w : World}
    {R : Ending → FrameMode → World → Prop} (hf : P.funcs[f]? = some fn) (hb : fn.body = some c) (hr : isRec c = some (d, e, rest)) (hn : args.length ≤ fn.ntmps) (hd : Nat.blt d fn.ntmps = true) (hu : recOf u = (v, u'))
    (h : rest.wp P (liftQ fn.ntmps (postD T fn.ntmps fn.results.toList fun en w' => R en u' w')) (act fn.ntmps (up (up (argsE args) d v) e v) []) w) : CallsD P f args.toArray u w R := by
  refine callsD_of_wpS hf hb fun c₀ cs hc => ?_
  rw [← act_args args fn.ntmps hn]
  unfold isRec at hr
  split at hr <;> try cases hr
  rename_i id ops rest'
  split at hr <;> try cases hr
  rename_i o1 o2 hops
  split at hr <;> try cases hr
  rename_i cl d0 d1 e0 h1 h2 h3 h4 h5 h6
  split at hr <;> try cases hr
  rename_i hcal hargs
  cases hdd : Nat.beq d0 d1 <;> simp only [hdd, cond_true, cond_false] at hr <;> try cases hr
  obtain rfl := Nat.eq_of_beq_eq_true hdd
  have hops' : ops = #[o1, o2] := by rw [← Array.toArray_toList (xs := ops), hops]
  subst hops'
  refine wpS_seq (wpS_region ?_)
  have hsz : (#[o1, o2] : Array Oper).size = 2 := rfl
  have hrun1 : ∀ a : Act, (execOp a.eval o1).run P w = .ok .recover w := by
    intro a
    obtain ⟨dst, op, ty, pos, after, guard⟩ := o1
    simp only at h1 h2 h3
    subst h1
    obtain ⟨callee, args', ats⟩ := cl
    simp only at hcal hargs
    subst hcal
    have : args' = #[] := by rw [← Array.toArray_toList (xs := args'), hargs]
    subst this
    simp [execOp, resolve, invoke, builtin]
  have hrun2 : ∀ a : Act, (execOp a.eval o2).run P w = .ok (.value (a.eval (.tmp d))) w := by
    intro a
    obtain ⟨dst, op, ty, pos, after, guard⟩ := o2
    simp only at h4 h5 h6
    subst h4
    simp [execOp]
  have hw1 : ∀ a : Act, Region.wanted o1 (yielded #[o1, o2] a.tmps) = true := fun a => by simp [Region.wanted, h3]
  have hw2 : ∀ a : Act, Region.wanted o2 (yielded #[o1, o2] a.tmps) = true := fun a => by simp [Region.wanted, h6]
  have hlist : List.range (#[o1, o2] : Array Oper).size = [0, 1] := rfl
  rw [hlist]
  have fin : (c₀ :: cs).length = (c₀ :: cs).length → wpOpsS P #[o1, o2] (Exit.thenS (Code.wpS P rest (bodyPostS P fn c₀ cs R)) (bodyPostS P fn c₀ cs R)) [1] ((act fn.ntmps (argsE args) []).put (some d) v) ({ c₀ with mode := u' } :: cs) w := by
    intro _
    unfold wpOpsS
    simp only [List.getElem?_toArray, List.getElem?_cons_succ, List.getElem?_cons_zero, hw2, if_true, hrun2, Oper.upon, h5]
    unfold wpOpsS
    simp only [Exit.thenS]
    rw [act_put, act_eval, act_put]
    have hev : ev fn.ntmps (put (argsE args) (some d) v) (.tmp d) = v := by
      simp [ev, hd, put, up]
    rw [hev]
    refine wpS_of_wp (wp_mono (h) ?_)
    rintro ex a' w' ⟨e', ds, rfl, hq⟩
    cases ds with
    | cons => exact hq.elim
    | nil =>
    cases ex <;> simp only [postD] at hq
    · obtain ⟨vs, k, hr⟩ := results_run (ds := []) hq
      exact ⟨rfl, u', rfl, _, hr, k⟩
    · obtain ⟨vs, k, hr⟩ := results_run (ds := []) hq
      exact ⟨rfl, u', rfl, _, hr, k⟩
    · exact ⟨rfl, u', rfl, hq⟩
  unfold wpOpsS
  simp only [List.getElem?_toArray, List.getElem?_cons_zero, hw1, if_true, hrun1, h2]
  rcases recoverD_recOf c₀ cs with hr | ⟨hr, hnil⟩
  · rw [hr]
    simp only [hc, hu]
    exact fin rfl
  · rw [hr]
    rw [hc, hu] at hnil
    obtain ⟨rfl, rfl⟩ := Prod.mk.inj hnil
    have : ({ c₀ with mode := c₀.mode } : Frame) = c₀ := rfl
    simp only
    have := fin rfl
    rw [← hc] at this
    exact this


theorem enterX {P : Program} {T : TT P} {ok : Nat → Bool} (hok : ∀ f, ok f = true → enters P f) {f : FuncId} {fn : Func} {c : Code} {args : List Value} {w : World} {R : Ending → World → Prop}
    (hf : P.funcs[f]? = some fn) (hb : fn.body = some c) (hn : args.length ≤ fn.ntmps) (h : c.wp P (liftQ fn.ntmps (postY T ok fn.ntmps fn.results.toList R)) (act fn.ntmps (argsE args) []) w) : Calls P f args.toArray w R := by
  refine calls_of_wp_marks hf hb ?_
  rw [← act_args args fn.ntmps hn]
  refine wp_mono h ?_
  rintro ex a' w' ⟨e, ds, rfl, hq⟩
  cases ex <;> simp only [postY] at hq <;> first | exact hq.elim | exact leavesY_sound hok ds _ _ hq

/-! arguments -/
def argsA : List AV → Nat → AEnv → AEnv
  | [], _, E => E
  | a :: as, i, E => argsA as (i + 1) (E.set ed i a)
theorem slot_argsA : ∀ (l : List AV) (i : Nat) (E : AEnv) (t : Nat), slot (argsA l i E) t = if t < i then slot E t else match l[t - i]? with | some a => a | none => slot E t
  | [], i, E, t => by simp [argsA]
  | a :: as, i, E, t => by
    rw [argsA, slot_argsA as (i + 1)]
    have hset : ∀ j, slot (E.set ed i a) j = if j = i then a else slot E j := fun j => by
      unfold slot
      by_cases h : j = i
      · subst h; rw [Tr.get_set_same, if_pos rfl]
      · rw [Tr.get_set_ne _ _ _ h, if_neg h]
    simp only [hset]
    by_cases h1 : t < i
    · rw [if_pos (by omega), if_pos h1, if_neg (by omega)]
    · by_cases h2 : t = i
      · subst h2
        rw [if_pos (by omega), if_pos rfl, if_neg (by omega)]
        simp
      · rw [if_neg (by omega), if_neg h2, if_neg h1]
        have : t - i = (t - (i + 1)) + 1 := by omega
        rw [this]
        simp
theorem argsA_rep {g : G} {l : List AV} {vs : List Value} (h : reps g l vs) : envR g (argsA l 0 .e) (argsE vs) := by
  intro t
  rw [slot_argsA, argsE_eq, if_neg (by omega), Nat.sub_zero]
  have hlen := reps_len h
  cases hl : l[t]? with
  | none =>
    have : vs[t]? = none := by
      rw [List.getElem?_eq_none_iff] at hl ⊢; omega
    simp only [List.getD, this, Option.getD_none]
    have : slot (.e : AEnv) t = .tup [] := by unfold slot; rw [get_e]
    rw [this]; exact rep_undef g
  | some a =>
    obtain ⟨v, h1, h2⟩ := reps_get h hl
    simp only [List.getD, h1, Option.getD_some]; exact h2
theorem reps_of_len {g : G} {l : List AV} {vs : List Value} (h : reps g l vs) {n : Nat} (hn : Nat.ble l.length n = true) : vs.length ≤ n := by
  rw [reps_len h]; exact Nat.le_of_ble_eq_true hn

section
variable {P : Program} (X : Cx P) (ext : ExtF)
/-- a deferred call of a function that begins with recover -/
def callDX (call : CallF) (lf : Nat) : CallDF := fun f args A u => match X.fn f with
  | none => none
  | some F => match F.fn.body with
    | none => none
    | some c => match isRec c with
      | none => none
      | some (d, e, rest) => bif Nat.ble args.length F.fn.ntmps && Nat.blt d F.fn.ntmps then
          match acode X call ext F.fn.ntmps lf F.ord rest (((argsA args 0 .e).set ed d (recA u).1).set ed e (recA u).1) [] A with
          | some (.normal, E, [], A') => (match aresL X.T F.fn.ntmps E A' F.fn.results.toList with | some l => some (.ret (tupA l), (recA u).2, A') | none => none)
          | some (.ret, E, [], A') => (match aresL X.T F.fn.ntmps E A' F.fn.results.toList with | some l => some (.ret (tupA l), (recA u).2, A') | none => none)
          | some (.pan ch, E, [], A') => some (.pan ch, (recA u).2, A')
          | _ => none
        else none
def callX (orc : FuncId → Option (List AV → AH → Option (AE × AH))) : Nat → CallF
  | 0, _, _, _ => none
  | k + 1, f, args, A => match orc f with
    | some F => F args A
    | none => match X.fn f with
      | none => none
      | some F => match F.fn.body with
        | none => none
        | some c => bif Nat.ble args.length F.fn.ntmps then
            match acode X (callX orc k) ext F.fn.ntmps k F.ord c (argsA args 0 .e) [] A with
            | some (.normal, E, ds, A') => aleave X (callDX X ext (callX orc k) k) F.fn.ntmps F.fn.results.toList E ds .returning A'
            | some (.ret, E, ds, A') => aleave X (callDX X ext (callX orc k) k) F.fn.ntmps F.fn.results.toList E ds .returning A'
            | some (.pan ch, E, ds, A') => aleave X (callDX X ext (callX orc k) k) F.fn.ntmps F.fn.results.toList E ds (.panicking ch) A'
            | _ => none
          else none
end
/-- the orders of all functions fit -/
def CxOk {P : Program} (X : Cx P) : Prop := ∀ f F, X.fn f = some F → ∀ c, F.fn.body = some c → ordsOk X.T F.ord c = true
def OrcOk (P : Program) (orc : FuncId → Option (List AV → AH → Option (AE × AH))) : Prop := ∀ f F, orc f = some F → ∀ args A e A', F args A = some (e, A') → leV A A' ∧ ∀ g w vs, Sat g A w → reps g args vs →
  Calls P f vs.toArray w (fun en w' => ∃ g', Fut g A w g' A' w' ∧ repE g' e en)
theorem ordsOk_rec {P : Program} {T : TT P} {ord : List (Nat × OT)} {c rest : Code} {d e : Nat} (h : isRec c = some (d, e, rest)) (ho : ordsOk T ord c = true) : ordsOk T ord rest = true := by
  unfold isRec at h
  split at h <;> try cases h
  split at h <;> try cases h
  split at h <;> try cases h
  split at h <;> try cases h
  rename_i d0 _ _ _ _ _ _ d1 _ _ _ _ _
  revert h
  generalize Nat.beq _ _ = b
  intro h
  cases b <;> simp only [cond_true, cond_false] at h
  · cases h
  · simp only [Option.some.injEq, Prod.mk.injEq] at h
    obtain ⟨_, _, rfl⟩ := h
    simp only [ordsOk, Bool.true_and] at ho
    exact ho
theorem callDX_W {P : Program} {X : Cx P} (hX : CxOk X) {ext : ExtF} {call : CallF} (hc : CallOk P call) (hx : ExtOk P ext) (hcV : CallV call) (hxV : ExtV ext) {lf : Nat} : CallDOk P (callDX X ext call lf) := by
  intro f args A u ae u' Af h g w vs m s ha hm
  unfold callDX at h
  split at h
  · cases h
  rename_i F hF
  split at h
  · cases h
  rename_i c hbody
  split at h
  · cases h
  rename_i d e rest hrec
  cases hb : (Nat.ble args.length F.fn.ntmps && Nat.blt d F.fn.ntmps) <;> simp only [hb, cond_true, cond_false] at h
  · cases h
  simp only [Bool.and_eq_true] at hb
  obtain ⟨hv, hm'⟩ := recA_rep hm
  have he : envR g (((argsA args 0 .e).set ed d (recA u).1).set ed e (recA u).1) (up (up (argsE vs) d (recOf m).1) e (recOf m).1) :=
    envR_put (d := some e) (envR_put (d := some d) (argsA_rep ha) hv) hv
  have hord := ordsOk_rec hrec (hX f F hF c hbody)
  refine enterRecX (T := X.T) (X.hfn f F hF) hbody hrec (reps_of_len ha hb.1) hb.2 (v := (recOf m).1) (u' := (recOf m).2) rfl ?_
  have fin : ∀ {E A'} {l : List AV} {ex : Exit} {e' : Env} {dd : List Deferred} {w' : World} {g' : G}, aresL X.T F.fn.ntmps E A' F.fn.results.toList = some l → Fut g A w g' A' w' → envR g' E e' → repDs g' [] dd → (ex = .normal ∨ ex = .ret) →
      postD X.T F.fn.ntmps F.fn.results.toList (fun en w' => ∃ g', Fut g A w g' A' w' ∧ repE g' (.ret (tupA l)) en ∧ repM' g' (recA u).2 (recOf m).2) ex e' dd w' := by
    intro E A' l ex e' dd w' g' hl F' he' hd hex
    simp only [repDs] at hd; subst hd
    have key := aresL_W F'.sat he' hl (K := fun vs => ∃ g', Fut g A w g' A' w' ∧ repE g' (.ret (tupA l)) (.returned (tupleL vs)) ∧ repM' g' (recA u).2 (recOf m).2) (fun vs hvs => ⟨g', F', ⟨_, rfl, tupA_rep hvs⟩, repM'_mono F'.le hm'⟩)
    rcases hex with rfl | rfl <;> exact key
  split at h
  · rename_i E A' hcode
    split at h <;> try cases h
    rename_i l hl
    refine wp_mono (acode_W hc hx hcV hxV rest hord hcode s he rfl) ?_
    rintro ex a w' ⟨e', dd, rfl, g', F', rfl, he', hd⟩
    exact ⟨e', dd, rfl, fin hl F' he' hd (.inl rfl)⟩
  · rename_i E A' hcode
    split at h <;> try cases h
    rename_i l hl
    refine wp_mono (acode_W hc hx hcV hxV rest hord hcode s he rfl) ?_
    rintro ex a w' ⟨e', dd, rfl, g', F', rfl, he', hd⟩
    exact ⟨e', dd, rfl, fin hl F' he' hd (.inr rfl)⟩
  · rename_i ch E A' hcode
    simp only [Option.some.injEq, Prod.mk.injEq] at h
    obtain ⟨rfl, rfl, rfl⟩ := h
    refine wp_mono (acode_W hc hx hcV hxV rest hord hcode s he rfl) ?_
    rintro ex a w' ⟨e', dd, rfl, g', F', ⟨ch', rfl, hch⟩, he', hd⟩
    simp only [repDs] at hd; subst hd
    exact ⟨e', [], rfl, g', F', ⟨ch', rfl, hch⟩, repM'_mono F'.le hm'⟩
  · cases h
theorem callDX_V {P : Program} {X : Cx P} {ext : ExtF} {call : CallF} (hcV : CallV call) (hxV : ExtV ext) {lf : Nat} : CallDV (callDX X ext call lf) := by
  intro f args A u ae u' Af h
  unfold callDX at h
  split at h
  · cases h
  split at h
  · cases h
  split at h
  · cases h
  rename_i F _ _ c _ _ d e rest _
  cases hb : (Nat.ble args.length F.fn.ntmps && Nat.blt d F.fn.ntmps) <;> simp only [hb, cond_true, cond_false] at h
  · cases h
  split at h
  · rename_i E A' hcode
    split at h <;> try cases h
    exact acode_V hcV hxV _ _ _ _ _ _ _ _ hcode
  · rename_i E A' hcode
    split at h <;> try cases h
    exact acode_V hcV hxV _ _ _ _ _ _ _ _ hcode
  · rename_i ch E A' hcode
    simp only [Option.some.injEq, Prod.mk.injEq] at h
    obtain ⟨rfl, rfl, rfl⟩ := h
    exact acode_V hcV hxV _ _ _ _ _ _ _ _ hcode
  · cases h
theorem callX_V {P : Program} {X : Cx P} {ext : ExtF} (hxV : ExtV ext) {orc : FuncId → Option (List AV → AH → Option (AE × AH))} (hO : OrcOk P orc) : ∀ k, CallV (callX X ext orc k)
  | 0, f, args, A, e, A', h => by cases h
  | k + 1, f, args, A, e, A', h => by
    have hcV := callX_V (X := X) hxV hO k
    have hD : CallDV (callDX X ext (callX X ext orc k) k) := callDX_V hcV hxV
    unfold callX at h
    split at h
    · rename_i F hF; exact (hO f F hF _ _ _ _ h).1
    split at h
    · cases h
    split at h
    · cases h
    rename_i F _ _ c _
    cases hb : Nat.ble args.length F.fn.ntmps <;> simp only [hb, cond_true, cond_false] at h
    · cases h
    split at h
    · rename_i E ds A1 hcode; exact (acode_V hcV hxV _ _ _ _ _ _ _ _ hcode).trans (aleave_V hD h)
    · rename_i E ds A1 hcode; exact (acode_V hcV hxV _ _ _ _ _ _ _ _ hcode).trans (aleave_V hD h)
    · rename_i ch E ds A1 hcode; exact (acode_V hcV hxV _ _ _ _ _ _ _ _ hcode).trans (aleave_V hD h)
    · cases h
/-- what the abstract machine reckons is what the program does -/
theorem callX_W {P : Program} {X : Cx P} (hX : CxOk X) {ext : ExtF} (hx : ExtOk P ext) (hxV : ExtV ext) {orc : FuncId → Option (List AV → AH → Option (AE × AH))} (hO : OrcOk P orc) : ∀ k, CallOk P (callX X ext orc k)
  | 0, f, args, A, e, A', h => by cases h
  | k + 1, f, args, A, ae, Af, h => by
    have hcV := callX_V (X := X) hxV hO k
    have hc := callX_W hX hx hxV hO k
    have hD : CallDOk P (callDX X ext (callX X ext orc k) k) := callDX_W hX hc hx hcV hxV
    intro g w vs s ha
    unfold callX at h
    split at h
    · rename_i F hF; exact (hO f F hF _ _ _ _ h).2 g w vs s ha
    split at h
    · cases h
    rename_i F hF
    split at h
    · cases h
    rename_i c hbody
    cases hb : Nat.ble args.length F.fn.ntmps <;> simp only [hb, cond_true, cond_false] at h
    · cases h
    refine enterX (T := X.T) X.hok (X.hfn f F hF) hbody (reps_of_len ha hb) ?_
    have hord := hX f F hF c hbody
    split at h
    · rename_i E ds A1 hcode
      refine wp_mono (acode_W hc hx hcV hxV c hord hcode s (argsA_rep ha) rfl) ?_
      rintro ex a w' ⟨e', dd, rfl, g', F', rfl, he', hd⟩
      exact ⟨e', dd, rfl, aleave_W hD s h F' he' hd rfl⟩
    · rename_i E ds A1 hcode
      refine wp_mono (acode_W hc hx hcV hxV c hord hcode s (argsA_rep ha) rfl) ?_
      rintro ex a w' ⟨e', dd, rfl, g', F', rfl, he', hd⟩
      exact ⟨e', dd, rfl, aleave_W hD s h F' he' hd rfl⟩
    · rename_i ch E ds A1 hcode
      refine wp_mono (acode_W hc hx hcV hxV c hord hcode s (argsA_rep ha) rfl) ?_
      rintro ex a w' ⟨e', dd, rfl, g', F', ⟨ch', rfl, hch⟩, he', hd⟩
      exact ⟨e', dd, rfl, aleave_W hD s h F' he' hd ⟨ch', rfl, hch⟩⟩
    · cases h
end Go.X
