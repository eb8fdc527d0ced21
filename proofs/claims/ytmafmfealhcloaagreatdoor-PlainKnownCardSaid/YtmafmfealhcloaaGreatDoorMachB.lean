/-
  The machine: operations and calls.
-/
import Derived.Laws.MakeOwn
import Derived.Test.YtmafmfealhcloaaGreatDoorMachA
namespace Go.X
open Go Go.W
set_option linter.unusedSimpArgs false
set_option linter.unusedVariables false

/-! what a call hands back -/
def fitAny {P : Program} (T : TT P) (t : TypeId) (a : AV) : Bool := match T.und t with
  | some td => bif isAggW td then (match a with | .agg cs => fitTys (leavesOf T 8 t) cs | _ => false) else fitTy (leaf td) a
  | none => false
def fitAnys {P : Program} (T : TT P) : List TypeId → List AV → Bool
  | [], [] => true
  | t :: ts, a :: as => fitAny T t a && fitAnys T ts as
  | _, _ => false
def fitRetL {P : Program} (T : TT P) (ts : List TypeId) (a : AV) : Bool := match ts with
  | [] => match a with | .tup [] => true | _ => false
  | [t] => fitAny T t a
  | ts => match a with | .tup as => fitAnys T ts as | _ => false
def fitRet {P : Program} (T : TT P) (ty : TypeId) (a : AV) : Bool := fitRetL T (resTys T ty) a
theorem cellsAny_of {g : G} : ∀ (ts : List Ty) (cs : List AV) (vs : List Value) (K : List Value → Prop), fitTys ts cs = true → reps g cs vs → K vs → cellsAny ts K
  | [], [], vs, K, _, hr, k => by simp only [reps] at hr; subst hr; exact k
  | t :: ts, c :: cs, _, K, hf, ⟨u, us, rfl, h2, h3⟩, k => by
    simp only [fitTys, Bool.and_eq_true] at hf
    obtain ⟨x, rfl⟩ := fitTy_val hf.1 h2
    exact ⟨x, cellsAny_of ts cs us _ hf.2 h3 k⟩
  | [], _ :: _, _, _, hf, _, _ => by simp [fitTys] at hf
  | _ :: _, [], _, _, hf, _, _ => by simp [fitTys] at hf
theorem anyW_of {P : Program} {T : TT P} {g : G} {t : TypeId} {a : AV} {v : Value} {K : Value → Prop} (hf : fitAny T t a = true) (hr : rep g a v) (k : K v) : anyW T t K := by
  unfold fitAny at hf
  unfold anyW
  split at hf
  · rename_i td hu
    rw [hu]
    simp only
    cases hb : isAggW td <;> simp only [hb, cond_true, cond_false] at hf ⊢
    · obtain ⟨x, rfl⟩ := fitTy_val hf hr
      exact ⟨x, k⟩
    · split at hf
      · obtain ⟨vs, rfl, h⟩ := hr
        exact cellsAny_of _ _ vs _ hf h k
      · cases hf
  · cases hf
theorem anysW_of {P : Program} {T : TT P} {g : G} : ∀ (ts : List TypeId) (as : List AV) (vs : List Value) (K : List Value → Prop), fitAnys T ts as = true → reps g as vs → K vs → anysW T ts K
  | [], [], vs, K, _, hr, k => by simp only [reps] at hr; subst hr; exact k
  | t :: ts, a :: as, _, K, hf, ⟨u, us, rfl, h2, h3⟩, k => by
    simp only [fitAnys, Bool.and_eq_true] at hf
    exact anyW_of hf.1 h2 (anysW_of ts as us _ hf.2 h3 k)
  | [], _ :: _, _, _, hf, _, _ => by simp [fitAnys] at hf
  | _ :: _, [], _, _, hf, _, _ => by simp [fitAnys] at hf
theorem retW_of {P : Program} {T : TT P} {g : G} {ty : TypeId} {a : AV} {v : Value} {K : Value → Prop} (hf : fitRet T ty a = true) (hr : rep g a v) (k : K v) : retW T (resTys T ty) v K := by
  unfold fitRet at hf
  generalize resTys T ty = ts at hf
  unfold fitRetL at hf
  split at hf
  · split at hf
    · obtain ⟨vs, rfl, h⟩ := hr
      simp only [reps] at h; subst h
      exact ⟨rfl, k⟩
    · cases hf
  · exact anyW_of (K := fun u => v = u ∧ K u) hf hr ⟨rfl, k⟩
  · split at hf
    · obtain ⟨vs, rfl, h⟩ := hr
      rename_i h1 h2 _ _
      unfold retW
      split
      · exact absurd rfl h1
      · exact absurd rfl (h2 _)
      · exact anysW_of _ _ vs _ hf h ⟨rfl, k⟩
    · cases hf
theorem semT_of {P : Program} {T : TT P} {g : G} {sm : Sem Value} {ty : TypeId} {w w' : World} {a : AV} {v : Value} {K : Value → World → Prop} {X : List PanicEntry → World → Prop} (h : sm.run P w = .ok v w') (hf : fitRet T ty a = true) (hr : rep g a v) (k : K v w') :
    semT T sm ty w K X := by
  unfold semT semW; rw [h]; exact retW_of hf hr k

/-! append -/
theorem setL_eq : ∀ (nvs vs : List Value) (o : Nat), o + nvs.length ≤ vs.length → setL vs o nvs = vs.take o ++ nvs ++ vs.drop (o + nvs.length)
  | [], vs, o, h => by simp [setL]
  | v :: nvs, vs, o, h => by
    simp only [List.length_cons] at h
    have ho : o < vs.length := by omega
    have e1 : (vs.set o v).take (o + 1) = vs.take o ++ [v] := by
      rw [List.take_add_one, List.take_set_of_le (Nat.le_refl o), List.getElem?_set_self ho]; rfl
    have e2 : (vs.set o v).drop (o + 1 + nvs.length) = vs.drop (o + (nvs.length + 1)) := by
      rw [List.drop_set_of_lt (by omega)]; congr 1; omega
    rw [setL, setL_eq nvs (vs.set o v) (o + 1) (by simp; omega), e1, e2]
    simp
theorem Fut.grow {g : G} {A : AH} {w w' : World} {i b L : Nat} {S ns : List AV} {nvs : List Value} {vs : Array Value} {e : TypeId} {fz : Nat × Nat} (s : Sat g A w) (ht : g.tok i = some b) (hs : g.sig b = some (S, L))
    (hh : w.heap[b]? = some (.cells vs e fz)) (hL : S.length + ns.length ≤ L) (hr : reps g ns nvs) (h1 : w'.heap[b]? = some (.cells (setL vs.toList S.length nvs).toArray e fz)) (h2 : ∀ c, c ≠ b → w'.heap[c]? = w.heap[c]?) (h3 : SameW w w') :
    Fut g A w ((g.setSig b (S ++ ns) L).setTok i (A.stamp i + 1) b) (A.setStamp i (A.stamp i + 1)) w' := by
  obtain ⟨vs', e', fz', k1, k2, k3, k4, k5⟩ := s.sig b S L hs
  rw [hh] at k1
  obtain ⟨rfl, rfl, rfl⟩ := Obj.cells.inj (Option.some.inj k1)
  have hnl := reps_len hr
  have hvl : vs.toList.length = L := by rw [← k2]; simp
  have hset := setL_eq nvs vs.toList S.length (by omega)
  have hle : g.le ((g.setSig b (S ++ ns) L).setTok i (A.stamp i + 1) b) := by
    refine ⟨fun j c hv => hv, fun c S' L' hc => ?_, fun j => ?_, fun j c he hc => ?_⟩
    · simp only [G.setTok, G.setSig]
      by_cases hcb : c = b
      · subst hcb; rw [hs] at hc; obtain ⟨rfl, rfl⟩ := Prod.mk.inj (Option.some.inj hc)
        exact ⟨ns, by simp⟩
      · exact ⟨[], by rw [if_neg hcb, hc]; simp⟩
    · simp only [G.setTok]; split
      · rename_i e; subst e; rw [s.stamp]; omega
      · exact Nat.le_refl _
    · simp only [G.setTok] at he ⊢
      by_cases hji : j = i
      · subst hji; rw [if_pos rfl, s.stamp] at he; omega
      · rw [if_neg hji]
        refine ⟨hc, ?_⟩
        have : c ≠ b := fun e => hji (s.tok j i b (by rw [← e]; exact hc) ht)
        simp only [G.setSig, if_neg this]
  refine ⟨hle, ⟨fun j c hj => ?_, fun c S' L' hc => ?_, s.inj, fun j c hj => ?_, fun j k c hj hk => ?_, fun j c hj => ?_, fun j => ?_⟩, fun c S' L' j hc hj => ?_, fun j c hj _ => ?_, fun j hj => ⟨hj, Nat.le_refl _⟩, fun _ _ h => .inl h, h3.2, by rw [h3.1]; exact Nat.le_refl _, fun c _ q1 q2 => ⟨q1, ?_, h2 c (fun e => by rw [e, hs] at q2; cases q2)⟩⟩
  · have : c ≠ b := fun e => by have := s.dis j c hj; rw [e, hs] at this; cases this
    obtain ⟨o, x, q1, q2, q3⟩ := s.var j c hj
    exact ⟨o, x, q1, by rw [h2 c this]; exact q2, repO_mono hle q3⟩
  · simp only [G.setTok, G.setSig] at hc
    by_cases hcb : c = b
    · subst hcb
      rw [if_pos rfl] at hc
      obtain ⟨rfl, rfl⟩ := Prod.mk.inj (Option.some.inj hc)
      refine ⟨_, e, fz, h1, by rw [hset]; simp; omega, by simp; omega, k4, ?_⟩
      rw [hset]
      have : (S ++ ns).length = (vs.toList.take S.length ++ nvs).length := by simp; omega
      rw [this]
      simp only []
      rw [List.take_left' rfl]
      exact reps_mono hle _ (reps_app k5 hr)
    · rw [if_neg hcb] at hc
      obtain ⟨vs', e', fz', q1, q2, q3, q4, q5⟩ := s.sig c S' L' hc
      exact ⟨vs', e', fz', by rw [h2 c hcb]; exact q1, q2, q3, q4, reps_mono hle _ q5⟩
  · have : c ≠ b := fun e => by have := s.dis j c hj; rw [e, hs] at this; cases this
    simp only [G.setTok, G.setSig, if_neg this]; exact s.dis j c hj
  · simp only [G.setTok] at hj hk
    have key : ∀ j, (if j = i then some b else g.tok j) = some c → g.tok j = some c := fun j h => by
      split at h
      · rename_i e; subst e; rw [← h]; exact ht
      · exact h
    exact s.tok j k c (key j hj) (key k hk)
  · simp only [G.setTok] at hj
    rw [h3.1]
    split at hj
    · rename_i e; subst e; exact s.tsig j c (by rw [← hj]; exact ht)
    · exact s.tsig j c hj
  · by_cases e : j = i
    · subst e; simp [G.setTok, G.setSig]
    · simp only [G.setTok, G.setSig, if_neg e, A.stamp_ne _ e]; exact s.stamp j
  · by_cases hcb : c = b
    · subst hcb; rw [hs] at hc; obtain ⟨rfl, rfl⟩ := Prod.mk.inj (Option.some.inj hc)
      rw [cell_eq h1, cell_eq hh, hset]
      simp only [List.getElem?_toArray, List.append_assoc]
      rw [List.getElem?_append_left (by simp; omega), List.getElem?_take, if_pos hj]
      simp
    · simp only [World.cell?, h2 c hcb]
  · have : c ≠ b := fun e => by have := s.dis j c hj; rw [e, hs] at this; cases this
    exact h2 c this
  · have : c ≠ b := fun e => by rw [e, hs] at q2; cases q2
    simp only [G.setTok, G.setSig, if_neg this]; exact q2
end Go.X

namespace Go.X
open Go Go.W
set_option linter.unusedSimpArgs false
set_option linter.unusedVariables false

section
variable {P : Program} {w : World} {t1 t2 ty e : TypeId} {td2 : TypeDesc} {i : TypeInfo} {z : Value}
theorem run_app_room (ht : P.underlying t1 = some (.slice e)) (ht2 : P.underlying t2 = some td2) (hni : ∀ k, td2 ≠ .int k) (hi : P.info? e = some i) {a : Addr} {sLen sCap n : Nat} {x : Value} {news : List Value}
    (hlen : (Builtin.lenOf x).run P w = .ok n w) (hnews : (Builtin.firstCells i.size n x).run P w = .ok news.toArray w) (hroom : sLen + n ≤ sCap) {w' : World} (hst : (storeCells (a.add (sLen * i.size)) news).run P w = .ok () w') :
    (Builtin.append_ #[t1, t2] ty #[.slice (some a) sLen sCap, x]).run P w = .ok (.slice (some a) (sLen + n) sCap) w' := by
  have hz : (match td2 with | .int _ => true | _ => false) = false := by cases td2 <;> first | rfl | exact absurd rfl (hni _)
  simp [Builtin.append_, run_underlying ht, run_underlying ht2, sizeOf, typeInfo, hi, hz, hlen, hnews, hroom, hst]
theorem run_app_none (ht : P.underlying t1 = some (.slice e)) (ht2 : P.underlying t2 = some td2) (hni : ∀ k, td2 ≠ .int k) (hi : P.info? e = some i) {sLen sCap n : Nat} {x : Value} {news : List Value}
    (hlen : (Builtin.lenOf x).run P w = .ok n w) (hnews : (Builtin.firstCells i.size n x).run P w = .ok news.toArray w) (hroom : sLen + n ≤ sCap) :
    (Builtin.append_ #[t1, t2] ty #[.slice none sLen sCap, x]).run P w = .ok (.slice none (sLen + n) sCap) w := by
  have hz : (match td2 with | .int _ => true | _ => false) = false := by cases td2 <;> first | rfl | exact absurd rfl (hni _)
  simp [Builtin.append_, run_underlying ht, run_underlying ht2, sizeOf, typeInfo, hi, hz, hlen, hnews, hroom]
theorem run_app_grow (ht : P.underlying t1 = some (.slice e)) (ht2 : P.underlying t2 = some td2) (hni : ∀ k, td2 ≠ .int k) (hi : P.info? e = some i) (hz : i.zero = some z) {base : Option Addr} {sLen sCap n : Nat} {x : Value} {olds news : List Value}
    (hlen : (Builtin.lenOf x).run P w = .ok n w) (hnews : (Builtin.firstCells i.size n x).run P w.drew = .ok news.toArray w.drew) (holds : (Builtin.firstCells i.size sLen (.slice base sLen sCap)).run P w.drew = .ok olds.toArray w.drew)
    (hroom : sCap < sLen + n) (h63 : sLen + n ≤ 9223372036854775807) (hfit : Builtin.nextslicecap (sLen + n) sCap * i.bytes ≤ 281474976710656) (hb : i.bytes ≠ 0) :
    (Builtin.append_ #[t1, t2] ty #[.slice base sLen sCap, x]).run P w = .ok (.slice (some ⟨w.heap.size, 0, none⟩) (sLen + n) (grownCap w (sLen + n) sCap e))
      (w.drew.alloc (.cells (olds ++ news ++ (Builtin.zeroCells z.cells (grownCap w (sLen + n) sCap e - (sLen + n))).toList).toArray e)) := by
  have hz2 : (match td2 with | .int _ => true | _ => false) = false := by cases td2 <;> first | rfl | exact absurd rfl (hni _)
  have hn : ¬ (sLen + n ≤ sCap) := by omega
  have h63' : ¬ (9223372036854775807 < ((sLen : Int) + (n : Int))) := by omega
  have h48' : ¬ (281474976710656 < Builtin.nextslicecap (sLen + n) sCap * i.bytes) := by omega
  simp [Builtin.append_, run_underlying ht, run_underlying ht2, sizeOf, typeInfo, zeroValue, hi, hz, hz2, hlen, hn, h63', h48', hb, Question.forced, hnews, holds, newRow, grownCap]
  congr 2
  apply Array.ext'
  simp
end
/-- what the appended reads as -/
theorem run_first {P : Program} {g : G} {A : AH} {w : World} {sz k : Nat} {x : AV} {ns : List AV} {vx : Value} (s : Sat g A w) (h : aread A sz x = some (k, ns)) (hx : rep g x vx) :
    ∃ nvs, reps g ns nvs ∧ nvs.length = k * sz ∧ (∀ w', (Builtin.lenOf vx).run P w' = .ok k w') ∧ ∀ w', w'.heap = w.heap → (Builtin.firstCells sz k vx).run P w' = .ok nvs.toArray w' := by
  rcases sl_or_rf h hx with ⟨a, l, c, rfl⟩ | ⟨st, rfl⟩
  · obtain ⟨rfl, vs, h1, h2, h3, h4⟩ := aread_sl s h hx
    refine ⟨vs, h1, h2, fun w' => rfl, fun w' hw => ?_⟩
    cases a with
    | none =>
      obtain ⟨rfl, rfl⟩ := h3 rfl
      simp only [reps] at h1; subst h1
      exact run_firstCells_none _ _ _ _ _
    | some p =>
      refine run_firstCells_some w' sz l p l c vs h2 (fun j u hu => ?_)
      have := (h4 p rfl).2 j u hu
      simpa [World.cell?, hw] using this
  · simp only [rep] at hx; subst hx
    unfold aread at h
    cases hb : Nat.beq sz 1 <;> simp only [hb, cond_true, cond_false] at h
    · cases h
    obtain rfl := Nat.eq_of_beq_eq_true hb
    obtain ⟨rfl, rfl⟩ := Prod.mk.inj (Option.some.inj h)
    refine ⟨_, u8A_rep st, by simp, fun w' => rfl, fun w' hw => ?_⟩
    have hx : ((sb st).extract 0 st.length).data.map (fun b : UInt8 => Value.int IntKind.u8 (b.toNat : Int)) = (st.map fun c => Value.int .u8 (c.toNat : Int)).toArray := by
      rw [sb_extract]; simp [sb]
    simp only [Builtin.firstCells, Sem.run_pure, hx]
def isIntTy : TypeDesc → Bool
  | .int _ => true
  | _ => false
theorem isIntTy_no {td : TypeDesc} (h : isIntTy td = false) : ∀ k, td ≠ .int k := fun k e => by subst e; cases h
def aappend {P : Program} (T : TT P) (byt : TypeId → Option Nat) (A : AH) (t1 t2 ty : TypeId) (s x : AV) : Option (AV × AH) :=
  match T.und t1, T.und t2, T.und ty with
  | some (.slice e), some td2, some (.slice _) => match T.inf e, byt e with
    | some ti, some by_ => match zeroL T e, aread A ti.size x with
      | some zl, some (k, ns) => bif !(isIntTy td2) && allOne ns && Nat.blt 0 by_ && Nat.beq zl.length ti.size then
          match s with
          | .sl n cs tk =>
            bif Nat.beq k 0 then some (s, A)
            else bif Nat.beq cs.length (n * ti.size) && Nat.ble ((n + k) * by_) 140737488355328 then
              match tk with
              | .dead => none
              | .live i m es => bif Nat.beq (A.stamp i) m && Nat.beq es ti.size then some (.sl (n + k) (cs ++ ns) (.live i (A.stamp i + 1) ti.size), A.setStamp i (A.stamp i + 1)) else none
              | _ => some (.sl (n + k) (cs ++ ns) (.live A.next (A.stamp A.next + 1) ti.size), (A.setStamp A.next (A.stamp A.next + 1)).bump)
            else none
          | .rf v o n c =>
            bif Nat.ble (n + k) c then
              match A.get v with
              | some (.cells tv ver cs0) => bif Nat.ble (o + n * ti.size + ns.length) cs0.length then some (.rf v o (n + k) c, A.set v (.cells tv (ver + 1) (setA cs0 (o + n * ti.size) ns))) else none
              | _ => none
            else bif Nat.ble ((n + k) * by_) 140737488355328 then
              match aread A ti.size s with
              | some (_, cs) => some (.sl (n + k) (cs ++ ns) (.live A.next (A.stamp A.next + 1) ti.size), (A.setStamp A.next (A.stamp A.next + 1)).bump)
              | none => none
            else none
          | _ => none
        else none
      | _, _ => none
    | _, _ => none
  | _, _, _ => none
/-- the row is laid anew -/
theorem grow_run {P : Program} {T : TT P} {g : G} {A : AH} {w : World} {t1 t2 ty e : TypeId} {td2 : TypeDesc} {ti : TI} {zl : List Value} {by_ : Nat} (s : Sat g A w) (hu1 : T.und t1 = some (.slice e)) (hu2 : T.und t2 = some td2) (hni : isIntTy td2 = false)
    (hti : T.inf e = some ti) (hby : ∀ i, P.info? e = some i → i.bytes = by_) (hzl : zeroL T e = some zl) (hzn : zl.length = ti.size) (hb0 : 0 < by_) {x sa : AV} {vx : Value} {k n cap : Nat} {base : Option Addr} {ns cs : List AV}
    (hx : rep g x vx) (hsv : rep g sa (.slice base n cap)) (hr : aread A ti.size x = some (k, ns)) (hrs : aread A ti.size sa = some (n, cs)) (hfit : (n + k) * by_ ≤ 140737488355328) (hgt : cap < n + k) (i : Nat) :
    ∃ g' v w', (Builtin.append_ #[t1, t2] ty #[.slice base n cap, vx]).run P w = .ok v w' ∧ Fut g A w g' (A.setStamp i (A.stamp i + 1)) w' ∧ rep g' (.sl (n + k) (cs ++ ns) (.live i (A.stamp i + 1) ti.size)) v := by
  obtain ⟨nvs, q1, q2, q3, q4⟩ := run_first (P := P) s hr hx
  obtain ⟨ovs, p1, p2, p3, p4⟩ := run_first (P := P) s hrs hsv
  obtain ⟨i', hi, hsz, hz⟩ := T.inf_ok _ _ hti
  have hbyt := hby i' hi
  have hzero : ∃ z, i'.zero = some z ∧ z.cells.size = ti.size := by
    unfold zeroL at hzl
    rw [hti] at hzl
    simp only at hzl
    split at hzl <;> try cases hzl
    rename_i z hzz
    refine ⟨z, by rw [hz, hzz], ?_⟩
    rw [← hzn, cellsL_eq]; simp
  obtain ⟨z, hz1, hz2⟩ := hzero
  have h63 : n + k ≤ 9223372036854775807 := by
    have : (n + k) * 1 ≤ (n + k) * by_ := Nat.mul_le_mul_left _ hb0
    omega
  have hrun := run_app_grow (P := P) (w := w) (ty := ty) (T.und_ok _ _ hu1) (T.und_ok _ _ hu2) (isIntTy_no hni) hi hz1 (base := base) (sLen := n) (sCap := cap) (olds := ovs) (news := nvs) (q3 w) (by rw [hsz]; exact q4 w.drew rfl) (by rw [hsz]; exact p4 w.drew rfl)
    hgt h63 (growslice_fits hgt (by rw [hbyt]; exact hfit)) (by rw [hbyt]; omega)
  have hge := grownCap_ge w (n + k) cap e
  have hcl := reps_len p1
  have hnl := reps_len q1
  have hzc : (Builtin.zeroCells z.cells (grownCap w (n + k) cap e - (n + k))).size = (grownCap w (n + k) cap e - (n + k)) * ti.size := by rw [size_zeroCells, hz2]
  have e1 : (cs ++ ns).length = (n + k) * ti.size := by rw [List.length_append, Nat.add_mul]; omega
  have e2 : (grownCap w (n + k) cap e) * ti.size = (n + k) * ti.size + (grownCap w (n + k) cap e - (n + k)) * ti.size := by rw [← Nat.add_mul]; congr 1; omega
  have e3 : (n + k) * ti.size = n * ti.size + k * ti.size := Nat.add_mul _ _ _
  have hvsz : (ovs ++ nvs ++ (Builtin.zeroCells z.cells (grownCap w (n + k) cap e - (n + k))).toList).toArray.size = grownCap w (n + k) cap e * ti.size := by
    simp only [List.size_toArray, List.length_append, Array.length_toList, hzc]
    omega
  obtain ⟨g', F, hrep⟩ := newRow_live (w1 := w.drew) (i := i) (S := cs ++ ns) (vs := (ovs ++ nvs ++ (Builtin.zeroCells z.cells (grownCap w (n + k) cap e - (n + k))).toList).toArray) (e := e) (fz := (0, 0))
    (n := n + k) (cap := grownCap w (n + k) cap e) (es := ti.size) s rfl ⟨rfl, rfl⟩ (by rw [hvsz]; omega) e1 hge (by rw [hvsz]; exact Nat.le_refl _) (.inl rfl) (by
      have : (cs ++ ns).length = (ovs ++ nvs).length := by simp; omega
      simp only []
      rw [this, List.take_left' rfl]
      exact reps_app p1 q1)
  exact ⟨g', _, _, hrun, F, hrep⟩
theorem aappend_W {P : Program} {T : TT P} {byt : TypeId → Option Nat} (hbyt : ∀ t n, byt t = some n → ∀ i, P.info? t = some i → i.bytes = n) {g : G} {A A' : AH} {w : World} {t1 t2 ty : TypeId} {sa x r : AV} {vs vx : Value} {K : Value → World → Prop} {X : List PanicEntry → World → Prop}
    (s : Sat g A w) (h : aappend T byt A t1 t2 ty sa x = some (r, A')) (hs : rep g sa vs) (hx : rep g x vx) (k : ∀ g' v w', Fut g A w g' A' w' → rep g' r v → K v w') : semT T (Builtin.append_ #[t1, t2] ty #[vs, vx]) ty w K X := by
  unfold aappend at h
  split at h <;> try cases h
  rename_i e td2 e2 hu1 hu2 hu3
  split at h <;> try cases h
  rename_i ti by_ hti hby
  split at h <;> try cases h
  rename_i zl kk ns hzl hr
  cases hc : (!(isIntTy td2) && allOne ns && Nat.blt 0 by_ && Nat.beq zl.length ti.size) <;> simp only [hc, cond_true, cond_false] at h
  · cases h
  simp only [Bool.and_eq_true, Bool.not_eq_true'] at hc
  obtain ⟨⟨⟨hni, hone⟩, hb0⟩, hzn⟩ := hc
  have hb0 : 0 < by_ := by simpa using hb0
  have hzn := Nat.eq_of_beq_eq_true hzn
  obtain ⟨nvs, q1, q2, q3, q4⟩ := run_first (P := P) s hr hx
  obtain ⟨i', hi, hsz, hz⟩ := T.inf_ok _ _ hti
  have fit : ∀ a, fitTy .slice a = true → fitRet T ty a = true := fun a ha => by
    simp only [fitRet, resTys, hu3, fitRetL, fitAny, isAggW, cond_false, leaf, ha]
  have hU1 := T.und_ok _ _ hu1
  have hU2 := T.und_ok _ _ hu2
  have hnewsW : (Builtin.firstCells i'.size kk vx).run P w = .ok nvs.toArray w := by rw [hsz]; exact q4 w rfl
  have hnone : ∀ v ∈ nvs, oneV v = true := allOne_reps hone q1
  split at h <;> try cases h
  · rename_i n cs tk
    obtain ⟨base, cap, rfl, hsl⟩ := id hs
    have hncap : n ≤ cap := by
      cases tk with
      | nil => obtain ⟨_, rfl, rfl, _⟩ := hsl; exact Nat.le_refl _
      | _ => obtain ⟨b, o, S, L, r, _, _, _, h3, _⟩ := hsl; exact h3
    cases hk0 : Nat.beq kk 0 <;> simp only [hk0, cond_true, cond_false] at h
    · have hk0 : kk ≠ 0 := fun e => by rw [e] at hk0; simp at hk0
      cases hfit : (Nat.beq cs.length (n * ti.size) && Nat.ble ((n + kk) * by_) 140737488355328) <;> simp only [hfit, cond_true, cond_false] at h
      · cases h
      simp only [Bool.and_eq_true] at hfit
      have hcs := Nat.eq_of_beq_eq_true hfit.1
      have hrs : aread A ti.size (.sl n cs tk) = some (n, cs) := by simp [aread, hfit.1]
      have grow := fun (hgt : cap < n + kk) => grow_run (P := P) (T := T) (ty := ty) s hu1 hu2 hni hti (hbyt _ _ hby) hzl hzn hb0 hx hs hr hrs (Nat.le_of_ble_eq_true hfit.2) hgt
      have anew : ∀ r A', some (AV.sl (n + kk) (cs ++ ns) (.live A.next (A.stamp A.next + 1) ti.size), (A.setStamp A.next (A.stamp A.next + 1)).bump) = some (r, A') → cap < n + kk →
          (∀ g' v w', Fut g A w g' A' w' → rep g' r v → K v w') → semT T (Builtin.append_ #[t1, t2] ty #[.slice base n cap, vx]) ty w K X := by
        intro r A' h hgt k
        obtain ⟨rfl, rfl⟩ := Prod.mk.inj (Option.some.inj h)
        obtain ⟨g', v, w', h1, h2, h3⟩ := grow hgt A.next
        exact semT_of h1 (fit _ rfl) h3 (k g' v w' (h2.bump _) h3)
      cases tk with
      | nil => obtain ⟨_, rfl, rfl, _⟩ := hsl; exact anew _ _ h (by omega) k
      | clip =>
        obtain ⟨b, o, S, L, r', _, _, _, h3, h4⟩ := hsl
        have h4 : n = cap := h4
        exact anew _ _ h (by omega) k
      | dead => cases h
      | live i m es =>
        cases hc : (Nat.beq (A.stamp i) m && Nat.beq es ti.size) <;> simp only [hc, cond_true, cond_false] at h
        · cases h
        simp only [Bool.and_eq_true] at hc
        have hm := Nat.eq_of_beq_eq_true hc.1
        have he := Nat.eq_of_beq_eq_true hc.2
        obtain ⟨rfl, rfl⟩ := Prod.mk.inj (Option.some.inj h)
        by_cases hroom : n + kk ≤ cap
        · obtain ⟨b, o, S, L, r', rfl, h2, h3, _, h4⟩ := hsl
          have hst : g.stamp i = m := by rw [s.stamp]; exact hm
          rcases h4.2 hst with h5 | ⟨h5, h6, h7, h8⟩
          · omega
          obtain ⟨vsb, eb, fz, k1, k2, k3, k4, k5⟩ := s.sig b S L h2
          have hr' : r' = [] := by
            have := congrArg List.length h3
            simp at this
            exact List.length_eq_zero_iff.1 (by omega)
          subst hr'
          have hnl := reps_len q1
          have e3 : (n + kk) * es = n * es + kk * es := Nat.add_mul _ _ _
          have e4 : (n + kk) * es ≤ cap * es := Nat.mul_le_mul_right _ hroom
          have hL : S.length + ns.length ≤ L := by rw [← hnl, q2, ← he]; omega
          have hstore : storeCellsW w b S.length nvs (fun w' => w'.heap[b]? = some (.cells (setL vsb.toList S.length nvs).toArray eb fz) ∧ (∀ c, c ≠ b → w'.heap[c]? = w.heap[c]?) ∧ SameW w w') := by
            refine storeCellsW_of nvs S.length w vsb.toList _ (by simpa using k1) (by simp; omega) (fun j _ hj a1 a2 => k4.no (by omega) a1 a2) hnone (fun w' a1 a2 a3 => ⟨a1, a2, a3⟩)
          obtain ⟨w', ⟨c1, c2, c3⟩, hsto⟩ := storeCellsW_sound (P := P) nvs w ((⟨b, o, none⟩ : Addr).add (n * i'.size)) 0 _ (by rw [add_none rfl]) (by rw [add_none rfl]) (by
            rw [add_none rfl]; simp only [Nat.add_zero]
            rw [hsz, show o + n * ti.size = S.length by rw [h6, h8, he]]
            exact hstore)
          have hrun := run_app_room (P := P) (ty := ty) hU1 hU2 (isIntTy_no hni) hi (q3 w) hnewsW hroom hsto
          have F := Fut.grow s h5 h2 k1 hL q1 c1 c2 c3
          have hrep : rep ((g.setSig b (S ++ ns) L).setTok i (A.stamp i + 1) b) (.sl (n + kk) (cs ++ ns) (.live i (A.stamp i + 1) ti.size)) (.slice (some ⟨b, o, none⟩) (n + kk) cap) := by
            refine ⟨_, cap, rfl, b, o, S ++ ns, L, [], rfl, by simp [G.setTok, G.setSig], ?_, hroom, ?_⟩
            · rw [List.drop_append_of_le_length (by omega), h3]; simp
            · refine ⟨by simp [G.setTok], fun _ => .inr ⟨by simp [G.setTok], by simp; omega, by rw [← he]; exact h7, ?_⟩⟩
              rw [List.length_append, ← hnl, q2, h8, he, ← Nat.add_mul]
          exact semT_of hrun (fit _ rfl) hrep (k _ _ _ F hrep)
        · obtain ⟨g', v, w', h1, h2, h3⟩ := grow (by omega) i
          exact semT_of h1 (fit _ rfl) h3 (k g' v w' h2 h3)
    · have hk0 := Nat.eq_of_beq_eq_true hk0
      obtain ⟨rfl, rfl⟩ := Prod.mk.inj (Option.some.inj h)
      have hn0 : nvs = [] := List.length_eq_zero_iff.1 (by rw [q2, hk0]; simp)
      subst hk0 hn0
      have hrun : (Builtin.append_ #[t1, t2] ty #[.slice base n cap, vx]).run P w = .ok (.slice base n cap) w := by
        cases base with
        | none => exact run_app_none hU1 hU2 (isIntTy_no hni) hi (q3 w) hnewsW (by omega)
        | some a => exact run_app_room hU1 hU2 (isIntTy_no hni) hi (q3 w) hnewsW (by omega) (by simp [storeCells])
      exact semT_of hrun (fit _ rfl) hs (k g _ _ (Fut.refl s) hs)
  · rename_i v o n c
    obtain ⟨b, hb, rfl⟩ := id hs
    cases hroom : Nat.ble (n + kk) c <;> simp only [hroom, cond_true, cond_false] at h
    · cases hfit : Nat.ble ((n + kk) * by_) 140737488355328 <;> simp only [hfit, cond_true, cond_false] at h
      · cases h
      split at h <;> try cases h
      rename_i n' cs hrs
      obtain ⟨rfl, _⟩ := aread_sl s hrs hs
      have hgt : c < n + kk := by
        rcases Nat.lt_or_ge c (n + kk) with h | h
        · exact h
        · rw [Nat.ble_eq_true_of_le h] at hroom; cases hroom
      obtain ⟨g', v, w', h1, h2, h3⟩ := grow_run (P := P) (T := T) (ty := ty) s hu1 hu2 hni hti (hbyt _ _ hby) hzl hzn hb0 hx hs hr hrs (Nat.le_of_ble_eq_true hfit) hgt A.next
      exact semT_of h1 (fit _ rfl) h3 (k g' v w' (h2.bump _) h3)
    · have hroom := Nat.le_of_ble_eq_true hroom
      split at h <;> try cases h
      rename_i tv ver cs0 hg
      cases hfit : Nat.ble (o + n * ti.size + ns.length) cs0.length <;> simp only [hfit, cond_true, cond_false] at h
      · cases h
      have hfit := Nat.le_of_ble_eq_true hfit
      obtain ⟨rfl, rfl⟩ := Prod.mk.inj (Option.some.inj h)
      obtain ⟨ob, ox, e1, e2, e3⟩ := s.var v b hb
      rw [hg] at e1
      obtain rfl := Option.some.inj e1
      obtain ⟨vs0, rfl, hr0⟩ := e3
      have hnl := reps_len q1
      have hstore : storeCellsW w b (o + n * ti.size) nvs (fun w' => w'.heap[b]? = some (.cells (setL vs0 (o + n * ti.size) nvs).toArray tv (0, 0)) ∧ (∀ c, c ≠ b → w'.heap[c]? = w.heap[c]?) ∧ SameW w w') :=
        storeCellsW_of nvs _ w vs0 _ e2 (by rw [reps_len hr0]; omega) (fun j _ _ _ a2 => by simp at a2) hnone (fun w' a1 a2 a3 => ⟨a1, a2, a3⟩)
      obtain ⟨w', ⟨c1, c2, c3⟩, hsto⟩ := storeCellsW_sound (P := P) nvs w ((⟨b, o, none⟩ : Addr).add (n * i'.size)) 0 _ (by rw [add_none rfl]) (by rw [add_none rfl]) (by
        rw [add_none rfl]; simp only [Nat.add_zero]; rw [hsz]; exact hstore)
      have hrun := run_app_room (P := P) (ty := ty) hU1 hU2 (isIntTy_no hni) hi (q3 w) hnewsW hroom hsto
      have F := Fut.store (ver := ver) s hb (ob := .cells tv (ver + 1) (setA cs0 (o + n * ti.size) ns)) (by simp only [AH.ver, hg, AO.ver]; omega) c1 ⟨_, rfl, reps_setA _ _ _ _ _ q1 hr0⟩ c2 c3
      exact semT_of hrun (fit (.rf v o (n + kk) c) rfl) ⟨b, hb, rfl⟩ (k _ _ _ F ⟨b, hb, rfl⟩)
end Go.X

namespace Go.X
open Go Go.W
set_option linter.unusedSimpArgs false
set_option linter.unusedVariables false

/-! copy -/
theorem run_firstM {P : Program} {g : G} {A : AH} {w : World} {sz k : Nat} {x : AV} {ns : List AV} {vx : Value} (s : Sat g A w) (h : aread A sz x = some (k, ns)) (hx : rep g x vx) (m : Nat) (hm : m ≤ k) :
    ∃ nvs, reps g (ns.take (m * sz)) nvs ∧ nvs.length = m * sz ∧ (Builtin.lenOf vx).run P w = .ok k w ∧ (Builtin.firstCells sz m vx).run P w = .ok nvs.toArray w := by
  have hms : m * sz ≤ k * sz := Nat.mul_le_mul_right _ hm
  rcases sl_or_rf h hx with ⟨a, l, c, rfl⟩ | ⟨st, rfl⟩
  · obtain ⟨rfl, vs, h1, h2, h3, h4⟩ := aread_sl s h hx
    refine ⟨vs.take (m * sz), reps_take _ h1, by simp; omega, rfl, ?_⟩
    cases a with
    | none =>
      obtain ⟨rfl, rfl⟩ := h3 rfl
      simp only [reps] at h1; subst h1
      simp only [List.take_nil]
      exact run_firstCells_none _ _ _ _ _
    | some p =>
      refine run_firstCells_some w sz m p l c _ (by simp; omega) (fun j u hu => ?_)
      rw [List.getElem?_take] at hu
      split at hu
      · exact (h4 p rfl).2 j u hu
      · cases hu
  · simp only [rep] at hx; subst hx
    unfold aread at h
    cases hb : Nat.beq sz 1 <;> simp only [hb, cond_true, cond_false] at h
    · cases h
    obtain rfl := Nat.eq_of_beq_eq_true hb
    obtain ⟨rfl, rfl⟩ := Prod.mk.inj (Option.some.inj h)
    refine ⟨(st.map fun c => Value.int .u8 (c.toNat : Int)).take (m * 1), reps_take _ (u8A_rep st), by simp; omega, rfl, ?_⟩
    have hx : ((sb st).extract 0 m).data.map (fun b : UInt8 => Value.int IntKind.u8 (b.toNat : Int)) = ((st.map fun c => Value.int .u8 (c.toNat : Int)).take (m * 1)).toArray := by
      rw [sb_extract]; simp [sb]
    simp only [Builtin.firstCells, Sem.run_pure, hx]
def acopy {P : Program} (T : TT P) (A : AH) (t1 ty : TypeId) (d x : AV) : Option (AV × AH) :=
  match T.und t1 with
  | some (.slice e) => match T.inf e, d with
    | some ti, .rf v o n _ => match A.get v, aread A ti.size x with
      | some (.cells tv ver cs0), some (k, ns) =>
        let m := Nat.min k n
        let us := ns.take (m * ti.size)
        bif allOne us && Nat.ble (o + us.length) cs0.length && fitRet T ty (.int .i64 m) then some (.int .i64 m, A.set v (.cells tv (ver + 1) (setA cs0 o us))) else none
      | _, _ => none
    | _, _ => none
  | _ => none
theorem acopy_W {P : Program} {T : TT P} {g : G} {A A' : AH} {w : World} {t1 t2 ty : TypeId} {d x r : AV} {vd vx : Value} {K : Value → World → Prop} {X : List PanicEntry → World → Prop}
    (s : Sat g A w) (h : acopy T A t1 ty d x = some (r, A')) (hd : rep g d vd) (hx : rep g x vx) (k : ∀ g' v w', Fut g A w g' A' w' → rep g' r v → K v w') : semT T (Builtin.copy_ #[t1, t2] ty #[vd, vx]) ty w K X := by
  unfold acopy at h
  split at h <;> try cases h
  rename_i e hu1
  split at h <;> try cases h
  rename_i ti v o n c hti
  split at h <;> try cases h
  rename_i tv ver cs0 kk ns hg hr
  simp only at h
  cases hc : (allOne (ns.take (Nat.min kk n * ti.size)) && Nat.ble (o + (ns.take (Nat.min kk n * ti.size)).length) cs0.length && fitRet T ty (.int .i64 (Nat.min kk n : Nat))) <;> simp only [hc, cond_true, cond_false] at h
  · cases h
  simp only [Bool.and_eq_true] at hc
  obtain ⟨⟨hone, hfit⟩, hret⟩ := hc
  have hfit := Nat.le_of_ble_eq_true hfit
  obtain ⟨rfl, rfl⟩ := Prod.mk.inj (Option.some.inj h)
  obtain ⟨b, hb, rfl⟩ := id hd
  obtain ⟨ob, ox, e1, e2, e3⟩ := s.var v b hb
  rw [hg] at e1
  obtain rfl := Option.some.inj e1
  obtain ⟨vs0, rfl, hr0⟩ := e3
  obtain ⟨nvs, q1, q2, q3, q4⟩ := run_firstM (P := P) s hr hx (Nat.min kk n) (Nat.min_le_left _ _)
  have hnl := reps_len q1
  have hstore : storeCellsW w b (o + 0) nvs (fun w' => w'.heap[b]? = some (.cells (setL vs0 o nvs).toArray tv (0, 0)) ∧ (∀ c, c ≠ b → w'.heap[c]? = w.heap[c]?) ∧ SameW w w') :=
    storeCellsW_of nvs _ w vs0 _ e2 (by rw [reps_len hr0]; omega) (fun j _ _ _ a2 => by simp at a2) (allOne_reps hone q1) (fun w' a1 a2 a3 => ⟨a1, a2, a3⟩)
  obtain ⟨w', ⟨c1, c2, c3⟩, hsto⟩ := storeCellsW_sound (P := P) nvs w ⟨b, o, none⟩ 0 _ rfl rfl hstore
  have F := Fut.store (ver := ver) s hb (ob := .cells tv (ver + 1) (setA cs0 o (ns.take (Nat.min kk n * ti.size)))) (by simp only [AH.ver, hg, AO.ver]; omega) c1 ⟨_, rfl, reps_setA _ _ _ _ _ q1 hr0⟩ c2 c3
  refine semT_of (v := .int .i64 (Nat.min kk n : Nat)) (w' := w') (g := g) ?_ hret rfl (k _ _ _ F rfl)
  have hsz : (sizeOf e).run P w = .ok ti.size w := run_sizeOf' hti w
  simp [Builtin.copy_, run_underlying (T.und_ok _ _ hu1), q3, hsz, q4, hsto, goInt]

/-! make -/
def amakeSlice {P : Program} (T : TT P) (byt : TypeId → Option Nat) (A : AH) (t : TypeId) (l c : AV) : Option (AV × AH) :=
  match T.und t, l, c with
  | some (.slice e), .int _ l, .int _ c => match T.inf e, byt e, zeroA T e with
    | some ti, some by_, some z =>
      bif decide (0 ≤ l) && decide (l ≤ c) && decide (c * by_ ≤ 140737488355328) && decide (c ≤ 140737488355328) && Nat.beq z.length ti.size && Nat.blt 0 ti.size then
        match A.get A.next with
        | none => some (.rf A.next 0 l.toNat c.toNat, (A.set A.next (.cells e 0 (replA c.toNat z))).bump)
        | some _ => none
      else none
    | _, _, _ => none
  | _, _, _ => none
theorem amakeSlice_W {P : Program} {T : TT P} {byt : TypeId → Option Nat} (hbyt : ∀ t n, byt t = some n → ∀ i, P.info? t = some i → i.bytes = n) {g : G} {A A' : AH} {w : World} {t : TypeId} {l c r : AV} {vl vc : Value} {K : Value → World → Prop} {X : List PanicEntry → World → Prop}
    (s : Sat g A w) (h : amakeSlice T byt A t l c = some (r, A')) (hl : rep g l vl) (hc : rep g c vc) (k : ∀ g' v w', Fut g A w g' A' w' → rep g' r v → K v w') : semT T (Instr.makeSlice t vl vc) t w K X := by
  unfold amakeSlice at h
  split at h <;> try cases h
  rename_i e kl l kc c hu
  simp only [rep] at hl hc; subst hl hc
  split at h <;> try cases h
  rename_i ti by_ z hti hby hz
  cases hcn : (decide (0 ≤ l) && decide (l ≤ c) && decide (c * by_ ≤ 140737488355328) && decide (c ≤ 140737488355328) && Nat.beq z.length ti.size && Nat.blt 0 ti.size) <;> simp only [hcn, cond_true, cond_false] at h
  · cases h
  simp only [Bool.and_eq_true, decide_eq_true_eq] at hcn
  obtain ⟨⟨⟨⟨⟨h0, hlc⟩, hcb⟩, hcc⟩, hzn⟩, hpos⟩ := hcn
  have hzn := Nat.eq_of_beq_eq_true hzn
  have hpos : 0 < ti.size := by simpa using hpos
  split at h <;> try cases h
  rename_i hn
  obtain ⟨vs, hz1, hz2⟩ := zeroA_W (g := g) hz
  obtain ⟨i', hi, hsz, hz'⟩ := T.inf_ok _ _ hti
  have hzero : ∃ v, i'.zero = some v ∧ v.cells = vs.toArray := by
    unfold zeroL at hz1
    rw [hti] at hz1
    simp only at hz1
    split at hz1 <;> try cases hz1
    rename_i z0 hz0
    exact ⟨z0, by rw [hz', hz0], by rw [cellsL_eq]⟩
  obtain ⟨v, hv0, hv⟩ := hzero
  obtain ⟨g', F, b, hb, heq⟩ := anew_F (A' := (A.set A.next (.cells e 0 (replA c.toNat z))).bump) (r := .ptr A.next 0) (o := .cells e 0 (replA c.toNat z)) (x := .cells (replL c.toNat vs).toArray e (0, 0)) s (by simp only [anew, hn]) ⟨_, rfl, replA_rep hz2 c.toNat⟩
  simp only [Value.pointer.injEq, Option.some.injEq, Addr.mk.injEq] at heq
  obtain ⟨rfl, _⟩ := heq
  have hb2 := hbyt _ _ hby i' hi
  have hvl := reps_len hz2
  have hsem := run_make (P := P) w t e i' v (T.und_ok _ _ hu) hi hv0 kl kc l c h0 hlc (by rw [hb2, Int.mul_comm]; omega) (by omega)
  have hrow : madeCells v.cells (c.toNat * i'.size) = (replL c.toNat vs).toArray := by
    rw [replL_eq _ _ (by omega), hv, hvl, hzn, hsz]; rfl
  rw [hrow] at hsem
  refine semT_of hsem ?_ (show rep g' (.rf A.next 0 l.toNat c.toNat) _ from ⟨_, hb, rfl⟩) (k _ _ _ F ⟨_, hb, rfl⟩)
  simp only [fitRet, resTys, hu, fitRetL, fitAny, isAggW, cond_false, leaf, fitTy]

/-! maps whose keys are whole numbers -/
theorem run_getMap {P : Program} {w : World} {r : Nat} {es : Array MapEntry} {clock : Nat} (hb : w.heap[r]? = some (.map es clock)) : (getObj r).run P w = .ok (.map es clock) w := by
  simp [getObj, Sem.run, hb]
theorem run_setMap {P : Program} {w : World} {r : Nat} {es : Array MapEntry} {clock : Nat} (o : Obj) (hb : w.heap[r]? = some (.map es clock)) : (setObj r o).run P w = .ok () { w with heap := w.heap.setIfInBounds r o } := by
  simp [setObj, Sem.run, hb]
theorem heap_set {w : World} {r : Nat} {o o' : Obj} (hb : w.heap[r]? = some o) : (w.heap.setIfInBounds r o')[r]? = some o' ∧ ∀ r', r' ≠ r → (w.heap.setIfInBounds r o')[r']? = w.heap[r']? := by
  have hlt : r < w.heap.size := (Array.getElem?_eq_some_iff.1 hb).1
  exact ⟨by simp [hlt], fun r' hne => by simp [Ne.symm hne]⟩

def amfind (k : IntKind) (n : Int) : List (AV × AV × Nat) → Nat → Option (Option (Nat × AV))
  | [], _ => some none
  | (kk, v, _) :: r, i => match kk with
    | .int k' n' => bif kindBeq k k' then (bif decide (n = n') then some (some (i, v)) else amfind k n r (i + 1)) else none
    | _ => none
theorem amfind_sound {g : G} {kd : IntKind} {k : IntKind} {n : Int} : ∀ {es : List (AV × AV × Nat)} {ms : List MapEntry} {i : Nat} {r : Option (Nat × AV)}, amfind k n es i = some r → repM g es ms →
    ∃ r', Instr.findNow (.int kd) (.int k n) ms i = some r' ∧ (match r, r' with | none, none => True | some (j, a), some (j', v) => j = j' ∧ rep g a v | _, _ => False)
  | [], ms, i, r, h, hm => by
    simp only [repM] at hm; subst hm
    simp only [amfind, Option.some.injEq] at h; subst h
    exact ⟨none, rfl, trivial⟩
  | (kk, v, b) :: es, _, i, r, h, ⟨m, ms, rfl, h1, h2, h3, h4⟩ => by
    simp only [amfind] at h
    split at h <;> try cases h
    rename_i k' n'
    simp only [rep] at h1
    cases hk : kindBeq k k' <;> simp only [hk, cond_true, cond_false] at h
    · cases h
    obtain rfl := kindBeq_eq hk
    cases hn : decide (n = n') <;> simp only [hn, cond_true, cond_false] at h
    · obtain ⟨r', e1, e2⟩ := amfind_sound (kd := kd) h h4
      refine ⟨r', ?_, e2⟩
      have : (n == n') = false := by simpa using hn
      simp only [Instr.findNow, h1, Instr.sameNow, if_true, this, e1]
    · simp only [Option.some.injEq] at h; subst h
      have : (n == n') = true := by simpa using hn
      refine ⟨some (i, m.val), ?_, rfl, h2⟩
      simp only [Instr.findNow, h1, Instr.sameNow, if_true, this]
def amap (A : AH) (x : AV) : Option (List (AV × AV × Nat)) := match x with
  | .map none => some []
  | .map (some i) => match A.get i with | some (.map _ es _) => some es | _ => none
  | _ => none
def alookup {P : Program} (T : TT P) (A : AH) (t ty : TypeId) (x k : AV) (ok : Bool) : Option AV :=
  match T.und t, k with
  | some (.map kt et), .int q n => match T.und kt with
    | some (.int _) => match amap A x with
      | some es => match amfind q n es 0 with
        | some (some (_, v)) => let r := bif ok then .tup [v, .bool true] else v; bif fitRet T ty r then some r else none
        | some none => match T.inf et with
          | some ti => match ti.zero with
            | some z => match ofV z with
              | some a => let r := bif ok then .tup [a, .bool false] else a; bif fitRet T ty r then some r else none
              | none => none
            | none => none
          | none => none
        | none => none
      | none => none
    | _ => none
  | _, _ => none
theorem run_findKey_int {P : Program} {T : TT P} {w : World} {kt : TypeId} {kd : IntKind} {k : Value} {ms : List MapEntry} {r : Option (Nat × Value)} (hu : T.und kt = some (.int kd)) (h : Instr.findNow (.int kd) k ms 0 = some r) :
    (Instr.findKey kt k ms).run P w = .ok r w := by
  simp [Instr.findKey, run_underlying (T.und_ok _ _ hu), h]
theorem run_checkKey_int {P : Program} {T : TT P} {w : World} {kt : TypeId} {kd : IntKind} {q : IntKind} {n : Int} {e : Bool} (hu : T.und kt = some (.int kd)) : (Instr.checkKey e 10000 kt (.int q n)).run P w = .ok () w := by
  have h : ∀ m, (Instr.checkKey e (m + 1) kt (.int q n)).run P w = .ok () w := by
    intro m
    unfold Instr.checkKey
    simp only [Sem.run_bind, run_underlying (T.und_ok _ _ hu), Result.andThen]
    rfl
  exact h 9999
theorem amap_sound {g : G} {A : AH} {w : World} (s : Sat g A w) {x : AV} {vx : Value} {es : List (AV × AV × Nat)} (h : amap A x = some es) (hx : rep g x vx) :
    (vx = .map none ∧ es = []) ∨ ∃ i b ver clock ms, x = .map (some i) ∧ vx = .map (some b) ∧ g.var i = some b ∧ A.get i = some (.map ver es clock) ∧ w.heap[b]? = some (.map ms.toArray clock) ∧ repM g es ms := by
  unfold amap at h
  split at h <;> try cases h
  · simp only [rep] at hx; exact .inl ⟨hx, rfl⟩
  · rename_i i
    split at h <;> try cases h
    rename_i ver clock hg
    obtain ⟨b, hb, rfl⟩ := hx
    obtain ⟨ob, ox, e1, e2, e3⟩ := s.var i b hb
    rw [hg] at e1
    obtain rfl := Option.some.inj e1
    obtain ⟨ms, rfl, hm⟩ := e3
    exact .inr ⟨i, b, ver, clock, ms, rfl, rfl, hb, hg, e2, hm⟩
theorem run_lookup {P : Program} {T : TT P} {w : World} {t kt et : TypeId} {kd q : IntKind} {n : Int} {ok : Bool} {vx : Value} {ms : List MapEntry} (hu : T.und t = some (.map kt et)) (hk : T.und kt = some (.int kd))
    (hx : (vx = .map none ∧ ms = []) ∨ ∃ b clock, vx = .map (some b) ∧ w.heap[b]? = some (.map ms.toArray clock)) {r : Option (Nat × Value)} (hf : Instr.findNow (.int kd) (.int q n) ms 0 = some r) {v : Value} {f : Bool}
    (hr : (∃ j, r = some (j, v) ∧ f = true) ∨ (r = none ∧ f = false ∧ (zeroValue et).run P w = .ok v w)) :
    (Instr.lookup t vx (.int q n) ok).run P w = .ok (if ok then .tuple #[v, .bool f] else v) w := by
  have hf' : (Instr.findKey kt (.int q n) ms).run P w = .ok r w := run_findKey_int hk hf
  have hck : ∀ e, (Instr.checkKey e 10000 kt (.int q n)).run P w = .ok () w := fun e => run_checkKey_int hk
  rcases hx with ⟨rfl, rfl⟩ | ⟨b, clock, rfl, hh⟩
  · rcases hr with ⟨j, rfl, rfl⟩ | ⟨rfl, rfl, hz⟩
    · simp [Instr.lookup, run_underlying (T.und_ok _ _ hu), hck, hf']
    · simp [Instr.lookup, run_underlying (T.und_ok _ _ hu), hck, hf', hz]
  · have hg := run_getMap (P := P) hh
    rcases hr with ⟨j, rfl, rfl⟩ | ⟨rfl, rfl, hz⟩
    · simp [Instr.lookup, run_underlying (T.und_ok _ _ hu), hck, hf', hg]
    · simp [Instr.lookup, run_underlying (T.und_ok _ _ hu), hck, hf', hz, hg]
theorem alookup_W {P : Program} {T : TT P} {g : G} {A : AH} {w : World} {t ty : TypeId} {x k r : AV} {ok : Bool} {vx vk : Value} {K : Value → World → Prop} {X : List PanicEntry → World → Prop}
    (s : Sat g A w) (h : alookup T A t ty x k ok = some r) (hx : rep g x vx) (hk : rep g k vk) (kk : ∀ v, rep g r v → K v w) : semT T (Instr.lookup t vx vk ok) ty w K X := by
  unfold alookup at h
  split at h <;> try cases h
  rename_i kt et q n hu
  simp only [rep] at hk; subst hk
  split at h <;> try cases h
  rename_i kd hkt
  split at h <;> try cases h
  rename_i es hm
  have hmm : ∃ ms, repM g es ms ∧ ((vx = .map none ∧ ms = []) ∨ ∃ b clock, vx = .map (some b) ∧ w.heap[b]? = some (.map ms.toArray clock)) := by
    rcases amap_sound s hm hx with ⟨h1, h2⟩ | ⟨i, b, ver, clock, ms, _, h2, _, _, h5, h6⟩
    · subst h2; exact ⟨[], rfl, .inl ⟨h1, rfl⟩⟩
    · exact ⟨ms, h6, .inr ⟨b, clock, h2, h5⟩⟩
  obtain ⟨ms, hrm, hxv⟩ := hmm
  split at h <;> try cases h
  · rename_i j v hf
    obtain ⟨r', e1, e2⟩ := amfind_sound (kd := kd) hf hrm
    cases r' with
    | none => exact e2.elim
    | some p =>
      obtain ⟨j', u⟩ := p
      simp only at h e2
      cases hret : fitRet T ty (bif ok then .tup [v, .bool true] else v) <;> simp only [hret, cond_true, cond_false] at h
      · cases h
      obtain rfl := Option.some.inj h
      have hrr : rep g (bif ok then .tup [v, .bool true] else v) (if ok then .tuple #[u, .bool true] else u) := by
        cases ok
        · exact e2.2
        · exact ⟨[u, .bool true], rfl, u, _, rfl, e2.2, .bool true, [], rfl, rfl, rfl⟩
      exact semT_of (run_lookup hu hkt hxv e1 (v := u) (f := true) (.inl ⟨_, rfl, rfl⟩)) hret hrr (kk _ hrr)
  · rename_i hf
    obtain ⟨r', e1, e2⟩ := amfind_sound (kd := kd) hf hrm
    cases r' with
    | some p => exact e2.elim
    | none =>
      split at h <;> try cases h
      rename_i ti hti
      split at h <;> try cases h
      rename_i z hz
      split at h <;> try cases h
      rename_i a ha
      simp only at h
      cases hret : fitRet T ty (bif ok then .tup [a, .bool false] else a) <;> simp only [hret, cond_true, cond_false] at h
      · cases h
      obtain rfl := Option.some.inj h
      have hzr : (zeroValue et).run P w = .ok z w := by
        obtain ⟨j, hj, _, hz'⟩ := T.inf_ok _ _ hti
        simp [zeroValue, typeInfo, hj, hz', hz]
      have hra : rep g a z := ofV_rep z ha
      have hrr : rep g (bif ok then .tup [a, .bool false] else a) (if ok then .tuple #[z, .bool false] else z) := by
        cases ok
        · exact hra
        · exact ⟨[z, .bool false], rfl, z, _, rfl, hra, .bool false, [], rfl, rfl, rfl⟩
      exact semT_of (run_lookup hu hkt hxv e1 (v := z) (f := false) (.inr ⟨rfl, rfl, hzr⟩)) hret hrr (kk _ hrr)
/-! writing into a map -/
def amset (es : List (AV × AV × Nat)) (i : Nat) (k v : AV) : List (AV × AV × Nat) := es.modify i fun e => (k, v, e.2.2)
theorem repM_set {g : G} {k v : AV} {vk vv : Value} (hk : rep g k vk) (hv : rep g v vv) : ∀ {es : List (AV × AV × Nat)} {ms : List MapEntry} {i : Nat}, repM g es ms → repM g (amset es i k v) (ms.modify i fun e => { e with key := vk, val := vv })
  | [], ms, i, h => by simp only [repM] at h; subst h; cases i <;> simp [amset, repM]
  | (k', v', b) :: es, _, 0, ⟨m, ms, rfl, h1, h2, h3, h4⟩ => ⟨_, ms, rfl, hk, hv, h3, h4⟩
  | (k', v', b) :: es, _, i + 1, ⟨m, ms, rfl, h1, h2, h3, h4⟩ => ⟨m, _, rfl, h1, h2, h3, repM_set hk hv h4⟩
theorem repM_app {g : G} {k v : AV} {vk vv : Value} {b : Nat} (hk : rep g k vk) (hv : rep g v vv) : ∀ {es : List (AV × AV × Nat)} {ms : List MapEntry}, repM g es ms → repM g (es ++ [(k, v, b)]) (ms ++ [{ key := vk, val := vv, born := b }])
  | [], ms, h => by simp only [repM] at h; subst h; exact ⟨_, [], rfl, hk, hv, rfl, rfl⟩
  | (k', v', b') :: es, _, ⟨m, ms, rfl, h1, h2, h3, h4⟩ => ⟨m, _, rfl, h1, h2, h3, repM_app hk hv h4⟩
theorem repM_erase {g : G} : ∀ {es : List (AV × AV × Nat)} {ms : List MapEntry} {i : Nat}, repM g es ms → repM g (es.eraseIdx i) (ms.eraseIdx i)
  | [], ms, i, h => by simp only [repM] at h; subst h; simp [repM]
  | (k', v', b) :: es, _, 0, ⟨m, ms, rfl, h1, h2, h3, h4⟩ => by simpa using h4
  | (k', v', b) :: es, _, i + 1, ⟨m, ms, rfl, h1, h2, h3, h4⟩ => ⟨m, _, rfl, h1, h2, h3, repM_erase h4⟩
theorem repM_get {g : G} : ∀ {es : List (AV × AV × Nat)} {ms : List MapEntry} {i : Nat} {e : AV × AV × Nat}, repM g es ms → es[i]? = some e → ∃ m, ms[i]? = some m ∧ rep g e.1 m.key
  | [], ms, i, e, h, hi => by simp at hi
  | (k', v', b) :: es, _, 0, e, ⟨m, ms, rfl, h1, h2, h3, h4⟩, hi => by simp at hi; subst hi; exact ⟨m, rfl, h1⟩
  | (k', v', b) :: es, _, i + 1, e, ⟨m, ms, rfl, h1, h2, h3, h4⟩, hi => by simpa using repM_get h4 (by simpa using hi)
def amapUpdate {P : Program} (T : TT P) (A : AH) (t : TypeId) (m k v : AV) : Option AH :=
  match T.und t, m, k with
  | some (.map kt _), .map (some i), .int q n => match T.und kt, A.get i with
    | some (.int _), some (.map ver es clock) => match amfind q n es 0 with
      | some (some (j, _)) => some (A.set i (.map (ver + 1) (amset es j (.int q n) v) clock))
      | some none => some (A.set i (.map (ver + 1) (es ++ [(.int q n, v, clock)]) (clock + 1)))
      | none => none
    | _, _ => none
  | _, _, _ => none
def adelete {P : Program} (T : TT P) (A : AH) (t : TypeId) (m k : AV) : Option AH :=
  match T.und t, m, k with
  | some (.map kt _), .map (some i), .int q n => match T.und kt, A.get i with
    | some (.int _), some (.map ver es clock) => match amfind q n es 0 with
      | some (some (j, _)) => some (A.set i (.map (ver + 1) (es.eraseIdx j) clock))
      | some none => some (A.set i (.map (ver + 1) es clock))
      | none => none
    | _, _ => none
  | _, _, _ => none
theorem amfind_at {q : IntKind} {n : Int} : ∀ {es : List (AV × AV × Nat)} {i j : Nat} {v : AV}, amfind q n es i = some (some (j, v)) → ∃ d e, j = i + d ∧ es[d]? = some e ∧ e.1 = .int q n
  | [], i, j, v, h => by simp [amfind] at h
  | (kk, u, b) :: es, i, j, v, h => by
    simp only [amfind] at h
    split at h <;> try cases h
    rename_i k' n'
    cases hk : kindBeq q k' <;> simp only [hk, cond_true, cond_false] at h
    · cases h
    obtain rfl := kindBeq_eq hk
    cases hn : decide (n = n') <;> simp only [hn, cond_true, cond_false] at h
    · obtain ⟨d, e, h1, h2, h3⟩ := amfind_at h
      exact ⟨d + 1, e, by omega, by simpa using h2, h3⟩
    · simp only [decide_eq_true_eq] at hn
      subst hn
      simp only [Option.some.injEq, Prod.mk.injEq] at h
      exact ⟨0, _, by omega, rfl, rfl⟩
theorem Fut.setMap {g : G} {A : AH} {w : World} {i b : Nat} {ver clock : Nat} {es : List (AV × AV × Nat)} (s : Sat g A w) (hb : g.var i = some b) (hg : A.get i = some (.map ver es clock)) {x : Obj} (hh : w.heap[b]? = some x) {ob : AO} {o : Obj} (hv : ver < ob.ver) (ho : repO g ob o) :
    Fut g A w g (A.set i ob) { w with heap := w.heap.setIfInBounds b o } :=
  Fut.store (ver := ver) s hb (by simp only [AH.ver, hg, AO.ver]; exact hv) (heap_set hh).1 ho (fun c hc => (heap_set hh).2 c hc) ⟨by simp, rfl, rfl⟩
theorem semW_of {P : Program} {s : Sem Value} {w w' : World} {v : Value} {K : Value → World → Prop} {X : List PanicEntry → World → Prop} (h : s.run P w = .ok v w') (k : K v w') : semW P s w K X := by
  unfold semW; rw [h]; exact k
theorem sameBits_int (q : IntKind) (n : Int) : ∀ m, Instr.sameBits m (.int q n) (.int q n) = true
  | 0 => by simp [Instr.sameBits]
  | m + 1 => by simp [Instr.sameBits]
theorem amapUpdate_W {P : Program} {T : TT P} {g : G} {A A' : AH} {w : World} {t : TypeId} {m k v : AV} {vm vk vv : Value} {K : Value → World → Prop} {X : List PanicEntry → World → Prop}
    (s : Sat g A w) (h : amapUpdate T A t m k v = some A') (hm : rep g m vm) (hk : rep g k vk) (hv : rep g v vv) (kk : ∀ g' w', Fut g A w g' A' w' → K undef w') : semW P (do Instr.mapUpdate t vm vk vv; pure undef) w K X := by
  unfold amapUpdate at h
  split at h <;> try cases h
  rename_i kt et i q n hu
  simp only [rep] at hk; subst hk
  split at h <;> try cases h
  rename_i kd ver es clock hkt hg
  obtain ⟨b, hb, rfl⟩ := hm
  obtain ⟨ob, ox, e1, e2, e3⟩ := s.var i b hb
  rw [hg] at e1
  obtain rfl := Option.some.inj e1
  obtain ⟨ms, rfl, hms⟩ := e3
  have hgo := run_getMap (P := P) e2
  have hck : ∀ e, (Instr.checkKey e 10000 kt (.int q n)).run P w = .ok () w := fun e => run_checkKey_int hkt
  split at h <;> try cases h
  · rename_i j u hf
    obtain ⟨r', q1, q2⟩ := amfind_sound (kd := kd) hf hms
    obtain ⟨d, e, rfl, hd, he⟩ := amfind_at hf
    obtain ⟨me, hme, hkey⟩ := repM_get hms hd
    rw [he] at hkey
    simp only [rep] at hkey
    cases r' with
    | none => exact q2.elim
    | some p =>
      obtain ⟨j', u'⟩ := p
      obtain ⟨rfl, _⟩ := q2
      have hfk : (Instr.findKey kt (.int q n) ms).run P w = .ok (some (0 + d, u')) w := run_findKey_int hkt q1
      have F := Fut.setMap (x := .map ms.toArray clock) s hb hg e2 (ob := .map (ver + 1) (amset es (0 + d) (.int q n) v) clock) (o := .map (ms.modify (0 + d) fun e => { e with key := .int q n, val := vv }).toArray clock) (by simp [AO.ver]) ⟨_, rfl, repM_set (show rep g (.int q n) (.int q n) from rfl) hv hms⟩
      have hso := run_setMap (P := P) (.map (ms.modify (0 + d) fun e => { e with key := .int q n, val := vv }).toArray clock) e2
      refine semW_of ?_ (kk g _ F)
      have hk2 : (Instr.keyThatStays (((ms.toArray[0 + d]?).map (·.key)).getD (.int q n)) (.int q n)).run P w = .ok (.int q n) w := by
        have : ((ms.toArray[0 + d]?).map (·.key)).getD (.int q n) = .int q n := by simp [hme, hkey]
        rw [this]
        simp [Instr.keyThatStays, sameBits_int]
      simp only [Nat.zero_add] at hfk hso hk2 ⊢
      have hmod : (ms.toArray.modify d fun e => { e with key := Value.int q n, val := vv }) = (ms.modify d fun e => { e with key := Value.int q n, val := vv }).toArray := by simp
      simp only [Instr.mapUpdate, Sem.run_bind, run_underlying (T.und_ok _ _ hu), Result.andThen_ok, hgo, hck, hfk, hk2, hmod, hso, Sem.run_pure]
  · rename_i hf
    obtain ⟨r', q1, q2⟩ := amfind_sound (kd := kd) hf hms
    cases r' with
    | some p => exact q2.elim
    | none =>
      have hfk : (Instr.findKey kt (.int q n) ms).run P w = .ok none w := run_findKey_int hkt q1
      have F := Fut.setMap (x := .map ms.toArray clock) s hb hg e2 (ob := .map (ver + 1) (es ++ [(.int q n, v, clock)]) (clock + 1)) (o := .map (ms ++ [({ key := .int q n, val := vv, born := clock } : MapEntry)]).toArray (clock + 1)) (by simp [AO.ver]) ⟨_, rfl, repM_app (show rep g (.int q n) (.int q n) from rfl) hv hms⟩
      have hso := run_setMap (P := P) (.map (ms ++ [({ key := .int q n, val := vv, born := clock } : MapEntry)]).toArray (clock + 1)) e2
      refine semW_of ?_ (kk g _ F)
      have hpush : ms.toArray.push { key := .int q n, val := vv, born := clock } = (ms ++ [({ key := .int q n, val := vv, born := clock } : MapEntry)]).toArray := by simp
      simp only [Instr.mapUpdate, Sem.run_bind, run_underlying (T.und_ok _ _ hu), Result.andThen_ok, hgo, hck, hfk, hpush, hso, Sem.run_pure]
theorem adelete_W {P : Program} {T : TT P} {g : G} {A A' : AH} {w : World} {t ty : TypeId} {m k : AV} {vm vk : Value} {K : Value → World → Prop} {X : List PanicEntry → World → Prop} {t2 : TypeId}
    (s : Sat g A w) (h : adelete T A t m k = some A') (hret : fitRet T 0 (.tup []) = true) (hm : rep g m vm) (hk : rep g k vk) (kk : ∀ g' v w', Fut g A w g' A' w' → rep g' (.tup []) v → K v w') : semT T (Builtin.delete_ #[t, t2] ty #[vm, vk]) 0 w K X := by
  unfold adelete at h
  split at h <;> try cases h
  rename_i kt et i q n hu
  simp only [rep] at hk; subst hk
  split at h <;> try cases h
  rename_i kd ver es clock hkt hg
  obtain ⟨b, hb, rfl⟩ := hm
  obtain ⟨ob, ox, e1, e2, e3⟩ := s.var i b hb
  rw [hg] at e1
  obtain rfl := Option.some.inj e1
  obtain ⟨ms, rfl, hms⟩ := e3
  have hgo := run_getMap (P := P) e2
  have hck : ∀ e, (Instr.checkKey e 10000 kt (.int q n)).run P w = .ok () w := fun e => run_checkKey_int hkt
  split at h <;> try cases h
  · rename_i j u hf
    obtain ⟨r', q1, q2⟩ := amfind_sound (kd := kd) hf hms
    cases r' with
    | none => exact q2.elim
    | some p =>
      obtain ⟨j', u'⟩ := p
      obtain ⟨rfl, _⟩ := q2
      have hfk : (Instr.findKey kt (.int q n) ms).run P w = .ok (some (j, u')) w := run_findKey_int hkt q1
      have F := Fut.setMap (x := .map ms.toArray clock) s hb hg e2 (ob := .map (ver + 1) (es.eraseIdx j) clock) (o := .map (ms.eraseIdx j).toArray clock) (by simp [AO.ver]) ⟨_, rfl, repM_erase hms⟩
      have hso := run_setMap (P := P) (.map (ms.eraseIdx j).toArray clock) e2
      have her : ms.toArray.eraseIdxIfInBounds j = (ms.eraseIdx j).toArray := by
        apply Array.ext'
        unfold Array.eraseIdxIfInBounds
        split
        · simp
        · rename_i hlt
          simp at hlt
          rw [List.eraseIdx_of_length_le hlt]
      refine semT_of ?_ hret (show rep g (.tup []) (.tuple #[]) from ⟨[], rfl, rfl⟩) (kk g _ _ F ⟨[], rfl, rfl⟩)
      simp [Builtin.delete_, run_underlying (T.und_ok _ _ hu), hgo, hck, hfk, her, hso]
  · rename_i hf
    obtain ⟨r', q1, q2⟩ := amfind_sound (kd := kd) hf hms
    cases r' with
    | some p => exact q2.elim
    | none =>
      have hfk : (Instr.findKey kt (.int q n) ms).run P w = .ok none w := run_findKey_int hkt q1
      have F := Fut.setMap (x := .map ms.toArray clock) s hb hg e2 (ob := .map (ver + 1) es clock) (o := .map ms.toArray clock) (by simp [AO.ver]) ⟨_, rfl, hms⟩
      have hso := run_setMap (P := P) (.map ms.toArray clock) e2
      refine semT_of ?_ hret (show rep g (.tup []) (.tuple #[]) from ⟨[], rfl, rfl⟩) (kk g _ _ F ⟨[], rfl, rfl⟩)
      simp [Builtin.delete_, run_underlying (T.und_ok _ _ hu), hgo, hck, hfk, hso]
end Go.X

namespace Go.X
open Go Go.W
set_option linter.unusedSimpArgs false
set_option linter.unusedVariables false

/-- the operations of a region, without what does not matter -/
def opsL (l : List Oper) (k : List (Option Tmp × Op)) : Prop := l.map (fun o => (o.dst, o.op, o.guard)) = k.map (fun p => (p.1, p.2, none))
theorem opsL_cons {l : List Oper} {d : Option Tmp} {op : Op} {k : List (Option Tmp × Op)} (h : opsL l ((d, op) :: k)) : ∃ o r, l = o :: r ∧ o.dst = d ∧ o.op = op ∧ o.guard = none ∧ opsL r k := by
  cases l with
  | nil => simp [opsL] at h
  | cons o r =>
    simp only [opsL, List.map_cons, List.cons.injEq, Prod.mk.injEq] at h
    exact ⟨o, r, rfl, h.1.1, h.1.2.1, h.1.2.2, h.2⟩
theorem opsL_nil {l : List Oper} (h : opsL l []) : l = [] := by
  cases l with
  | nil => rfl
  | cons o r => simp [opsL] at h
/-- an iterator over the keys of a map, as maps.Keys makes it -/
structure KeysIt (P : Program) (f : FuncId) (tm : TypeId) where
  fn : Func
  hf : P.funcs[f]? = some fn
  hn : fn.ntmps = 14
  hres : fn.results = #[]
  r0 : Array Oper
  r1 : Array Oper
  r2 : Array Oper
  r3 : Array Oper
  tb : TypeId
  c : Call
  hb : fn.body = some (.seq (.region 0 r0 false) (.block 0 (.loop (.seq (.region 1 r1 false) (.seq (.cond (.tmp 7) .skip (.exit 0)) (.block 1 (.seq (.region 2 r2 false) (.seq (.region 3 r3 false) (.cond (.tmp 13) .ret .skip)))))))))
  h0 : opsL r0.toList [(some 4, .load tm (.tmp 1)), (some 5, .range tm (.tmp 4))]
  h1 : opsL r1.toList [(some 6, .next (.tmp 5) false), (some 7, .extract (.tmp 6) 0)]
  h2 : opsL r2.toList [(some 8, .entry (.tmp 5)), (some 9, .extract (.tmp 8) 0), (some 3, .assign (.tmp 9))]
  h3 : opsL r3.toList [(some 10, .move (.tmp 0)), (some 11, .move (.tmp 3)), (some 12, .call c), (some 13, .unOp .not tb (.tmp 12))]
  hc : c.callee = .value (.tmp 10)
  ha : c.args = #[.tmp 11]
end Go.X

namespace Go.X
open Go Go.W
set_option linter.unusedSimpArgs false
set_option linter.unusedVariables false

/-! contexts -/
structure FX where
  fn : Func
  ord : List (Nat × OT)
structure Cx (P : Program) where
  T : TT P
  byt : TypeId → Option Nat
  hbyt : ∀ t n, byt t = some n → ∀ i, P.info? t = some i → i.bytes = n
  ok : Nat → Bool
  hok : ∀ f, ok f = true → enters P f
  hm : P.follows .mixedOrders = true
  fn : Nat → Option FX
  hfn : ∀ f F, fn f = some F → P.funcs[f]? = some F.fn
  keys : FuncId → Option TypeId
  hkeys : ∀ f tm, keys f = some tm → Nonempty (KeysIt P f tm)
/-- how a call ends -/
inductive AE where
  | ret (v : AV)
  | pan (ch : List (AV × Bool))
def repCh (g : G) : List (AV × Bool) → List PanicEntry → Prop
  | [], ch => ch = []
  | (a, b) :: r, ch => ∃ v ch', ch = { v := v, recovered := b } :: ch' ∧ rep g a v ∧ repCh g r ch'
def repE (g : G) : AE → Ending → Prop
  | .ret a, en => ∃ v, en = .returned v ∧ rep g a v
  | .pan ch, en => ∃ ch', en = .panicked ch' ∧ repCh g ch ch'
abbrev CallF := FuncId → List AV → AH → Option (AE × AH)
abbrev ExtF := FuncId → List AV → AH → Option (AV × AH)
def CallOk (P : Program) (call : CallF) : Prop := ∀ f args A e A', call f args A = some (e, A') → ∀ g w vs, Sat g A w → reps g args vs →
  Calls P f vs.toArray w (fun en w' => ∃ g', Fut g A w g' A' w' ∧ repE g' e en)
def ExtOk (P : Program) (ext : ExtF) : Prop := ∀ f args A r A', ext f args A = some (r, A') → ∀ g w vs, Sat g A w → reps g args vs →
  ∃ v w' g', (callFunc f vs.toArray).run P w = .ok (.value v) w' ∧ Fut g A w g' A' w' ∧ rep g' r v

/-! slots -/
abbrev ed : Nat := 7
abbrev AEnv := Tr AV
def slot (E : AEnv) (t : Nat) : AV := match E.get ed t with | some a => a | none => .tup []
def aput (E : AEnv) (d : Option Tmp) (a : AV) : AEnv := match d with | some d => E.set ed d a | none => E
def envR (g : G) (E : AEnv) (e : Env) : Prop := ∀ t, rep g (slot E t) (e t)
theorem rep_undef (g : G) : rep g (.tup []) undef := ⟨[], rfl, rfl⟩
theorem envR_mono {g g' : G} (h : g.le g') {E : AEnv} {e : Env} (he : envR g E e) : envR g' E e := fun t => rep_mono h _ (he t)
theorem envR_put {g : G} {E : AEnv} {e : Env} {d : Option Tmp} {a : AV} {v : Value} (he : envR g E e) (hv : rep g a v) : envR g (aput E d a) (put e d v) := by
  cases d with
  | none => exact he
  | some d =>
    intro t
    simp only [aput, put, up, slot]
    cases hb : Nat.beq t d
    · have : t ≠ d := fun e => by rw [e] at hb; simp at hb
      rw [Tr.get_set_ne _ _ _ this]; exact he t
    · obtain rfl := Nat.eq_of_beq_eq_true hb
      rw [Tr.get_set_same]; exact hv
def aev (n : Nat) (E : AEnv) : Operand → Option AV
  | .tmp t => some (bif Nat.blt t n then slot E t else .tup [])
  | .const v => ofV v
  | .global _ => none
  | .func f => some (.func (.func f) [] [])
theorem aev_rep {g : G} {n : Nat} {E : AEnv} {e : Env} (he : envR g E e) {o : Operand} {a : AV} (h : aev n E o = some a) : rep g a (ev n e o) := by
  cases o with
  | tmp t =>
    simp only [aev, Option.some.injEq] at h; subst h
    simp only [ev]
    cases Nat.blt t n
    · exact rep_undef g
    · exact he t
  | const v => exact ofV_rep v h
  | global k => cases h
  | func f => simp only [aev, Option.some.injEq] at h; subst h; exact ⟨[], [], rfl, rfl, rfl⟩
def ob {α β : Type} (x : Option α) (f : α → Option β) : Option β := match x with | some a => f a | none => none
theorem ob_some {α β : Type} {x : Option α} {f : α → Option β} {b : β} (h : ob x f = some b) : ∃ a, x = some a ∧ f a = some b := by
  cases x with
  | none => cases h
  | some a => exact ⟨a, rfl, h⟩
def aevs (n : Nat) (E : AEnv) : List Operand → Option (List AV)
  | [] => some []
  | x :: xs => ob (aev n E x) fun a => ob (aevs n E xs) fun l => some (a :: l)
theorem aevs_rep {g : G} {n : Nat} {E : AEnv} {ρ : Operand → Value} : ∀ {xs : List Operand} (he : ∀ o ∈ xs, ∀ a, aev n E o = some a → rep g a (ρ o)) {l : List AV}, aevs n E xs = some l → reps g l (mapL ρ xs)
  | [], he, l, h => by simp only [aevs, Option.some.injEq] at h; subst h; rfl
  | x :: xs, he, l, h => by
    obtain ⟨a, h1, h⟩ := ob_some h
    obtain ⟨l', h2, h⟩ := ob_some h
    obtain rfl := Option.some.inj h
    exact ⟨_, _, rfl, he x (List.mem_cons_self ..) _ h1, aevs_rep (fun o ho => he o (List.mem_cons_of_mem _ ho)) h2⟩
def aevp (n : Nat) (E : AEnv) : List (Nat × Operand) → Option (List (Nat × AV))
  | [] => some []
  | (i, x) :: xs => ob (aev n E x) fun a => ob (aevp n E xs) fun l => some ((i, a) :: l)
theorem aevp_rep {g : G} {n : Nat} {E : AEnv} {ρ : Operand → Value} : ∀ {xs : List (Nat × Operand)} (he : ∀ o ∈ xs.map (·.2), ∀ a, aev n E o = some a → rep g a (ρ o)) {l : List (Nat × AV)}, aevp n E xs = some l → repPs g l (evL ρ xs)
  | [], he, l, h => by simp only [aevp, Option.some.injEq] at h; subst h; rfl
  | (i, x) :: xs, he, l, h => by
    obtain ⟨a, h1, h⟩ := ob_some h
    obtain ⟨l', h2, h⟩ := ob_some h
    obtain rfl := Option.some.inj h
    exact ⟨_, _, rfl, he x (by simp) _ h1, aevp_rep (fun o ho => he o (by simp only [List.map_cons]; exact List.mem_cons_of_mem _ ho)) h2⟩
/-- an operand that may be missing -/
def aevo (n : Nat) (E : AEnv) : Option Operand → Option (Option AV)
  | none => some none
  | some x => ob (aev n E x) fun a => some (some a)
theorem aevo_rep {g : G} {n : Nat} {E : AEnv} {ρ : Operand → Value} {x : Option Operand} (he : ∀ o ∈ x.toList, ∀ a, aev n E o = some a → rep g a (ρ o)) {a : Option AV} (h : aevo n E x = some a) : repOp g a (optV ρ x) := by
  cases x with
  | none => simp only [aevo, Option.some.injEq] at h; subst h; trivial
  | some x =>
    obtain ⟨a', h1, h⟩ := ob_some h
    obtain rfl := Option.some.inj h
    exact he x (by simp) _ h1
def opsOf (op : Op) : List Operand := match op with
  | .move x | .assign x | .box _ x | .load _ x | .nilCheck x | .unOp _ _ x | .convert _ _ x | .makeInterface _ x | .fieldAddr _ x _ | .field _ x _ | .range _ x | .next x _ | .entry x | .typeAssert x _ _ _ | .extract x _ | .panic x => [x]
  | .pick c a b => [c, a, b]
  | .build _ ps | .buildSlice _ _ ps => ps.toList.map (·.2)
  | .store _ a v | .binOp _ _ a v _ | .makeSlice _ a v | .indexAddr _ a v | .index _ a v | .lookup _ a v _ => [a, v]
  | .makeFunc _ f c => f.toList ++ c.toList
  | .slice _ x l h m => x :: (l.toList ++ h.toList ++ m.toList)
  | .mapUpdate _ m k v => [m, k, v]
  | .call c | .defer c => (match c.callee with | .value f => [f] | _ => []) ++ c.args.toList
  | _ => []
/-- the operands are what they are to be -/
def opR (g : G) (n : Nat) (E : AEnv) (ρ : Operand → Value) (op : Op) : Prop := ∀ o ∈ opsOf op, ∀ a, aev n E o = some a → rep g a (ρ o)
theorem envR.opR {g : G} {n : Nat} {E : AEnv} {e : Env} (h : envR g E e) (op : Op) : opR g n E (ev n e) op := fun o _ a ha => aev_rep h ha

/-! operations that read alone -/
def abuiltinS {P : Program} (T : TT P) (b : Builtin) (ats : List TypeId) (args : List AV) : Option AV :=
  match b, ats, args with
  | .len, t :: _, [x] => match x, T.und t with
    | .sl n _ _, some (.slice _) => some (.int .i64 n)
    | .rf _ _ n _, some (.slice _) => some (.int .i64 n)
    | .str s, some .string => some (.int .i64 s.length)
    | _, _ => none
  | .cap, t :: _, [x] => match x, T.und t with
    | .rf _ _ _ c, some (.slice _) => some (.int .i64 c)
    | _, _ => none
  | .min, _, [.int k x, .int _ y] => some (.int k (if y < x then y else x))
  | .max, _, [.int k x, .int _ y] => some (.int k (if y > x then y else x))
  | _, _, _ => none
theorem abuiltinS_W {P : Program} {T : TT P} {g : G} {b : Builtin} {ats : List TypeId} {args : List AV} {vs : List Value} {r : AV} {K : Value → Prop} (h : abuiltinS T b ats args = some r) (hr : reps g args vs) (k : ∀ v, rep g r v → K v) : builtinS T b ats vs K := by
  unfold abuiltinS at h
  split at h <;> try cases h
  · rename_i t ts x
    obtain ⟨u, us, rfl, hx, hn⟩ := hr
    simp only [reps] at hn; subst hn
    split at h <;> try cases h
    · rename_i n cs tk e hu
      obtain ⟨a, cap, rfl, _⟩ := hx
      simp only [builtinS, hu]; exact k _ rfl
    · rename_i i o n c e hu
      obtain ⟨b, _, rfl⟩ := hx
      simp only [builtinS, hu]; exact k _ rfl
    · rename_i s hu
      simp only [rep] at hx; subst hx
      simp only [builtinS, hu]; exact k _ rfl
  · rename_i t ts x
    obtain ⟨u, us, rfl, hx, hn⟩ := hr
    simp only [reps] at hn; subst hn
    split at h <;> try cases h
    rename_i i o n c e hu
    obtain ⟨b, _, rfl⟩ := hx
    simp only [builtinS, hu]; exact k _ rfl
  · obtain ⟨u, us, rfl, hx, u2, us2, rfl, hy, hn⟩ := hr
    simp only [reps] at hn; subst hn
    simp only [rep] at hx hy; subst hx hy
    exact k _ rfl
  · obtain ⟨u, us, rfl, hx, u2, us2, rfl, hy, hn⟩ := hr
    simp only [reps] at hn; subst hn
    simp only [rep] at hx hy; subst hx hy
    exact k _ rfl
def aconvS {P : Program} (T : TT P) (s d : TypeId) (x : AV) : Option AV :=
  match T.und s, T.und d, x with
  | some _, some (.int k), .int _ n => some (.int k (k.wrap n))
  | some _, some .string, .str s => some (.str s)
  | _, _, _ => none
theorem aconvS_W {P : Program} {T : TT P} {g : G} {s d : TypeId} {x r : AV} {vx : Value} {K : Value → Prop} (h : aconvS T s d x = some r) (hx : rep g x vx) (k : ∀ v, rep g r v → K v) : convS T s d vx K := by
  unfold aconvS at h
  split at h <;> try cases h
  · rename_i td k' _ n h1 h2
    simp only [rep] at hx; subst hx
    simp only [convS, h1, h2]; exact k _ rfl
  · rename_i td s' h1 h2
    simp only [rep] at hx; subst hx
    simp only [convS, h1, h2]; exact k _ rfl
def astillM {P : Program} (T : TT P) (n : Nat) (E : AEnv) (A : AH) (op : Op) : Option AV :=
  match op with
  | .move x => aev n E x
  | .assign x => aev n E x
  | .pick c a b => ob (aev n E c) fun c => ob (aev n E a) fun a => ob (aev n E b) fun b => apick c a b
  | .build t ps => ob (aevp n E ps.toList) fun ps => abuild T t ps
  | .load t a => ob (aev n E a) fun a => aload T A t a
  | .nilCheck x => ob (aev n E x) fun x => anil x
  | .binOp o t x y _ => ob (aev n E x) fun x => ob (aev n E y) fun y => abin T o t x y
  | .unOp o _ x => ob (aev n E x) fun x => aun o x
  | .convert s d x => ob (aev n E x) fun x => aconvS T s d x
  | .makeInterface t x => ob (aev n E x) fun x => aiface T t x
  | .makeFunc fn f c => ob (aevs n E f.toList) fun f => ob (aevs n E c.toList) fun c => some (.func fn f c)
  | .slice t x lo hi mx => ob (aev n E x) fun x => ob (aevo n E lo) fun lo => ob (aevo n E hi) fun hi => ob (aevo n E mx) fun mx => aslice T t x lo hi mx
  | .fieldAddr t x f => ob (aev n E x) fun x => afieldAddr T t x f
  | .field t x f => ob (aev n E x) fun x => afield T t x f
  | .indexAddr t x i => ob (aev n E x) fun x => ob (aev n E i) fun i => aindexAddr T t x i
  | .index t x i => ob (aev n E x) fun x => ob (aev n E i) fun i => aindex T t x i
  | .typeAssert x _ at_ b => ob (aev n E x) fun x => aassert T x at_ b
  | .extract x i => ob (aev n E x) fun x => aextract x i
  | .call c => match c.callee with
    | .builtin b => ob (aevs n E c.args.toList) fun l => abuiltinS T b c.argTypes.toList l
    | _ => none
  | _ => none

abbrev SK (P : Program) := TT P → Nat → AEnv → AH → Option AV
def sNo {P : Program} : SK P := fun _ _ _ _ => none
def sMove {P : Program} (x : Operand) : SK P := fun T n E A => aev n E x
def sPick {P : Program} (c a b : Operand) : SK P := fun T n E A => ob (aev n E c) fun c => ob (aev n E a) fun a => ob (aev n E b) fun b => apick c a b
def sBuild {P : Program} (t : TypeId) (ps : Array (Nat × Operand)) : SK P := fun T n E A => ob (aevp n E ps.toList) fun ps => abuild T t ps
def sLoad {P : Program} (t : TypeId) (a : Operand) : SK P := fun T n E A => ob (aev n E a) fun a => aload T A t a
def sNil {P : Program} (x : Operand) : SK P := fun T n E A => ob (aev n E x) fun x => anil x
def sBin {P : Program} (o : BinOp) (t : TypeId) (x y : Operand) (_ : TypeId) : SK P := fun T n E A => ob (aev n E x) fun x => ob (aev n E y) fun y => abin T o t x y
def sUn {P : Program} (o : UnOp) (_ : TypeId) (x : Operand) : SK P := fun T n E A => ob (aev n E x) fun x => aun o x
def sConv {P : Program} (s d : TypeId) (x : Operand) : SK P := fun T n E A => ob (aev n E x) fun x => aconvS T s d x
def sIface {P : Program} (t : TypeId) (x : Operand) : SK P := fun T n E A => ob (aev n E x) fun x => aiface T t x
def sFunc {P : Program} (fn : Fn) (f c : Array Operand) : SK P := fun T n E A => ob (aevs n E f.toList) fun f => ob (aevs n E c.toList) fun c => some (.func fn f c)
def sSlice {P : Program} (t : TypeId) (x : Operand) (lo hi mx : Option Operand) : SK P := fun T n E A => ob (aev n E x) fun x => ob (aevo n E lo) fun lo => ob (aevo n E hi) fun hi => ob (aevo n E mx) fun mx => aslice T t x lo hi mx
def sFieldAddr {P : Program} (t : TypeId) (x : Operand) (f : Nat) : SK P := fun T n E A => ob (aev n E x) fun x => afieldAddr T t x f
def sField {P : Program} (t : TypeId) (x : Operand) (f : Nat) : SK P := fun T n E A => ob (aev n E x) fun x => afield T t x f
def sIndexAddr {P : Program} (t : TypeId) (x i : Operand) : SK P := fun T n E A => ob (aev n E x) fun x => ob (aev n E i) fun i => aindexAddr T t x i
def sIndex {P : Program} (t : TypeId) (x i : Operand) : SK P := fun T n E A => ob (aev n E x) fun x => ob (aev n E i) fun i => aindex T t x i
def sAssert {P : Program} (x : Operand) (_ at_ : TypeId) (b : Bool) : SK P := fun T n E A => ob (aev n E x) fun x => aassert T x at_ b
def sExtract {P : Program} (x : Operand) (i : Nat) : SK P := fun T n E A => ob (aev n E x) fun x => aextract x i
def sCall {P : Program} (c : Call) : SK P := fun T n E A => match c.callee with
    | .builtin b => ob (aevs n E c.args.toList) fun l => abuiltinS T b c.argTypes.toList l
    | _ => none
def astill {P : Program} (T : TT P) (n : Nat) (E : AEnv) (A : AH) (op : Op) : Option AV :=
  Op.casesOn (motive := fun _ => SK P) op sMove sMove sPick (fun _ => sNo) (fun _ _ => sNo) sBuild (fun _ _ _ => sNo) (fun _ _ _ _ => sNo) sLoad (fun _ _ _ => sNo) (fun _ => sNo) (fun _ => sNo) sNil sBin sUn sConv (fun _ _ => sNo) sIface sFunc (fun _ _ => sNo) (fun _ _ => sNo) (fun _ _ _ => sNo) sSlice sFieldAddr sField sIndexAddr sIndex (fun _ _ _ _ => sNo) (fun _ _ _ _ => sNo) (fun _ _ _ => sNo) (fun _ _ _ _ => sNo) (fun _ _ => sNo) (fun _ _ => sNo) (fun _ => sNo) sAssert sExtract sCall (fun _ => sNo) (fun _ => sNo) (fun _ => sNo) (fun _ _ => sNo) (fun _ _ _ => sNo) (fun _ _ => sNo) T n E A
theorem astill_eq {P : Program} {T : TT P} {n : Nat} {E : AEnv} {A : AH} {op : Op} : astill T n E A op = astillM T n E A op := by cases op <;> rfl
/-- where a load reads -/
def loadPtr (n : Nat) (E : AEnv) (op : Op) : Option AV := match op with
  | .load _ a => aev n E a
  | _ => none
def loadOp (op : Op) : Operand := match op with
  | .load _ a => a
  | _ => .const undef
theorem astill_S {P : Program} {T : TT P} {g : G} {n : Nat} {E : AEnv} {ρ : Operand → Value} {A : AH} {w : World} {op : Op} {r : AV} {C : Addr → Value → Prop} {K : Value → Prop} (s : Sat g A w) (he : opR g n E ρ op) (h : astill T n E A op = some r)
    (hC : ∀ p, loadPtr n E op = some p → ∀ b o u, w.cell? ⟨b, o, none⟩ = some u → ((∃ i o', p = .ptr i o' ∧ g.var i = some b) ∨ (∃ cs' o', p = .ep cs' ∧ ρ (loadOp op) = .pointer (some ⟨b, o', none⟩) ∧ o' ≤ o ∧ o < o' + cs'.length)) → C ⟨b, o, none⟩ u)
    (k : ∀ v, rep g r v → K v) : stillW T ρ op C K := by
  rw [astill_eq] at h
  unfold astillM at h
  split at h
  case h_1 x => exact k _ ((he _ (by simp [opsOf]) _ h))
  case h_2 x => exact k _ ((he _ (by simp [opsOf]) _ h))
  case h_3 =>
    obtain ⟨c, h1, h⟩ := ob_some h; obtain ⟨a, h2, h⟩ := ob_some h; obtain ⟨b, h3, h⟩ := ob_some h
    exact apick_W h ((he _ (by simp [opsOf]) _ h1)) ((he _ (by simp [opsOf]) _ h2)) ((he _ (by simp [opsOf]) _ h3)) k
  case h_4 => obtain ⟨ps, h1, h⟩ := ob_some h; exact abuild_W h ((aevp_rep (fun o ho => he o (by simpa [opsOf] using ho)) h1)) k
  case h_5 => obtain ⟨a, h1, h⟩ := ob_some h; exact aload_C s ((he _ (by simp [opsOf]) _ h1)) h (hC a h1) k
  case h_6 => obtain ⟨a, h1, h⟩ := ob_some h; exact anil_W h ((he _ (by simp [opsOf]) _ h1)) k
  case h_7 => obtain ⟨a, h1, h⟩ := ob_some h; obtain ⟨b, h2, h⟩ := ob_some h; exact abin_W h ((he _ (by simp [opsOf]) _ h1)) ((he _ (by simp [opsOf]) _ h2)) k
  case h_8 => obtain ⟨a, h1, h⟩ := ob_some h; exact aun_W h ((he _ (by simp [opsOf]) _ h1)) k
  case h_9 => obtain ⟨a, h1, h⟩ := ob_some h; exact aconvS_W h ((he _ (by simp [opsOf]) _ h1)) k
  case h_10 => obtain ⟨a, h1, h⟩ := ob_some h; exact aiface_W h ((he _ (by simp [opsOf]) _ h1)) k
  case h_11 =>
    obtain ⟨f, h1, h⟩ := ob_some h; obtain ⟨c, h2, h⟩ := ob_some h
    obtain rfl := Option.some.inj h
    exact k _ ⟨_, _, rfl, aevs_rep (fun o ho => he o (by simp only [opsOf]; exact List.mem_append_left _ ho)) h1, aevs_rep (fun o ho => he o (by simp only [opsOf]; exact List.mem_append_right _ ho)) h2⟩
  case h_12 =>
    obtain ⟨x, h1, h⟩ := ob_some h; obtain ⟨lo, h2, h⟩ := ob_some h; obtain ⟨hi, h3, h⟩ := ob_some h; obtain ⟨mx, h4, h⟩ := ob_some h
    exact aslice_W h ((he _ (by simp [opsOf]) _ h1)) (aevo_rep (fun o ho => he o (by simp only [opsOf, List.mem_cons, List.mem_append]; exact .inr (.inl (.inl ho)))) h2) (aevo_rep (fun o ho => he o (by simp only [opsOf, List.mem_cons, List.mem_append]; exact .inr (.inl (.inr ho)))) h3) (aevo_rep (fun o ho => he o (by simp only [opsOf, List.mem_cons, List.mem_append]; exact .inr (.inr ho))) h4) k
  case h_13 => obtain ⟨a, h1, h⟩ := ob_some h; exact afieldAddr_W h ((he _ (by simp [opsOf]) _ h1)) k
  case h_14 => obtain ⟨a, h1, h⟩ := ob_some h; exact afield_W h ((he _ (by simp [opsOf]) _ h1)) k
  case h_15 => obtain ⟨a, h1, h⟩ := ob_some h; obtain ⟨b, h2, h⟩ := ob_some h; exact aindexAddr_W h ((he _ (by simp [opsOf]) _ h1)) ((he _ (by simp [opsOf]) _ h2)) k
  case h_16 => obtain ⟨a, h1, h⟩ := ob_some h; obtain ⟨b, h2, h⟩ := ob_some h; exact aindex_W h ((he _ (by simp [opsOf]) _ h1)) ((he _ (by simp [opsOf]) _ h2)) k
  case h_17 => obtain ⟨a, h1, h⟩ := ob_some h; exact aassert_W h ((he _ (by simp [opsOf]) _ h1)) k
  case h_18 => obtain ⟨a, h1, h⟩ := ob_some h; exact aextract_W h ((he _ (by simp [opsOf]) _ h1)) k
  case h_19 c =>
    split at h
    · rename_i b hb
      obtain ⟨l, h1, h⟩ := ob_some h
      simp only [stillW, hb]
      exact abuiltinS_W h (aevs_rep (fun o ho => he o (by simp only [opsOf, hb]; exact List.mem_append_right _ ho)) h1) k
    · cases h
  case h_20 => cases h
end Go.X

namespace Go.X
open Go Go.W
set_option linter.unusedSimpArgs false
set_option linter.unusedVariables false

theorem still_op {P : Program} {T : TT P} {ok : Nat → Bool} {ρ : Operand → Value} {op : Op} {ty : TypeId} {w : World} {K : Value → World → Prop} {Kd : Deferred → World → Prop} {X : List PanicEntry → World → Prop}
    (h : stillW T ρ op (fun a v => w.cell? a = some v) (fun v => K v w)) : opW T ok ρ op ty w K Kd X := by
  cases op <;> simp only [stillW] at h <;> first
    | exact h
    | exact load_CW h
    | (exfalso; exact h)
    | skip
  case convert s d x =>
    unfold convS at h
    unfold opW
    simp only
    split at h
    · rename_i h1 h2 h3; simp only [convW, h1, h2, h3]; exact h
    · rename_i h1 h2 h3; simp only [convW, h1, h2, h3]; exact h
    · exact h.elim
  case call c =>
    obtain ⟨callee, args, ats⟩ := c
    cases callee with
    | value f => exact h.elim
    | invoke r m => exact h.elim
    | builtin b =>
      simp only at h
      unfold builtinS at h
      simp only [opW, callW]
      split at h
      · rename_i h1 h2; split at h <;> try exact h.elim
        rename_i hu
        simp only [builtinW, h1, h2, hu]; exact h
      · rename_i h1 h2; split at h <;> try exact h.elim
        rename_i hu
        simp only [builtinW, h1, h2, hu]; exact h
      · rename_i h1 h2; split at h <;> try exact h.elim
        rename_i hu
        simp only [builtinW, h1, h2, hu]; exact h
      · rename_i h1; simp only [builtinW, h1]; exact h
      · rename_i h1; simp only [builtinW, h1]; exact h
      · exact h.elim

/-! all operations -/
inductive ADef where
  | fn (f : FuncId) (args : List AV)
  | mark (i : Nat)
def repD (g : G) : ADef → Deferred → Prop
  | .fn f args, d' => ∃ cap, d'.target = .fn (.func f) cap ∧ reps g args (d'.args.toList ++ cap.toList)
  | .mark i, d' => ∃ b, d'.target = .collected b ∧ g.var i = some b
inductive OR where
  | val (r : AV) (A : AH)
  | dfr (d : ADef)
  | pan (ch : List (AV × Bool)) (A : AH)
section
variable {P : Program} (X : Cx P) (call : CallF) (ext : ExtF)
def acall (f : AV) (args : List AV) (ty : TypeId) (A : AH) : Option OR :=
  match f with
  | .func (.func g) first cap => bif X.ok g then
      (match call g (first ++ args ++ cap) A with
       | some (.ret r, A') => bif fitRet X.T ty r then some (.val r A') else none
       | some (.pan ch, A') => some (.pan ch A')
       | none => none)
    else (match ext g (first ++ args ++ cap) A with
      | some (r, A') => bif fitRet X.T ty r then some (.val r A') else none
      | none => none)
  | _ => none
def aopM (n : Nat) (E : AEnv) (A : AH) (op : Op) (ty : TypeId) : Option OR :=
  match op with
  | .alloc t => ob (aalloc X.T A t) fun r => some (.val r.1 r.2)
  | .box t x => ob (aev n E x) fun x => ob (abox A t x) fun r => some (.val r.1 r.2)
  | .buildSlice t k ps => ob (aevp n E ps.toList) fun ps => ob (abuildSlice X.T A t k ps) fun r => some (.val r.1 r.2)
  | .store t a x => ob (aev n E a) fun a => ob (aev n E x) fun x => ob (astore X.T A t a x) fun A' => some (.val (.tup []) A')
  | .convert s d x => ob (aev n E x) fun x => ob (aconv X.T A s d x) fun r => some (.val r.1 r.2)
  | .makeMap _ none => ob (anew A (.map 0 [] 0)) fun r => match r.1 with | .ptr i _ => some (.val (.map (some i)) r.2) | _ => none
  | .makeSlice t l c => ob (aev n E l) fun l => ob (aev n E c) fun c => ob (amakeSlice X.T X.byt A t l c) fun r => some (.val r.1 r.2)
  | .lookup t x i b => ob (aev n E x) fun x => ob (aev n E i) fun i => ob (alookup X.T A t ty x i b) fun r => some (.val r A)
  | .mapUpdate t m k x => ob (aev n E m) fun m => ob (aev n E k) fun k => ob (aev n E x) fun x => ob (amapUpdate X.T A t m k x) fun A' => some (.val (.tup []) A')
  | .call c => match c.callee with
    | .value f => ob (aev n E f) fun f => ob (aevs n E c.args.toList) fun l => acall X call ext f l ty A
    | .builtin b => match b with
      | .append => ob (aevs n E c.args.toList) fun l => match c.argTypes.toList, l with
        | [t1, t2], [s, x] => ob (aappend X.T X.byt A t1 t2 ty s x) fun r => some (.val r.1 r.2)
        | _, _ => none
      | .copy => ob (aevs n E c.args.toList) fun l => match c.argTypes.toList, l with
        | [t1, t2], [s, x] => ob (acopy X.T A t1 ty s x) fun r => some (.val r.1 r.2)
        | _, _ => none
      | .delete => ob (aevs n E c.args.toList) fun l => match c.argTypes.toList, l with
        | [t1, t2], [s, x] => bif fitRet X.T 0 (.tup []) then ob (adelete X.T A t1 s x) fun A' => some (.val (.tup []) A') else none
        | _, _ => none
      | b => ob (aevs n E c.args.toList) fun l => ob (abuiltinS X.T b c.argTypes.toList l) fun r => some (.val r A)
    | .invoke _ _ => none
  | .defer c => match c.callee with
    | .value f => ob (aev n E f) fun f => ob (aevs n E c.args.toList) fun l => match f with
      | .func (.func g) first cap => some (.dfr (.fn g (first ++ l ++ cap)))
      | _ => none
    | _ => none
  | .panic x => ob (aev n E x) fun x => match x with
    | .iface t v => some (.pan [(.iface t v, false)] A)
    | _ => none
  | op => ob (astill X.T n E A op) fun r => some (.val r A)
end
abbrev OK (P : Program) := Cx P → CallF → ExtF → Nat → AEnv → AH → TypeId → Option OR
def oNo {P : Program} : OK P := fun _ _ _ _ _ _ _ => none
def oS {P : Program} (f : SK P) : OK P := fun X _ _ n E A _ => ob (f X.T n E A) fun r => some (.val r A)
def oBuiltin {P : Program} (b : Builtin) (c : Call) : OK P := fun X call ext n E A ty => match b with
      | .append => ob (aevs n E c.args.toList) fun l => match c.argTypes.toList, l with
        | [t1, t2], [s, x] => ob (aappend X.T X.byt A t1 t2 ty s x) fun r => some (.val r.1 r.2)
        | _, _ => none
      | .copy => ob (aevs n E c.args.toList) fun l => match c.argTypes.toList, l with
        | [t1, t2], [s, x] => ob (acopy X.T A t1 ty s x) fun r => some (.val r.1 r.2)
        | _, _ => none
      | .delete => ob (aevs n E c.args.toList) fun l => match c.argTypes.toList, l with
        | [t1, t2], [s, x] => bif fitRet X.T 0 (.tup []) then ob (adelete X.T A t1 s x) fun A' => some (.val (.tup []) A') else none
        | _, _ => none
      | b => ob (aevs n E c.args.toList) fun l => ob (abuiltinS X.T b c.argTypes.toList l) fun r => some (.val r A)
def oAlloc {P : Program} (t : TypeId) : OK P := fun X call ext n E A ty => ob (aalloc X.T A t) fun r => some (.val r.1 r.2)
def oBox {P : Program} (t : TypeId) (x : Operand) : OK P := fun X call ext n E A ty => ob (aev n E x) fun x => ob (abox A t x) fun r => some (.val r.1 r.2)
def oBuildSlice {P : Program} (t : TypeId) (k : Nat) (ps : Array (Nat × Operand)) : OK P := fun X call ext n E A ty => ob (aevp n E ps.toList) fun ps => ob (abuildSlice X.T A t k ps) fun r => some (.val r.1 r.2)
def oStore {P : Program} (t : TypeId) (a x : Operand) : OK P := fun X call ext n E A ty => ob (aev n E a) fun a => ob (aev n E x) fun x => ob (astore X.T A t a x) fun A' => some (.val (.tup []) A')
def oConv {P : Program} (s d : TypeId) (x : Operand) : OK P := fun X call ext n E A ty => ob (aev n E x) fun x => ob (aconv X.T A s d x) fun r => some (.val r.1 r.2)
def oMakeMap {P : Program} (t : TypeId) (r : Option Operand) : OK P := fun X call ext n E A ty => match r with
    | none => ob (anew A (.map 0 [] 0)) fun r => match r.1 with | .ptr i _ => some (.val (.map (some i)) r.2) | _ => none
    | some _ => none
def oMakeSlice {P : Program} (t : TypeId) (l c : Operand) : OK P := fun X call ext n E A ty => ob (aev n E l) fun l => ob (aev n E c) fun c => ob (amakeSlice X.T X.byt A t l c) fun r => some (.val r.1 r.2)
def oLookup {P : Program} (t : TypeId) (x i : Operand) (b : Bool) : OK P := fun X call ext n E A ty => ob (aev n E x) fun x => ob (aev n E i) fun i => ob (alookup X.T A t ty x i b) fun r => some (.val r A)
def oMapUpdate {P : Program} (t : TypeId) (m k x : Operand) : OK P := fun X call ext n E A ty => ob (aev n E m) fun m => ob (aev n E k) fun k => ob (aev n E x) fun x => ob (amapUpdate X.T A t m k x) fun A' => some (.val (.tup []) A')
def oCall {P : Program} (c : Call) : OK P := fun X call ext n E A ty => match c.callee with
    | .value f => ob (aev n E f) fun f => ob (aevs n E c.args.toList) fun l => acall X call ext f l ty A
    | .builtin b => oBuiltin b c X call ext n E A ty
    | .invoke _ _ => none
def oDefer {P : Program} (c : Call) : OK P := fun X call ext n E A ty => match c.callee with
    | .value f => ob (aev n E f) fun f => ob (aevs n E c.args.toList) fun l => match f with
      | .func (.func g) first cap => some (.dfr (.fn g (first ++ l ++ cap)))
      | _ => none
    | _ => none
def oPanic {P : Program} (x : Operand) : OK P := fun X call ext n E A ty => ob (aev n E x) fun x => match x with
    | .iface t v => some (.pan [(.iface t v, false)] A)
    | _ => none
def aop {P : Program} (X : Cx P) (call : CallF) (ext : ExtF) (n : Nat) (E : AEnv) (A : AH) (op : Op) (ty : TypeId) : Option OR :=
  Op.casesOn (motive := fun _ => OK P) op (fun a0 => oS (sMove a0)) (fun a0 => oS (sMove a0)) (fun a0 a1 a2 => oS (sPick a0 a1 a2)) oAlloc oBox (fun a0 a1 => oS (sBuild a0 a1)) oBuildSlice (fun _ _ _ _ => oNo) (fun a0 a1 => oS (sLoad a0 a1)) oStore (fun _ => oNo) (fun _ => oNo) (fun a0 => oS (sNil a0)) (fun a0 a1 a2 a3 a4 => oS (sBin a0 a1 a2 a3 a4)) (fun a0 a1 a2 => oS (sUn a0 a1 a2)) oConv (fun _ _ => oNo) (fun a0 a1 => oS (sIface a0 a1)) (fun a0 a1 a2 => oS (sFunc a0 a1 a2)) oMakeMap (fun _ _ => oNo) oMakeSlice (fun a0 a1 a2 a3 a4 => oS (sSlice a0 a1 a2 a3 a4)) (fun a0 a1 a2 => oS (sFieldAddr a0 a1 a2)) (fun a0 a1 a2 => oS (sField a0 a1 a2)) (fun a0 a1 a2 => oS (sIndexAddr a0 a1 a2)) (fun a0 a1 a2 => oS (sIndex a0 a1 a2)) oLookup oMapUpdate (fun _ _ _ => oNo) (fun _ _ _ _ => oNo) (fun _ _ => oNo) (fun _ _ => oNo) (fun _ => oNo) (fun a0 a1 a2 a3 => oS (sAssert a0 a1 a2 a3)) (fun a0 a1 => oS (sExtract a0 a1)) oCall (fun _ => oNo) oDefer oPanic (fun _ _ => oNo) (fun _ _ _ => oNo) (fun _ _ => oNo) X call ext n E A ty
theorem aop_eq {P : Program} {X : Cx P} {call : CallF} {ext : ExtF} {n : Nat} {E : AEnv} {A : AH} {op : Op} {ty : TypeId} : aop X call ext n E A op ty = aopM X call ext n E A op ty := by
  cases op
  case makeMap t r => cases r <;> rfl
  case call c =>
    obtain ⟨callee, args, ats⟩ := c
    cases callee with
    | builtin b => cases b <;> rfl
    | _ => rfl
  all_goals rfl
def orOk {P : Program} (X : Cx P) (g : G) (A : AH) (w : World) (ρ : Operand → Value) (op : Op) (ty : TypeId) : OR → Prop
  | .val r A' => ∀ K Kd Y, (∀ g' v w', Fut g A w g' A' w' → rep g' r v → K v w') → opW X.T X.ok ρ op ty w K Kd Y
  | .dfr d => ∀ K Kd Y, (∀ d', repD g d d' → Kd d' w) → opW X.T X.ok ρ op ty w K Kd Y
  | .pan ch A' => ∀ K Kd Y, (∀ g' ch' w', Fut g A w g' A' w' → repCh g' ch ch' → Y ch' w') → opW X.T X.ok ρ op ty w K Kd Y
theorem reps_toList {g : G} {l : List AV} {vs : List Value} (h : reps g l vs) : reps g l vs.toArray.toList := by simpa using h
theorem acall_W {P : Program} {X : Cx P} {call : CallF} {ext : ExtF} (hc : CallOk P call) (hx : ExtOk P ext) {g : G} {A : AH} {w : World} (s : Sat g A w) {f : AV} {vf : Value} {args : List AV} {vs : List Value} {ty : TypeId} {R : OR}
    (h : acall X call ext f args ty A = some R) (hf : rep g f vf) (ha : reps g args vs) :
    match R with
    | .val r A' => ∀ K Y, (∀ g' v w', Fut g A w g' A' w' → rep g' r v → K v w') → callValW X.T X.ok vf vs ty w K Y
    | .dfr _ => False
    | .pan ch A' => ∀ K Y, (∀ g' ch' w', Fut g A w g' A' w' → repCh g' ch ch' → Y ch' w') → callValW X.T X.ok vf vs ty w K Y := by
  unfold acall at h
  split at h <;> try cases h
  rename_i fid first cap
  obtain ⟨first', cap', rfl, h1, h2⟩ := hf
  have hargs : reps g (first ++ args ++ cap) (first'.toArray.toList ++ vs ++ cap'.toArray.toList) := by
    simpa using reps_app (reps_app h1 ha) h2
  cases hok : X.ok fid <;> simp only [hok, cond_true, cond_false] at h
  · split at h <;> try cases h
    rename_i r A' he
    cases hret : fitRet X.T ty r <;> simp only [hret, cond_true, cond_false] at h
    · cases h
    obtain rfl := Option.some.inj h
    obtain ⟨v, w', g', e1, e2, e3⟩ := hx _ _ _ _ _ he g w _ s hargs
    intro K Y k
    simp only [callValW, callAnyW, hok, cond_false, externW, e1]
    exact retW_of hret e3 (k g' v w' e2 e3)
  · split at h <;> try cases h
    · rename_i r A' he
      cases hret : fitRet X.T ty r <;> simp only [hret, cond_true, cond_false] at h
      · cases h
      obtain rfl := Option.some.inj h
      intro K Y k
      simp only [callValW, callAnyW, hok, cond_true]
      refine calls_mono (hc _ _ _ _ _ he g w _ s hargs) ?_
      rintro en w' ⟨g', F, v, rfl, hr⟩
      exact retW_of hret hr (k g' v w' F hr)
    · rename_i ch A' he
      intro K Y k
      simp only [callValW, callAnyW, hok, cond_true]
      refine calls_mono (hc _ _ _ _ _ he g w _ s hargs) ?_
      rintro en w' ⟨g', F, ch', rfl, hr⟩
      exact k g' ch' w' F hr
theorem reps2 {g : G} {a b : AV} {vs : List Value} (h : reps g [a, b] vs) : ∃ u v, vs = [u, v] ∧ rep g a u ∧ rep g b v := by
  obtain ⟨u, us, rfl, h1, v, vs, rfl, h2, h3⟩ := h
  simp only [reps] at h3; subst h3
  exact ⟨u, v, rfl, h1, h2⟩
theorem aop_still {P : Program} {X : Cx P} {g : G} {n : Nat} {E : AEnv} {ρ : Operand → Value} {A : AH} {w : World} {op : Op} {ty : TypeId} {R : OR} (s : Sat g A w) (he : opR g n E ρ op) (h : (ob (astill X.T n E A op) fun r => some (OR.val r A)) = some R) : orOk X g A w ρ op ty R := by
  obtain ⟨r, h1, h⟩ := ob_some h
  obtain rfl := Option.some.inj h
  intro K Kd Y k
  exact still_op (astill_S s he h1 (fun _ _ _ _ _ h _ => h) (fun v hv => k g v w (Fut.refl s) hv))
theorem aop_W {P : Program} {X : Cx P} {call : CallF} {ext : ExtF} (hc : CallOk P call) (hx : ExtOk P ext) {g : G} {n : Nat} {E : AEnv} {ρ : Operand → Value} {A : AH} {w : World} {op : Op} {ty : TypeId} {R : OR} (s : Sat g A w) (he : opR g n E ρ op)
    (h : aop X call ext n E A op ty = some R) : orOk X g A w ρ op ty R := by
  rw [aop_eq] at h
  unfold aopM at h
  split at h
  case h_1 t =>
    obtain ⟨⟨r, A'⟩, h1, h⟩ := ob_some h; obtain rfl := Option.some.inj h
    exact fun K Kd Y k => aalloc_W s h1 k
  case h_2 t x =>
    obtain ⟨a, h0, h⟩ := ob_some h; obtain ⟨⟨r, A'⟩, h1, h⟩ := ob_some h; obtain rfl := Option.some.inj h
    exact fun K Kd Y k => abox_W s h1 (he _ (by simp [opsOf]) _ h0) k
  case h_3 t m ps =>
    obtain ⟨a, h0, h⟩ := ob_some h; obtain ⟨⟨r, A'⟩, h1, h⟩ := ob_some h; obtain rfl := Option.some.inj h
    exact fun K Kd Y k => abuildSlice_W s h1 (aevp_rep (fun o ho => he o (by simpa [opsOf] using ho)) h0) k
  case h_4 t a x =>
    obtain ⟨p, h0, h⟩ := ob_some h; obtain ⟨v, h2, h⟩ := ob_some h; obtain ⟨A', h1, h⟩ := ob_some h; obtain rfl := Option.some.inj h
    exact fun K Kd Y k => astore_W s (he _ (by simp [opsOf]) _ h0) ((he _ (by simp [opsOf]) _ h2)) h1 (fun w' F => k g _ w' F (rep_undef g))
  case h_5 sr d x =>
    obtain ⟨a, h0, h⟩ := ob_some h; obtain ⟨⟨r, A'⟩, h1, h⟩ := ob_some h; obtain rfl := Option.some.inj h
    exact fun K Kd Y k => aconv_W s h1 (he _ (by simp [opsOf]) _ h0) k
  case h_6 t =>
    obtain ⟨⟨r, A'⟩, h1, h⟩ := ob_some h
    simp only at h
    split at h <;> try cases h
    rename_i i o
    intro K Kd Y k b w' hb hw
    subst hb; subst hw
    obtain ⟨g', F, b, hb, hp⟩ := anew_F (x := .map #[] 0) s h1 ⟨[], rfl, rfl⟩
    simp only [Value.pointer.injEq, Option.some.injEq, Addr.mk.injEq] at hp
    obtain ⟨rfl, _⟩ := hp
    exact k g' _ _ F ⟨_, hb, rfl⟩
  case h_7 t l c =>
    obtain ⟨a, h0, h⟩ := ob_some h; obtain ⟨b, h2, h⟩ := ob_some h; obtain ⟨⟨r, A'⟩, h1, h⟩ := ob_some h; obtain rfl := Option.some.inj h
    exact fun K Kd Y k => amakeSlice_W X.hbyt s h1 (he _ (by simp [opsOf]) _ h0) ((he _ (by simp [opsOf]) _ h2)) k
  case h_8 t x i b =>
    obtain ⟨a, h0, h⟩ := ob_some h; obtain ⟨b, h2, h⟩ := ob_some h; obtain ⟨r, h1, h⟩ := ob_some h; obtain rfl := Option.some.inj h
    exact fun K Kd Y k => alookup_W s h1 (he _ (by simp [opsOf]) _ h0) ((he _ (by simp [opsOf]) _ h2)) (fun v hv => k g v w (Fut.refl s) hv)
  case h_9 t m kk x =>
    obtain ⟨a, h0, h⟩ := ob_some h; obtain ⟨b, h2, h⟩ := ob_some h; obtain ⟨c, h3, h⟩ := ob_some h; obtain ⟨A', h1, h⟩ := ob_some h; obtain rfl := Option.some.inj h
    exact fun K Kd Y k => amapUpdate_W s h1 (he _ (by simp [opsOf]) _ h0) ((he _ (by simp [opsOf]) _ h2)) ((he _ (by simp [opsOf]) _ h3)) (fun g' w' F => k g' _ w' F (rep_undef g'))
  case h_10 c =>
    obtain ⟨callee, args, ats⟩ := c
    simp only at h
    split at h
    · rename_i f
      obtain ⟨vf, h0, h⟩ := ob_some h; obtain ⟨l, h1, h⟩ := ob_some h
      have key := acall_W hc hx s h (he _ (by simp [opsOf]) _ h0) (aevs_rep (fun o ho => he o (by simp only [opsOf]; exact List.mem_append_right _ ho)) h1)
      cases R with
      | val r A' => exact fun K Kd Y k => key K Y k
      | pan ch A' => exact fun K Kd Y k => key K Y k
      | dfr d => exact key.elim
    · rename_i b
      split at h
      · obtain ⟨l, h1, h⟩ := ob_some h
        split at h <;> try cases h
        rename_i t1 t2 sa x hats
        obtain ⟨⟨r, A'⟩, h2, h⟩ := ob_some h; obtain rfl := Option.some.inj h
        obtain ⟨u, v, hl, hu, hv⟩ := reps2 (aevs_rep (fun o ho => he o (by simp only [opsOf]; exact List.mem_append_right _ ho)) h1)
        intro K Kd Y k
        simp only [opW, callW, builtinW, hats, hl]
        exact aappend_W X.hbyt s h2 hu hv k
      · obtain ⟨l, h1, h⟩ := ob_some h
        split at h <;> try cases h
        rename_i t1 t2 sa x hats
        obtain ⟨⟨r, A'⟩, h2, h⟩ := ob_some h; obtain rfl := Option.some.inj h
        obtain ⟨u, v, hl, hu, hv⟩ := reps2 (aevs_rep (fun o ho => he o (by simp only [opsOf]; exact List.mem_append_right _ ho)) h1)
        intro K Kd Y k
        simp only [opW, callW, builtinW, hats, hl]
        exact acopy_W s h2 hu hv k
      · obtain ⟨l, h1, h⟩ := ob_some h
        split at h <;> try cases h
        rename_i t1 t2 sa x hats
        cases hret : fitRet X.T 0 (.tup []) <;> simp only [hret, cond_true, cond_false] at h
        · cases h
        obtain ⟨A', h2, h⟩ := ob_some h; obtain rfl := Option.some.inj h
        obtain ⟨u, v, hl, hu, hv⟩ := reps2 (aevs_rep (fun o ho => he o (by simp only [opsOf]; exact List.mem_append_right _ ho)) h1)
        intro K Kd Y k
        simp only [opW, callW, builtinW, hats, hl]
        exact adelete_W s h2 hret hu hv k
      · obtain ⟨l, h1, h⟩ := ob_some h; obtain ⟨r, h2, h⟩ := ob_some h; obtain rfl := Option.some.inj h
        intro K Kd Y k
        refine still_op ?_
        simp only [stillW]
        exact abuiltinS_W h2 (aevs_rep (fun o ho => he o (by simp only [opsOf]; exact List.mem_append_right _ ho)) h1) (fun v hv => k g v w (Fut.refl s) hv)
    · cases h
  case h_11 c =>
    obtain ⟨callee, args, ats⟩ := c
    simp only at h
    split at h <;> try cases h
    rename_i f
    obtain ⟨vf, h0, h⟩ := ob_some h; obtain ⟨l, h1, h⟩ := ob_some h
    split at h <;> try cases h
    rename_i fid first cap
    obtain ⟨first', cap', hf, e1, e2⟩ := (he _ (by simp [opsOf]) _ h0)
    intro K Kd Y k
    simp only [opW, deferW, hf]
    refine k _ ⟨cap'.toArray, rfl, ?_⟩
    simpa using reps_app (reps_app e1 (aevs_rep (fun o ho => he o (by simp only [opsOf]; exact List.mem_append_right _ ho)) h1)) e2
  case h_12 x =>
    obtain ⟨a, h0, h⟩ := ob_some h
    split at h <;> try cases h
    rename_i t v
    obtain ⟨u, hu, hr⟩ := (he _ (by simp [opsOf]) _ h0)
    intro K Kd Y k
    simp only [opW, hu]
    exact k g _ w (Fut.refl s) ⟨_, [], rfl, ⟨u, rfl, hr⟩, rfl⟩
  all_goals exact aop_still s he h
end Go.X

namespace Go.X
open Go Go.W
set_option linter.unusedSimpArgs false
set_option linter.unusedVariables false

/-! versions rise -/
def leV (A A' : AH) : Prop := ∀ i, A.get i ≠ none → A'.get i ≠ none ∧ A.ver i ≤ A'.ver i
theorem leV.refl (A : AH) : leV A A := fun _ h => ⟨h, Nat.le_refl _⟩
theorem leV.trans {A B C : AH} (h : leV A B) (k : leV B C) : leV A C := fun i hi => by
  have h1 := h i hi; have h2 := k i h1.1; exact ⟨h2.1, by omega⟩
theorem leV_new {A : AH} {i : Nat} {o : AO} (h : A.get i = none) : leV A (A.set i o) := fun j hj => by
  by_cases e : j = i
  · subst e; exact absurd h hj
  · simp only [AH.ver, A.get_set_ne _ e]; exact ⟨hj, Nat.le_refl _⟩
theorem leV_set {A : AH} {i : Nat} {o o' : AO} (h : A.get i = some o) (hv : o.ver ≤ o'.ver) : leV A (A.set i o') := fun j hj => by
  by_cases e : j = i
  · subst e; simp only [AH.ver, A.get_set_same, h]; exact ⟨by simp, hv⟩
  · simp only [AH.ver, A.get_set_ne _ e]; exact ⟨hj, Nat.le_refl _⟩
theorem leV_anew {A A' : AH} {o : AO} {r : AV} (h : anew A o = some (r, A')) : leV A A' := by
  unfold anew at h
  split at h <;> try cases h
  rename_i hn
  exact leV_new hn
theorem leV_astore {P : Program} {T : TT P} {A A' : AH} {t : TypeId} {p v : AV} (h : astore T A t p v = some A') : leV A A' := by
  unfold astore at h
  split at h <;> try cases h
  split at h <;> try cases h
  rename_i hg _ _
  simp only at h
  revert h
  generalize (aggOrOne v && allOne (cellsOf v) && _ && _ && _) = b
  intro h
  cases b <;> simp only [cond_true, cond_false] at h
  · cases h
  · revert h
    generalize sameS _ _ (cellsOf v) = b
    intro h
    cases b <;> simp only [cond_true, cond_false] at h
    · obtain rfl := Option.some.inj h; exact leV_set hg (by simp [AO.ver])
    · obtain rfl := Option.some.inj h; exact leV.refl _
theorem leV_aappend {P : Program} {T : TT P} {byt : TypeId → Option Nat} {A A' : AH} {t1 t2 ty : TypeId} {s x r : AV} (h : aappend T byt A t1 t2 ty s x = some (r, A')) : leV A A' := by
  have triv : ∀ i m, leV A (A.setStamp i m) := fun i m => leV.refl A
  unfold aappend at h
  split at h <;> try cases h
  split at h <;> try cases h
  split at h <;> try cases h
  rename_i ti by_ _ _ _ _ zl k ns _ _
  revert h
  generalize (!(isIntTy _) && allOne ns && _ && _) = b
  intro h
  cases b <;> simp only [cond_true, cond_false] at h
  · cases h
  split at h <;> try cases h
  · rename_i n cs tk
    cases hk : Nat.beq k 0 <;> simp only [hk, cond_true, cond_false] at h
    · revert h
      generalize (Nat.beq cs.length _ && _) = b
      intro h
      cases b <;> simp only [cond_true, cond_false] at h
      · cases h
      cases tk <;> simp only at h
      · obtain ⟨rfl, rfl⟩ := Prod.mk.inj (Option.some.inj h); exact leV.refl A
      · obtain ⟨rfl, rfl⟩ := Prod.mk.inj (Option.some.inj h); exact leV.refl A
      · cases h
      · rename_i i m es
        cases hc : (Nat.beq (A.stamp i) m && Nat.beq es ti.size) <;> simp only [hc, cond_true, cond_false] at h
        · cases h
        · obtain ⟨rfl, rfl⟩ := Prod.mk.inj (Option.some.inj h); exact leV.refl A
    · obtain ⟨rfl, rfl⟩ := Prod.mk.inj (Option.some.inj h); exact leV.refl A
  · rename_i v o n c
    cases hk : Nat.ble (n + k) c <;> simp only [hk, cond_true, cond_false] at h
    · cases hk : Nat.ble ((n + k) * by_) 140737488355328 <;> simp only [hk, cond_true, cond_false] at h
      · cases h
      split at h <;> try cases h
      exact leV.refl A
    · split at h <;> try cases h
      rename_i tv ver cs0 hg
      revert h
      generalize Nat.ble (o + n * ti.size + ns.length) cs0.length = b
      intro h
      cases b <;> simp only [cond_true, cond_false] at h
      · cases h
      · obtain ⟨rfl, rfl⟩ := Prod.mk.inj (Option.some.inj h); exact leV_set hg (by simp [AO.ver])
theorem leV_acopy {P : Program} {T : TT P} {A A' : AH} {t1 ty : TypeId} {s x r : AV} (h : acopy T A t1 ty s x = some (r, A')) : leV A A' := by
  unfold acopy at h
  split at h <;> try cases h
  split at h <;> try cases h
  split at h <;> try cases h
  rename_i hg _
  simp only at h
  revert h
  generalize (allOne _ && _ && _) = b
  intro h
  cases b <;> simp only [cond_true, cond_false] at h
  · cases h
  · obtain ⟨rfl, rfl⟩ := Prod.mk.inj (Option.some.inj h); exact leV_set hg (by simp [AO.ver])
theorem leV_amakeSlice {P : Program} {T : TT P} {byt : TypeId → Option Nat} {A A' : AH} {t : TypeId} {l c r : AV} (h : amakeSlice T byt A t l c = some (r, A')) : leV A A' := by
  unfold amakeSlice at h
  split at h <;> try cases h
  split at h <;> try cases h
  revert h
  generalize (_ && _ && _ && _ && _ && _ : Bool) = b
  intro h
  cases b <;> simp only [cond_true, cond_false] at h
  · cases h
  split at h <;> try cases h
  rename_i hn
  exact leV_new hn
theorem leV_amapUpdate {P : Program} {T : TT P} {A A' : AH} {t : TypeId} {m k v : AV} (h : amapUpdate T A t m k v = some A') : leV A A' := by
  unfold amapUpdate at h
  split at h <;> try cases h
  split at h <;> try cases h
  rename_i hg
  split at h <;> try cases h
  · exact leV_set hg (by simp [AO.ver])
  · exact leV_set hg (by simp [AO.ver])
theorem leV_adelete {P : Program} {T : TT P} {A A' : AH} {t : TypeId} {m k : AV} (h : adelete T A t m k = some A') : leV A A' := by
  unfold adelete at h
  split at h <;> try cases h
  split at h <;> try cases h
  rename_i hg
  split at h <;> try cases h
  · exact leV_set hg (by simp [AO.ver])
  · exact leV_set hg (by simp [AO.ver])
theorem leV_aalloc {P : Program} {T : TT P} {A A' : AH} {t : TypeId} {r : AV} (h : aalloc T A t = some (r, A')) : leV A A' := by
  unfold aalloc at h
  split at h <;> try cases h
  exact leV_anew h
theorem leV_abox {A A' : AH} {t : TypeId} {x r : AV} (h : abox A t x = some (r, A')) : leV A A' := by
  unfold abox at h
  cases hb : aggOrOne x <;> simp only [hb, cond_true, cond_false] at h
  · cases h
  · exact leV_anew h
theorem leV_abuildSlice {P : Program} {T : TT P} {A A' : AH} {t : TypeId} {n : Nat} {ps : List (Nat × AV)} {r : AV} (h : abuildSlice T A t n ps = some (r, A')) : leV A A' := by
  unfold abuildSlice at h
  split at h <;> try cases h
  split at h <;> try cases h
  revert h
  generalize (_ && _ : Bool) = b
  intro h
  cases b <;> simp only [cond_true, cond_false] at h
  · cases h
  split at h <;> try cases h
  revert h
  generalize Nat.beq _ _ = b
  intro h
  cases b <;> simp only [cond_true, cond_false] at h
  · cases h
  split at h <;> try cases h
  exact leV.refl A
theorem leV_aconv {P : Program} {T : TT P} {A A' : AH} {s d : TypeId} {x r : AV} (h : aconv T A s d x = some (r, A')) : leV A A' := by
  unfold aconv at h
  split at h <;> try cases h
  · split at h <;> try cases h
    split at h <;> try cases h
    split at h <;> try cases h
    split at h <;> try cases h
    exact leV.refl A
  · split at h <;> try cases h
    exact leV.refl A
  · split at h <;> try cases h
    exact leV.refl A
  · split at h <;> try cases h
    split at h <;> try cases h
    revert h
    generalize (_ && _ : Bool) = b
    intro h
    cases b <;> simp only [cond_true, cond_false] at h
    · cases h
    · obtain ⟨rfl, rfl⟩ := Prod.mk.inj (Option.some.inj h); exact leV.refl A
  · split at h <;> try cases h
    split at h <;> try cases h
    exact leV.refl A
def CallV (call : CallF) : Prop := ∀ f args A e A', call f args A = some (e, A') → leV A A'
def ExtV (ext : ExtF) : Prop := ∀ f args A e A', ext f args A = some (e, A') → leV A A'
def OR.leV (A : AH) : OR → Prop
  | .val _ A' => Go.X.leV A A'
  | .dfr _ => True
  | .pan _ A' => Go.X.leV A A'
theorem aop_V {P : Program} {X : Cx P} {call : CallF} {ext : ExtF} (hc : CallV call) (hx : ExtV ext) {n : Nat} {E : AEnv} {A : AH} {op : Op} {ty : TypeId} {R : OR} (h : aop X call ext n E A op ty = some R) : R.leV A := by
  have still : ∀ {R}, (ob (astill X.T n E A op) fun r => some (OR.val r A)) = some R → R.leV A := by
    intro R h
    obtain ⟨r, _, h⟩ := ob_some h; obtain rfl := Option.some.inj h; exact leV.refl A
  rw [aop_eq] at h
  unfold aopM at h
  split at h
  case h_1 t => obtain ⟨⟨r, A'⟩, h1, h⟩ := ob_some h; obtain rfl := Option.some.inj h; exact leV_aalloc h1
  case h_2 t x => obtain ⟨a, _, h⟩ := ob_some h; obtain ⟨⟨r, A'⟩, h1, h⟩ := ob_some h; obtain rfl := Option.some.inj h; exact leV_abox h1
  case h_3 => obtain ⟨a, _, h⟩ := ob_some h; obtain ⟨⟨r, A'⟩, h1, h⟩ := ob_some h; obtain rfl := Option.some.inj h; exact leV_abuildSlice h1
  case h_4 => obtain ⟨p, _, h⟩ := ob_some h; obtain ⟨v, _, h⟩ := ob_some h; obtain ⟨A', h1, h⟩ := ob_some h; obtain rfl := Option.some.inj h; exact leV_astore h1
  case h_5 => obtain ⟨a, _, h⟩ := ob_some h; obtain ⟨⟨r, A'⟩, h1, h⟩ := ob_some h; obtain rfl := Option.some.inj h; exact leV_aconv h1
  case h_6 =>
    obtain ⟨⟨r, A'⟩, h1, h⟩ := ob_some h
    simp only at h
    split at h <;> try cases h
    exact leV_anew h1
  case h_7 => obtain ⟨p, _, h⟩ := ob_some h; obtain ⟨v, _, h⟩ := ob_some h; obtain ⟨⟨r, A'⟩, h1, h⟩ := ob_some h; obtain rfl := Option.some.inj h; exact leV_amakeSlice h1
  case h_8 => obtain ⟨p, _, h⟩ := ob_some h; obtain ⟨v, _, h⟩ := ob_some h; obtain ⟨r, h1, h⟩ := ob_some h; obtain rfl := Option.some.inj h; exact leV.refl A
  case h_9 => obtain ⟨p, _, h⟩ := ob_some h; obtain ⟨v, _, h⟩ := ob_some h; obtain ⟨v, _, h⟩ := ob_some h; obtain ⟨A', h1, h⟩ := ob_some h; obtain rfl := Option.some.inj h; exact leV_amapUpdate h1
  case h_10 c =>
    split at h
    · obtain ⟨vf, _, h⟩ := ob_some h; obtain ⟨l, _, h⟩ := ob_some h
      unfold acall at h
      split at h <;> try cases h
      rename_i g first cap _ _
      cases hok : X.ok g <;> simp only [hok, cond_true, cond_false] at h
      · split at h <;> try cases h
        rename_i r A' he
        cases hret : fitRet X.T ty r <;> simp only [hret, cond_true, cond_false] at h
        · cases h
        obtain rfl := Option.some.inj h
        exact hx _ _ _ _ _ he
      · split at h <;> try cases h
        · rename_i r A' he
          cases hret : fitRet X.T ty r <;> simp only [hret, cond_true, cond_false] at h
          · cases h
          obtain rfl := Option.some.inj h
          exact hc _ _ _ _ _ he
        · rename_i ch A' he _; exact hc _ _ _ _ _ he
    · split at h
      · obtain ⟨l, _, h⟩ := ob_some h
        split at h <;> try cases h
        obtain ⟨⟨r, A'⟩, h2, h⟩ := ob_some h; obtain rfl := Option.some.inj h
        exact leV_aappend h2
      · obtain ⟨l, _, h⟩ := ob_some h
        split at h <;> try cases h
        obtain ⟨⟨r, A'⟩, h2, h⟩ := ob_some h; obtain rfl := Option.some.inj h
        exact leV_acopy h2
      · obtain ⟨l, _, h⟩ := ob_some h
        split at h <;> try cases h
        cases hret : fitRet X.T 0 (.tup []) <;> simp only [hret, cond_true, cond_false] at h
        · cases h
        obtain ⟨A', h2, h⟩ := ob_some h; obtain rfl := Option.some.inj h
        exact leV_adelete h2
      · obtain ⟨l, _, h⟩ := ob_some h; obtain ⟨r, _, h⟩ := ob_some h; obtain rfl := Option.some.inj h
        exact leV.refl A
    · cases h
  case h_11 c =>
    split at h <;> try cases h
    obtain ⟨vf, _, h⟩ := ob_some h; obtain ⟨l, _, h⟩ := ob_some h
    split at h <;> try cases h
    trivial
  case h_12 x =>
    obtain ⟨a, _, h⟩ := ob_some h
    split at h <;> try cases h
    exact leV.refl A
  all_goals exact still h
end Go.X

namespace Go.X
open Go Go.W
set_option linter.unusedSimpArgs false
set_option linter.unusedVariables false

/-! guards, lists of operations -/
def aguard (n : Nat) (all : List Oper) (g : Option (Nat × Bool)) (E : AEnv) : Option Bool :=
  match g with
  | none => some true
  | some (j, want) => match dstAt all j with
    | none => none
    | some d => bif Nat.blt d n then (match slot E d with
      | .bool t => some (boolBeq t want)
      | .tup [] => some false
      | _ => none) else none
theorem aguard_W {g : G} {n : Nat} {all : List Oper} {gd : Option (Nat × Bool)} {E : AEnv} {e : Env} {t : Bool} {run skip : Env → Prop} (h : aguard n all gd E = some t)
    (he : ∀ j want d, gd = some (j, want) → dstAt all j = some d → rep g (slot E d) (e d)) (hr : t = true → run e) (hs : t = false → skip e) : guardW n all gd e run skip := by
  unfold aguard at h
  unfold guardW
  cases gd with
  | none => simp only [Option.some.injEq] at h; exact hr h.symm
  | some p =>
    obtain ⟨j, want⟩ := p
    simp only at h ⊢
    cases hd : dstAt all j with
    | none => rw [hd] at h; cases h
    | some d =>
      rw [hd] at h
      simp only at h ⊢
      cases hb : Nat.blt d n <;> simp only [hb, cond_true, cond_false] at h ⊢
      · cases h
      have hrep := he j want d rfl hd
      split at h <;> try cases h
      · rename_i t' hsl
        rw [hsl] at hrep
        simp only [rep] at hrep
        rw [hrep]
        simp only
        cases want <;> cases t' <;> simp only [cond_true, cond_false] <;> rw [up_same hrep]
        · exact hr rfl
        · exact hs rfl
        · exact hs rfl
        · exact hr rfl
      · rename_i hsl
        rw [hsl] at hrep
        obtain ⟨vs, hv, hn⟩ := hrep
        rw [hv]
        exact hs rfl
inductive RX where
  | ok (E : AEnv) (ds : List ADef) (A : AH)
  | pan (ch : List (AV × Bool)) (E : AEnv) (ds : List ADef) (A : AH)
def repDs (g : G) : List ADef → List Deferred → Prop
  | [], l => l = []
  | d :: ds, l => ∃ d' ds', l = d' :: ds' ∧ repD g d d' ∧ repDs g ds ds'
theorem repD_mono {g g' : G} (h : g.le g') {d : ADef} {d' : Deferred} : repD g d d' → repD g' d d' := match d with
  | .fn _ _ => fun ⟨cap, h1, h2⟩ => ⟨cap, h1, reps_mono h _ h2⟩
  | .mark _ => fun ⟨b, h1, h2⟩ => ⟨b, h1, h.var _ _ h2⟩
theorem repDs_mono {g g' : G} (h : g.le g') : ∀ {d : List ADef} {d' : List Deferred}, repDs g d d' → repDs g' d d'
  | [], _, k => k
  | _ :: _, _, ⟨d', ds', h1, h2, h3⟩ => ⟨d', ds', h1, repD_mono h h2, repDs_mono h h3⟩
theorem repCh_mono {g g' : G} (h : g.le g') : ∀ {c : List (AV × Bool)} {c' : List PanicEntry}, repCh g c c' → repCh g' c c'
  | [], _, k => k
  | (a, b) :: _, _, ⟨v, ch', h1, h2, h3⟩ => ⟨v, ch', h1, rep_mono h _ h2, repCh_mono h h3⟩
section
variable {P : Program} (X : Cx P) (call : CallF) (ext : ExtF)
def areg (n : Nat) (all : List Oper) : List Oper → AEnv → List ADef → AH → Option RX
  | [], E, ds, A => some (.ok E ds A)
  | o :: r, E, ds, A => match aguard n all o.guard E with
    | none => none
    | some false => areg n all r (aput E o.dst (.tup [])) ds A
    | some true => match aop X call ext n E A o.op o.type with
      | some (.val v A') => areg n all r (aput E o.dst v) ds A'
      | some (.dfr d) => areg n all r (aput E o.dst (.tup [])) (d :: ds) A
      | some (.pan ch A') => some (.pan ch E ds A')
      | none => none
end
/-- what stands behind -/
def rxOk (g : G) (A : AH) (w : World) (Q : Post) : RX → Prop
  | .ok E ds A' => ∀ g' e ds' w', Fut g A w g' A' w' → envR g' E e → repDs g' ds ds' → Q .normal e ds' w'
  | .pan ch E ds A' => ∀ g' ch' e ds' w', Fut g A w g' A' w' → repCh g' ch ch' → envR g' E e → repDs g' ds ds' → Q (.panic ch') e ds' w'
theorem rxOk_trans {g g1 : G} {A A1 : AH} {w w1 : World} {Q : Post} (s : Sat g A w) (F : Fut g A w g1 A1 w1) : ∀ {R : RX}, rxOk g A w Q R → rxOk g1 A1 w1 Q R
  | .ok E ds A', k => fun g' e ds' w' f he hd => k g' e ds' w' (F.trans s f) he hd
  | .pan ch E ds A', k => fun g' ch' e ds' w' f hc he hd => k g' ch' e ds' w' (F.trans s f) hc he hd
theorem areg_W {P : Program} {X : Cx P} {call : CallF} {ext : ExtF} (hc : CallOk P call) (hx : ExtOk P ext) {n : Nat} {all : List Oper} {Q : Post} : ∀ {l : List Oper} {g : G} {E : AEnv} {e : Env} {ds : List ADef} {ds' : List Deferred} {A : AH} {w : World} {R : RX},
    areg X call ext n all l E ds A = some R → Sat g A w → envR g E e → repDs g ds ds' → rxOk g A w Q R → regW X.T X.ok n all Q l e ds' w
  | [], g, E, e, ds, ds', A, w, R, h, s, he, hd, k => by
    simp only [areg, Option.some.injEq] at h; subst h
    exact k g e ds' w (Fut.refl s) he hd
  | o :: r, g, E, e, ds, ds', A, w, R, h, s, he, hd, k => by
    unfold areg at h
    unfold regW
    split at h
    · cases h
    · rename_i hg
      exact aguard_W hg (fun _ _ d _ _ => he d) (fun h => by cases h) (fun _ => areg_W hc hx h s (envR_put he (rep_undef g)) hd k)
    · rename_i hg
      refine aguard_W hg (fun _ _ d _ _ => he d) (fun _ => ?_) (fun h => by cases h)
      split at h
      · rename_i v A' ho
        exact aop_W hc hx s (he.opR _) ho _ _ _ (fun g' u w' F hr => areg_W hc hx h F.sat (envR_put (envR_mono F.le he) hr) (repDs_mono F.le hd) (rxOk_trans s F k))
      · rename_i d ho
        exact aop_W hc hx s (he.opR _) ho _ _ _ (fun d' hd' => areg_W hc hx h s (envR_put he (rep_undef g)) ⟨d', ds', rfl, hd', hd⟩ k)
      · rename_i ch A' ho
        obtain rfl := Option.some.inj h
        exact aop_W hc hx s (he.opR _) ho _ _ _ (fun g' ch' w' F hr => k g' ch' e ds' w' F hr (envR_mono F.le he) (repDs_mono F.le hd))
      · cases h
end Go.X
