/-
  The machine: tables, functions without a body, runs that begin with nothing tracked.
-/
import Derived.Lib.BytesEntry
import Derived.Laws.Externs
import Derived.Test.YtmafmfealhcloaaGreatDoorMachC
namespace Go.X
open Go Go.W
set_option linter.unusedSimpArgs false
set_option linter.unusedVariables false

/-! the program's tables -/
inductive FXT where
  | l (f : Nat) (F : FX)
  | n (k : Nat) (a b : FXT)
def FXT.get : FXT → Nat → Option FX
  | .l f F, k => bif Nat.beq k f then some F else none
  | .n m a b, k => bif Nat.blt k m then a.get k else b.get k
def okO {P : Program} (T : TT P) (F : FX) : Bool := match F.fn.body with
  | some c => ordsOk T F.ord c
  | none => true
def FXT.All {P : Program} (T : TT P) : FXT → Prop
  | .l f F => P.funcs[f]? = some F.fn ∧ okO T F = true
  | .n _ a b => a.All T ∧ b.All T
theorem FXT.get_ok {P : Program} {T : TT P} : ∀ {b : FXT}, b.All T → ∀ {f : Nat} {F : FX}, b.get f = some F → P.funcs[f]? = some F.fn ∧ okO T F = true
  | .l f' F', h, f, F, hg => by
    simp only [FXT.get] at hg
    cases hb : Nat.beq f f' <;> simp only [hb, cond_true, cond_false] at hg
    · cases hg
    · obtain rfl := Nat.eq_of_beq_eq_true hb
      obtain rfl := Option.some.inj hg
      exact h
  | .n m a b, h, f, F, hg => by
    simp only [FXT.get] at hg
    cases hb : Nat.blt f m <;> simp only [hb, cond_true, cond_false] at hg
    · exact FXT.get_ok h.2 hg
    · exact FXT.get_ok h.1 hg
def bytT (b : BT) (t : TypeId) : Option Nat := match b.get t with | some i => some i.bytes | none => none
theorem bytT_ok {P : Program} {b : BT} (h : b.All P) : ∀ t n, bytT b t = some n → ∀ i, P.info? t = some i → i.bytes = n := by
  intro t n hb i hi
  unfold bytT at hb
  split at hb
  · rename_i j hj
    have := info_of_types (BT.get_ok h hj)
    rw [hi] at this
    obtain rfl := Option.some.inj this
    exact Option.some.inj hb
  · cases hb
/-- a program's context -/
abbrev cxOf {P : Program} (b : BT) (hb : b.All P) (ok : Nat → Bool) (hok : ∀ f, ok f = true → enters P f) (hm : P.follows .mixedOrders = true) (ft : FXT) (hft : ft.All (ttOf b hb)) (keys : FuncId → Option TypeId) (hkeys : ∀ f tm, keys f = some tm → Nonempty (KeysIt P f tm)) : Cx P where
  T := ttOf b hb
  byt := bytT b
  hbyt := bytT_ok hb
  ok := ok
  hok := hok
  hm := hm
  fn := ft.get
  hfn f F h := (FXT.get_ok hft h).1
  keys := keys
  hkeys := hkeys
theorem cxOf_ok {P : Program} {b : BT} {hb : b.All P} {ok : Nat → Bool} {hok : ∀ f, ok f = true → enters P f} {hm : P.follows .mixedOrders = true} {ft : FXT} {hft : ft.All (ttOf b hb)} {keys : FuncId → Option TypeId} {hkeys : ∀ f tm, keys f = some tm → Nonempty (KeysIt P f tm)} : CxOk (cxOf b hb ok hok hm ft hft keys hkeys) := by
  intro f F h c hc
  have := (FXT.get_ok hft h).2
  unfold okO at this
  rw [hc] at this
  exact this
/-! parts of code -/
def regOps : Code → Array Oper
  | .region _ o _ => o
  | _ => #[]
def fstC : Code → Code
  | .seq x _ => x
  | c => c
def sndC : Code → Code
  | .seq _ y => y
  | c => c
def inC : Code → Code
  | .block _ c => c
  | .loop c => c
  | c => c
def bodyC (f : Func) : Code := match f.body with | some c => c | none => .skip
def callC (o : Array Oper) (i : Nat) : Call := match o.toList[i]? with
  | some o => (match o.op with | .call c => c | _ => { callee := .value (.const undef), args := #[], argTypes := #[] })
  | none => { callee := .value (.const undef), args := #[], argTypes := #[] }
def oneKey (f : FuncId) (tm : TypeId) : FuncId → Option TypeId := fun g => bif Nat.beq g f then some tm else none
theorem oneKey_ok {P : Program} {f : FuncId} {tm : TypeId} (h : KeysIt P f tm) : ∀ g t, oneKey f tm g = some t → Nonempty (KeysIt P g t) := by
  intro g t hg
  unfold oneKey at hg
  cases hb : Nat.beq g f <;> simp only [hb, cond_true, cond_false] at hg
  · cases hg
  · obtain rfl := Nat.eq_of_beq_eq_true hb
    obtain rfl := Option.some.inj hg
    exact ⟨h⟩
/-- nothing is tracked at first -/
def G.zero : G := ⟨fun _ => none, fun _ => none, fun _ => 0, fun _ => none⟩
def A0 : AH := ⟨1000, .e, .e⟩
theorem sat_zero (w : World) : Sat G.zero A0 w :=
  ⟨fun i b h => by simp [G.zero] at h, fun b S L h => by simp [G.zero] at h, fun i j b h _ => by simp [G.zero] at h, fun i b h => by simp [G.zero] at h, fun i j b h _ => by simp [G.zero] at h, fun i b h => by simp [G.zero] at h, fun i => by simp [G.zero, AH.stamp, A0, get_e]⟩
end Go.X

namespace Go.X
open Go Go.W
set_option linter.unusedSimpArgs false
set_option linter.unusedVariables false

/-! functions without a body, for which the model stands in -/
def idxN (c : Nat) : List UInt8 → Int
  | [] => .negSucc 0
  | b :: r => bif Nat.beq b.toNat c then .ofNat 0 else (match idxN c r with | .ofNat k => .ofNat (k + 1) | .negSucc k => .negSucc k)
def cntN (c : Nat) : List UInt8 → Nat
  | [] => 0
  | b :: r => bif Nat.beq b.toNat c then cntN c r + 1 else cntN c r
def byteN (c : Int) : Nat := c.toNat.toUInt8.toNat
theorem beq_u8 (a b : UInt8) : Nat.beq a.toNat b.toNat = (a == b) := by
  cases h : Nat.beq a.toNat b.toNat
  · have : a ≠ b := fun e => by rw [e] at h; simp at h
    simp [this]
  · have := UInt8.toNat_inj.1 (Nat.eq_of_beq_eq_true h)
    simp [this]
theorem idxN_eq (c : UInt8) : ∀ l, idxN c.toNat l = Lib.indexByte l c
  | [] => rfl
  | b :: r => by
    unfold idxN Lib.indexByte
    rw [beq_u8]
    cases h : b == c
    · simp only [cond_false]
      rw [idxN_eq c r]
      have := Lib.indexByte_ge r c
      revert this
      generalize Lib.indexByte r c = i
      intro this
      cases i with
      | ofNat k => first | (simp; done) | (simp; omega)
      | negSucc k =>
        have : k = 0 := by omega
        subst this
        simp
    · simp
theorem cntN_eq (c : UInt8) : ∀ l, cntN c.toNat l = Lib.countByte l c
  | [] => rfl
  | b :: r => by
    unfold cntN
    have := cntN_eq c r
    unfold Lib.countByte at this ⊢
    rw [beq_u8, this, List.count_cons]
    cases h : b == c <;> simp
def readB (A : AH) (x : AV) : Option (List UInt8) := match x with
  | .str _ => none
  | x => match aread A 1 x with | some (_, cs) => bytesOf cs | none => none
theorem readB_W {g : G} {A : AH} {w : World} {x : AV} {v : Value} {bs : List UInt8} (s : Sat g A w) (h : readB A x = some bs) (hx : rep g x v) :
    (∃ c, v = .slice none 0 c ∧ bs = []) ∨ ∃ b o c, v = .slice (some ⟨b, o, none⟩) bs.length c ∧ ∀ i, i < bs.length → w.cell? ⟨b, o + i, none⟩ = some (.int .u8 ((bs.map fun c => (c.toNat : Int)).getD i 0)) := by
  have main : ∀ n cs, aread A 1 x = some (n, cs) → bytesOf cs = some bs → (∃ a len cap, v = .slice a len cap) →
      (∃ c, v = .slice none 0 c ∧ bs = []) ∨ ∃ b o c, v = .slice (some ⟨b, o, none⟩) bs.length c ∧ ∀ i, i < bs.length → w.cell? ⟨b, o + i, none⟩ = some (.int .u8 ((bs.map fun c => (c.toNat : Int)).getD i 0)) := by
    rintro n cs h1 h2 ⟨a, len, cap, rfl⟩
    obtain ⟨rfl, vs, hr, hl, hn, hp⟩ := aread_sl s h1 hx
    have hvs := bytesOf_rep h2 hr
    have hlen : bs.length = len := by rw [hvs] at hl; simpa using hl
    cases a with
    | none =>
      obtain ⟨e1, e2⟩ := hn rfl
      subst e1; subst e2
      left
      refine ⟨cap, rfl, ?_⟩
      simpa [bytesOf] using h2.symm
    | some p =>
      right
      obtain ⟨e, hc⟩ := hp p rfl
      obtain ⟨b, o, sp⟩ := p
      simp only at e; subst e
      refine ⟨b, o, cap, by rw [hlen], fun i hi => ?_⟩
      have := hc i (.int .u8 (bs[i].toNat : Int)) (by rw [hvs]; simp [List.getElem?_eq_getElem hi])
      rw [show (⟨b, o, none⟩ : Addr).add i = ⟨b, o + i, none⟩ by unfold Addr.add; split <;> simp_all] at this
      rw [this]
      simp [List.getD, List.getElem?_map, List.getElem?_eq_getElem hi]
  unfold readB at h
  split at h
  · cases h
  · rename_i hne
    split at h
    · rename_i n cs h1
      refine main n cs h1 h ?_
      cases x <;> simp only [aread] at h1 <;> try cases h1
      · exact absurd rfl (hne _)
      · obtain ⟨a, cap, rfl, _⟩ := hx; exact ⟨_, _, _, rfl⟩
      · obtain ⟨b, _, rfl⟩ := hx; exact ⟨_, _, _, rfl⟩
    · cases h
abbrev Ext1 := List AV → AH → Option (AV × AH)
def extIndexByte : Ext1 := fun args A => match args with
  | [x, .int .u8 c] => match readB A x with | some bs => some (.int .i64 (idxN (byteN c) bs), A) | none => none
  | _ => none
def extIndexByteString : Ext1 := fun args A => match args with
  | [.str bs, .int .u8 c] => some (.int .i64 (idxN (byteN c) bs), A)
  | _ => none
def extCount : Ext1 := fun args A => match args with
  | [x, .int .u8 c] => match readB A x with | some bs => some (.int .i64 (.ofNat (cntN (byteN c) bs)), A) | none => none
  | _ => none
def extClone : Ext1 := fun args A => match args with
  | [.iface t (.map (some m))] => match A.get m with
    | some (.map _ es clock) => (match anew A (.map 0 es clock) with | some (.ptr i _, A') => some (.iface t (.map (some i)), A') | _ => none)
    | _ => none
  | _ => none
def Ext1Ok (P : Program) (f : FuncId) (e : Ext1) : Prop := ∀ args A r A', e args A = some (r, A') → leV A A' ∧ ∀ g w vs, Sat g A w → reps g args vs →
  ∃ v w' g', (callFunc f vs.toArray).run P w = .ok (.value v) w' ∧ Fut g A w g' A' w' ∧ rep g' r v
def IsExt (P : Program) (f : FuncId) (e : Array Value → Sem Value) : Prop := ∀ args w, (callFunc f args).run P w = ((e args).run P w).andThen fun v w' => .ok (.value v) w'
theorem reps2' {g : G} {a b : AV} {vs : List Value} (h : reps g [a, b] vs) : ∃ u v, vs = [u, v] ∧ rep g a u ∧ rep g b v := by
  obtain ⟨u, us, rfl, h1, v, us', rfl, h2, h3⟩ := h
  simp only [reps] at h3; subst h3
  exact ⟨u, v, rfl, h1, h2⟩
theorem bytesOf_map (l : List UInt8) : Lib.bytesOf (l.map fun c => (c.toNat : Int)) = l := by
  unfold Lib.bytesOf
  rw [List.map_map]
  have : ((fun n : Int => UInt8.ofNat n.toNat) ∘ fun c : UInt8 => (c.toNat : Int)) = id := by funext c; simp
  rw [this, List.map_id]
theorem extIndexByte_ok {P : Program} {f : FuncId} (hf : IsExt P f Extern.BytealgIndexByte.indexByte) : Ext1Ok P f extIndexByte := by
  intro args A r A' h
  unfold extIndexByte at h
  split at h <;> try cases h
  rename_i x c
  split at h <;> try cases h
  rename_i bs hb
  refine ⟨leV.refl _, fun g w vs s ha => ?_⟩
  obtain ⟨u, v, rfl, hu, hv⟩ := reps2' ha
  simp only [rep] at hv; subst hv
  have hrun : (Extern.BytealgIndexByte.indexByte #[u, .int .u8 c]).run P w = .ok (.int .i64 (idxN (byteN c) bs)) w := by
    rw [byteN, idxN_eq]
    rcases readB_W s hb hu with ⟨cap, rfl, rfl⟩ | ⟨b, o, cap, rfl, hc⟩
    · exact Lib.run_indexByteNil w 0 cap c
    · have := Lib.run_indexByteSlice (P := P) w b o bs.length cap (bs.map fun c => (c.toNat : Int)) (by simp) hc c
      rw [bytesOf_map] at this
      exact this
  refine ⟨_, w, g, ?_, Fut.refl s, rfl⟩
  rw [hf]
  rw [show ([u, Value.int .u8 c].toArray) = #[u, .int .u8 c] from rfl, hrun]; rfl
theorem extIndexByteString_ok {P : Program} {f : FuncId} (hf : IsExt P f Extern.BytealgIndexByte.indexByte) : Ext1Ok P f extIndexByteString := by
  intro args A r A' h
  unfold extIndexByteString at h
  split at h <;> try cases h
  rename_i bs c
  refine ⟨leV.refl _, fun g w vs s ha => ?_⟩
  obtain ⟨u, v, rfl, hu, hv⟩ := reps2' ha
  simp only [rep] at hv hu; subst hv; subst hu
  have hrun : (Extern.BytealgIndexByte.indexByte #[.string (sb bs), .int .u8 c]).run P w = .ok (.int .i64 (idxN (byteN c) bs)) w := by
    rw [byteN, idxN_eq, Lib.run_indexByteString]; rfl
  refine ⟨_, w, g, ?_, Fut.refl s, rfl⟩
  rw [hf]
  rw [show ([Value.string (sb bs), Value.int .u8 c].toArray) = #[.string (sb bs), .int .u8 c] from rfl, hrun]; rfl
theorem extCount_ok {P : Program} {f : FuncId} (hf : IsExt P f Extern.BytealgCount.count) : Ext1Ok P f extCount := by
  intro args A r A' h
  unfold extCount at h
  split at h <;> try cases h
  rename_i x c
  split at h <;> try cases h
  rename_i bs hb
  refine ⟨leV.refl _, fun g w vs s ha => ?_⟩
  obtain ⟨u, v, rfl, hu, hv⟩ := reps2' ha
  simp only [rep] at hv; subst hv
  have hrun : (Extern.BytealgCount.count #[u, .int .u8 c]).run P w = .ok (.int .i64 (.ofNat (cntN (byteN c) bs))) w := by
    rw [byteN, cntN_eq]
    have hs := Lib.run_countString (P := P) ⟨bs.toArray⟩ c w
    change Sem.run P (do
      let b ← Extern.Bytes.bytesOf (.string ⟨bs.toArray⟩)
      let c' ← Extern.Bytes.asByte (.int .u8 c)
      pure (goInt (b.foldl (fun n x => if x == c' then n + 1 else n) (0 : Nat)))) w = _ at hs
    change Sem.run P (do
      let b ← Extern.Bytes.bytesOf u
      let c' ← Extern.Bytes.asByte (.int .u8 c)
      pure (goInt (b.foldl (fun n x => if x == c' then n + 1 else n) (0 : Nat)))) w = _
    have hl : (Extern.Bytes.bytesOf u).run P w = .ok ⟨bs.toArray⟩ w := by
      rcases readB_W s hb hu with ⟨cap, rfl, rfl⟩ | ⟨b, o, cap, rfl, hc⟩
      · rfl
      · have hl := Lib.run_loadBytesX (P := P) w (bs.map fun c => (c.toNat : Int)) ⟨b, o, none⟩ .empty (fun j x hj => by
          have hjl : j < bs.length := by have := (List.getElem?_eq_some_iff.1 hj).1; simpa using this
          have e : (⟨b, o, none⟩ : Addr).add j = ⟨b, o + j, none⟩ := by unfold Addr.add; split <;> simp_all
          rw [e, hc j hjl, List.getD_eq_getElem?_getD, hj]
          rfl)
        rw [bytesOf_map, List.length_map] at hl
        have he : (⟨ByteArray.empty.data ++ bs.toArray⟩ : ByteArray) = ⟨bs.toArray⟩ := by
          apply ByteArray.ext
          show (#[] : Array UInt8) ++ bs.toArray = bs.toArray
          simp
        rw [he] at hl
        exact hl
    rw [Sem.run_bind, hl]
    rw [Sem.run_bind] at hs
    exact hs
  refine ⟨_, w, g, ?_, Fut.refl s, rfl⟩
  rw [hf]
  rw [show ([u, Value.int .u8 c].toArray) = #[u, .int .u8 c] from rfl, hrun]; rfl
theorem extClone_ok {P : Program} {f : FuncId} (hf : IsExt P f Extern.MapsClone.clone) : Ext1Ok P f extClone := by
  intro args A r A' h
  unfold extClone at h
  split at h <;> try cases h
  rename_i t m
  split at h <;> try cases h
  rename_i ver es clock hm
  split at h <;> try cases h
  rename_i i p A1 hn
  refine ⟨leV_anew hn, fun g w vs s ha => ?_⟩
  obtain ⟨u, us, rfl, ⟨u', rfl, b, hb, rfl⟩, hnil⟩ := ha
  simp only [reps] at hnil; subst hnil
  obtain ⟨o, x, k1, k2, k3⟩ := s.var m b hb
  rw [hm] at k1
  obtain rfl := Option.some.inj k1
  obtain ⟨ms, rfl, hms⟩ := k3
  obtain ⟨g', F, hi⟩ := anew_var (x := .map ms.toArray clock) s hn ⟨ms, rfl, hms⟩
  refine ⟨.iface t (.map (some w.heap.size)), _, g', ?_, F, _, rfl, _, hi, rfl⟩
  rw [hf]
  have e : Extern.MapsClone.clone #[.iface t (.map (some b))] = (getObj b >>= fun o => match o with
      | .map entries clock => (newObj (.map entries clock) >>= fun n => pure (.iface t (.map (some n))))
      | _ => stuck "maps.clone: a map expected") := rfl
  have hg : (getObj b).run P w = .ok (.map ms.toArray clock) w := by simp [getObj, Sem.run, k2]
  rw [show ([Value.iface t (.map (some b))].toArray) = #[.iface t (.map (some b))] from rfl, e]
  simp only [Sem.run_bind, hg, Result.andThen, run_newObj_alloc, Sem.run_pure]
/-- some functions without a body -/
def extOf : List (FuncId × Ext1) → ExtF
  | [], _, _, _ => none
  | (i, e) :: r, f, args, A => bif Nat.beq f i then e args A else extOf r f args A
theorem extOf_ok {P : Program} : ∀ {l : List (FuncId × Ext1)}, (∀ p ∈ l, Ext1Ok P p.1 p.2) → ExtOk P (extOf l) ∧ ExtV (extOf l)
  | [], _ => by
    constructor
    · intro f args A r A' h; cases h
    · intro f args A r A' h; cases h
  | (i, e) :: l, h => by
    obtain ⟨h1, h2⟩ := extOf_ok (l := l) (fun p hp => h p (List.mem_cons_of_mem _ hp))
    have h0 := h (i, e) (List.mem_cons_self ..)
    constructor
    · intro f args A r A' k
      unfold extOf at k
      cases hb : Nat.beq f i <;> simp only [hb, cond_true, cond_false] at k
      · exact h1 f args A r A' k
      · obtain rfl := Nat.eq_of_beq_eq_true hb; exact (h0 args A r A' k).2
    · intro f args A r A' k
      unfold extOf at k
      cases hb : Nat.beq f i <;> simp only [hb, cond_true, cond_false] at k
      · exact h2 f args A r A' k
      · exact (h0 args A r A' k).1
end Go.X

namespace Go.X
open Go Go.W
set_option linter.unusedSimpArgs false
set_option linter.unusedVariables false

abbrev OrcF := List AV → AH → Option (AE × AH)
/-! runs that begin with nothing tracked -/
mutual
def ground : AV → Bool
  | .bool _ => true
  | .int _ _ => true
  | .float _ _ => true
  | .str _ => true
  | .nilp => true
  | .sl n cs .nil => true
  | .map none => true
  | .nilf => true
  | .nili => true
  | .iface _ a => ground a
  | .agg l => grounds l
  | .tup l => grounds l
  | _ => false
def grounds : List AV → Bool
  | [] => true
  | a :: l => ground a && grounds l
end
mutual
theorem rep_ground (g g' : G) : ∀ (a : AV) {v : Value}, ground a = true → rep g a v → rep g' a v
  | .bool _, _, _, k => k
  | .int _ _, _, _, k => k
  | .float _ _, _, _, k => k
  | .str _, _, _, k => k
  | .nilp, _, _, k => k
  | .sl n cs .nil, _, _, k => k
  | .map none, _, _, k => k
  | .nilf, _, _, k => k
  | .nili, _, _, k => k
  | .iface _ a, _, h, ⟨u, k1, k2⟩ => ⟨u, k1, rep_ground g g' a (by simpa [ground] using h) k2⟩
  | .agg l, _, h, ⟨vs, k1, k2⟩ => ⟨vs, k1, reps_ground g g' l (by simpa [ground] using h) k2⟩
  | .tup l, _, h, ⟨vs, k1, k2⟩ => ⟨vs, k1, reps_ground g g' l (by simpa [ground] using h) k2⟩
  | .ptr _ _, _, h, _ => by simp [ground] at h
  | .ep _, _, h, _ => by simp [ground] at h
  | .sl _ _ .clip, _, h, _ => by simp [ground] at h
  | .sl _ _ .dead, _, h, _ => by simp [ground] at h
  | .sl _ _ (.live _ _ _), _, h, _ => by simp [ground] at h
  | .rf _ _ _ _, _, h, _ => by simp [ground] at h
  | .map (some _), _, h, _ => by simp [ground] at h
  | .func _ _ _, _, h, _ => by simp [ground] at h
  | .any, _, h, _ => by simp [ground] at h
theorem reps_ground (g g' : G) : ∀ (l : List AV) {vs : List Value}, grounds l = true → reps g l vs → reps g' l vs
  | [], _, _, k => k
  | a :: l, _, h, ⟨u, us, k1, k2, k3⟩ => by
    simp only [grounds, Bool.and_eq_true] at h
    exact ⟨u, us, k1, rep_ground g g' a h.1 k2, reps_ground g g' l h.2 k3⟩
end
theorem Fut.of_closed {g g1 : G} {A A1 : AH} {w w' : World} (s : Sat g A w) (F : Fut G.zero A0 w g1 A1 w') : Fut g A w g A w' :=
  Fut.ext s (fun b hb => (F.old b hb (fun i h => by simp [G.zero] at h) rfl).2.2) F.size F.env
def noOrc : FuncId → Option OrcF := fun _ => none
theorem noOrc_ok {P : Program} : OrcOk P noOrc := by intro f F h; cases h
/-- what a call ends in, begun with nothing tracked -/
def runC {P : Program} (X : Cx P) (ext : ExtF) (orc : FuncId → Option OrcF) (k : Nat) (f : FuncId) (args : List AV) : Option AV := match callX X ext orc k f args A0 with
  | some (.ret a, _) => bif ground a && grounds args then some a else none
  | _ => none
def RunsTo (P : Program) (f : FuncId) (args : List AV) (a : AV) : Prop := grounds args = true ∧ ∀ g A w vs, Sat g A w → reps g args vs → Calls P f vs.toArray w (fun en w' => Fut g A w g A w' ∧ repE g (.ret a) en)
theorem runC_W {P : Program} {X : Cx P} (hX : CxOk X) {ext : ExtF} (hx : ExtOk P ext ∧ ExtV ext) {orc : FuncId → Option OrcF} (hO : OrcOk P orc) {k : Nat} {f : FuncId} {args : List AV} {a : AV} (h : runC X ext orc k f args = some a) : RunsTo P f args a := by
  unfold runC at h
  split at h <;> try cases h
  rename_i b A1 hr
  cases hb : (ground b && grounds args) <;> simp only [hb, cond_true, cond_false] at h
  · cases h
  simp only [Bool.and_eq_true] at hb
  obtain rfl := Option.some.inj h
  refine ⟨hb.2, fun g A w vs s ha => ?_⟩
  refine calls_mono (callX_W hX hx.1 hx.2 hO k f args A0 _ A1 hr G.zero w vs (sat_zero w) (reps_ground g G.zero args hb.2 ha)) ?_
  rintro en w' ⟨g1, F, v, rfl, hv⟩
  exact ⟨Fut.of_closed s F, v, rfl, rep_ground g1 g b hb.1 hv⟩
def isV (r : Option AV) (a : AV) : Bool := match r with | some b => AV.beq b a | none => false
theorem isV_eq {r : Option AV} {a : AV} (h : isV r a = true) : r = some a := by
  unfold isV at h
  split at h
  · rw [AV.beq_eq h]
  · cases h
/-- runs that are known -/
abbrev Known := List (FuncId × List AV × AV)
def known (l : Known) (f : FuncId) (args : List AV) : Option AV := match l with
  | [] => none
  | (f', as, a) :: r => bif Nat.beq f f' && AV.beqs args as then some a else known r f args
def hasF (l : Known) (f : FuncId) : Bool := match l with
  | [] => false
  | (f', _, _) :: r => Nat.beq f f' || hasF r f
def orcK (l : Known) : FuncId → Option OrcF := fun f => bif hasF l f then some (fun args A => match known l f args with | some a => some (.ret a, A) | none => none) else none
theorem known_ok {P : Program} : ∀ {l : Known}, (∀ p ∈ l, RunsTo P p.1 p.2.1 p.2.2) → ∀ {f : FuncId} {args : List AV} {a : AV}, known l f args = some a → RunsTo P f args a
  | [], _, f, args, a, h => by cases h
  | (f', as, b) :: r, hl, f, args, a, h => by
    unfold known at h
    cases hb : (Nat.beq f f' && AV.beqs args as) <;> simp only [hb, cond_true, cond_false] at h
    · exact known_ok (fun p hp => hl p (List.mem_cons_of_mem _ hp)) h
    · simp only [Bool.and_eq_true] at hb
      obtain rfl := Nat.eq_of_beq_eq_true hb.1
      obtain rfl := AV.beqs_eq hb.2
      obtain rfl := Option.some.inj h
      exact hl _ (List.mem_cons_self ..)
theorem orcK_ok {P : Program} {l : Known} (h : ∀ p ∈ l, RunsTo P p.1 p.2.1 p.2.2) : OrcOk P (orcK l) := by
  intro f F hF args A e A' hk
  unfold orcK at hF
  cases hb : hasF l f <;> simp only [hb, cond_true, cond_false] at hF
  · cases hF
  obtain rfl := Option.some.inj hF
  simp only at hk
  split at hk <;> try cases hk
  rename_i a ha
  refine ⟨leV.refl _, fun g w vs s hr => ?_⟩
  refine calls_mono ((known_ok h ha).2 g A w vs s hr) ?_
  rintro en w' ⟨F, v, rfl, hv⟩
  exact ⟨g, F, v, rfl, hv⟩
end Go.X
