/- Contracts of functions and plain laws, part 2. -/
import Derived.Test.YtalafpigfeiaiaaGreatDoorKU1
import Derived.RangeFuncNested
import Derived.RangeFuncLeaves
import Derived.RangeFuncBound
import Derived.OwnWalkIn
import Derived.Deep.Draws
section
namespace Go.Proofs.YtalafpigfeiaiaaGreatDoor.H
open Go.RowKit
structure Off (T : Nat → Prop) (W W' : World) : Prop where
  os : W'.os = W.os
  tape : W'.tape = W.tape
  output : W'.output = W.output
  size : W.heap.size ≤ W'.heap.size
  block : ∀ k, k < W.heap.size → ¬ T k → W'.heap[k]? = W.heap[k]?
theorem Off.refl (T : Nat → Prop) (W : World) : Off T W W := ⟨rfl, rfl, rfl, Nat.le_refl _, fun _ _ _ => rfl⟩
theorem Off.trans {T : Nat → Prop} {a b c : World} (h : Off T a b) (k : Off T b c) : Off T a c :=
  ⟨k.os.trans h.os, k.tape.trans h.tape, k.output.trans h.output, Nat.le_trans h.size k.size, fun i hi ht => (k.block i (Nat.lt_of_lt_of_le hi h.size) ht).trans (h.block i hi ht)⟩
theorem Off.mono {T T' : Nat → Prop} {a b : World} (h : Off T a b) (ht : ∀ k, T k → T' k) : Off T' a b :=
  ⟨h.os, h.tape, h.output, h.size, fun i hi hn => h.block i hi (fun q => hn (ht i q))⟩
theorem Off.of_below {T : Nat → Prop} {W W' : World} (h : Below W.heap.size W W') : Off T W W' := ⟨h.os, h.tape, h.output, h.size, fun k hk _ => h.block k hk⟩
theorem Off.drew (T : Nat → Prop) (W : World) : Off T W W.drew := ⟨rfl, rfl, rfl, Nat.le_refl _, fun _ _ _ => rfl⟩
theorem Off.drewN (T : Nat → Prop) (W : World) (n : Nat) : Off T W (W.drewN n) := ⟨rfl, rfl, rfl, Nat.le_refl _, fun _ _ _ => rfl⟩
theorem Off.alloc (T : Nat → Prop) (W : World) (o : Obj) : Off T W (W.alloc o) := .of_below ((Below.refl _ W).alloc (Nat.le_refl _) o)
theorem Off.putObj {T : Nat → Prop} (W : World) {l : Nat} (o : Obj) (hl : T l) : Off T W (W.putObj l o) :=
  ⟨rfl, rfl, rfl, by simp, fun k _ hn => World.putObj_heap_other (fun e => hn (by rw [e]; exact hl))⟩
theorem Off.setCell {T : Nat → Prop} (W : World) {a : Addr} (v : Value) (hl : T a.block) : Off T W (W.setCell a v) :=
  ⟨rfl, rfl, rfl, by simp [World.setCell], fun k _ hn => Below.heap_setCell _ _ _ _ (fun e => hn (by rw [e]; exact hl))⟩
theorem Off.below {T : Nat → Prop} {B : Nat} {w W W' : World} (h : Off T W W') (hB : Below B w W) (hBW : B ≤ W.heap.size) (hT : ∀ k, T k → B ≤ k) : Below B w W' :=
  hB.trans ⟨h.os, h.tape, h.output, h.size, fun k hk => h.block k (by omega) (fun q => by have := hT k q; omega)⟩
structure Keep (T : Nat → Prop) (W W' : World) : Prop where
  size : W.heap.size ≤ W'.heap.size
  same : ∀ k, T k → W'.heap[k]? = W.heap[k]?
theorem Keep.refl (T : Nat → Prop) (W : World) : Keep T W W := ⟨Nat.le_refl _, fun _ _ => rfl⟩
theorem Keep.trans {T : Nat → Prop} {a b c : World} (h : Keep T a b) (k : Keep T b c) : Keep T a c := ⟨Nat.le_trans h.size k.size, fun i hi => (k.same i hi).trans (h.same i hi)⟩
theorem Keep.mono {T T' : Nat → Prop} {a b : World} (h : Keep T a b) (ht : ∀ k, T' k → T k) : Keep T' a b := ⟨h.size, fun k hk => h.same k (ht k hk)⟩
theorem Keep.of_below {T : Nat → Prop} {W W' : World} (h : Below W.heap.size W W') (hT : ∀ k, T k → k < W.heap.size) : Keep T W W' := ⟨h.size, fun k hk => h.block k (hT k hk)⟩
theorem Keep.of_grown {T : Nat → Prop} {W W' : World} {row : Option Nat} (h : W.grownBy W' row) (hT : ∀ k, T k → k < W.heap.size) (hr : ∀ k, row = some k → ¬ T k) : Keep T W W' :=
  ⟨h.size, fun k hk => h.block k (hT k hk) (fun e => hr k e.symm hk)⟩
theorem Keep.drew (T : Nat → Prop) (W : World) : Keep T W W.drew := ⟨Nat.le_refl _, fun _ _ => rfl⟩
theorem Keep.setCell {T : Nat → Prop} (W : World) {a : Addr} (v : Value) (hl : ¬ T a.block) : Keep T W (W.setCell a v) :=
  ⟨by simp [World.setCell], fun k hk => Below.heap_setCell _ _ _ _ (fun e => hl (by rw [← e]; exact hk))⟩
theorem Keep.off {T : Nat → Prop} {a b : World} (h : Keep T a b) {k : Nat} {o : Obj} (hk : T k) (ho : a.heap[k]? = some o) : b.heap[k]? = some o := (h.same k hk).trans ho
variable {P : Program} {n : Nat}
def Iter {α : Type} (n : Nat) (P : Program) (g : Nat) (lb : Array Value) (enc : α → Value) (Pe : α → Prop) (T0 : Nat → Prop) (S Sp : List α → Prop) (N : Nat) (w : World) : Prop :=
  ∀ (l : Nat) (J Jx : (Nat → Prop) → List α → World → Prop) (W : World), Below w.heap.size w W →
    (∀ T W1, Below W.heap.size W W1 → (∀ k, T0 k → T k) → (∀ k, T k → T0 k ∨ (W.heap.size ≤ k ∧ k < W1.heap.size)) → J T [] W1) →
    (∀ T s A B, J T s A → Off T A B → J T s B) → (∀ T s A B, Jx T s A → Off T A B → Jx T s B) →
    (∀ T pre x W1, Pe x → J T pre W1 → pre.length < N → YieldAt Fence.wide (n - 1) P l #[enc x] W1 fun e W' =>
      (e = .returned (.bool true) ∧ J T (pre ++ [x]) W' ∧ Keep T W1 W') ∨ (e = .returned (.bool false) ∧ Jx T (pre ++ [x]) W' ∧ Keep T W1 W')) →
    CallsIn Fence.wide n P g (#[.func (.yield l) #[] #[]] ++ lb) W fun e W' => (∃ v, e = .returned v) ∧ ∃ T, (∀ k, T k → T0 k ∨ W.heap.size ≤ k) ∧ ((∃ xs, S xs ∧ J T xs W') ∨ (∃ pre, Sp pre ∧ Jx T pre W'))
def postI {α : Type} (T : Nat → Prop) (I : (Nat → Prop) → List α → World → Prop) (Ix : (Nat → Prop) → Code → List α → World → Prop) (xs : List α) (W : World) : Exit → Act → World → Prop
  | .normal, _, W' => Keep T W W' ∧ I T xs W'
  | .ret, _, W' => Keep T W W' ∧ Ix T .ret xs W'
  | .exit id, _, W' => Keep T W W' ∧ Ix T (.exit id) xs W'
  | .goto t, _, W' => Keep T W W' ∧ Ix T (.goto t) xs W'
  | .panic _, _, _ => False
  | .outgrown, _, _ => False
theorem range_law {α : Type} {g : Operand} {ps : Array Tmp} {assign body : Code} {Q : Exit → Act → World → Prop} {a : Act} {w : World}
    {gf : Nat} {lb : Array Value} (hg : a.eval g = .func (.func gf) #[] lb) (eg : ∀ args w, (callFunc gf args).run P w = .ok (.enter gf args) w)
    {enc : α → Value} {Pe : α → Prop} {T0 : Nat → Prop} {S Sp : List α → Prop} {N : Nat} {w0 : World} (hseq : Iter (n - 1) P gf lb enc Pe T0 S Sp N w0)
    (hb0 : Below w0.heap.size w0 w) (hT0 : ∀ k, T0 k → k < w.heap.size) (hps : ps.size = 1)
    (I : (Nat → Prop) → List α → World → Prop) (Ix : (Nat → Prop) → Code → List α → World → Prop)
    (hI : ∀ T s A B, I T s A → Off T A B → I T s B) (hIx : ∀ T c s A B, Ix T c s A → Off T A B → Ix T c s B)
    (h0 : ∀ T W1, Below w.heap.size w W1 → (∀ k, T0 k → T k) → (∀ k, T k → T0 k ∨ (w.heap.size ≤ k ∧ k < W1.heap.size)) → I T [] W1)
    (a₁ : α → Act)
    (hassign : ∀ (l : Nat) (x : α) (W : World) (K : Act → World → Prop), K (a₁ x) W →
      assign.wpIn (Fence.wide.inRound l) (n - 1 - 1) P (Exit.then K (fun _ _ _ => False)) { tmps := (ps.zip #[enc x]).foldl (fun t (p, v) => t.setIfInBounds p v) a.tmps, defers := [] } W)
    (hbody : ∀ (T : Nat → Prop) (l : Nat) (pre : List α) (x : α) (W : World), Pe x → I T pre W → pre.length < N → body.wpIn (Fence.wide.inRound l) (n - 1 - 1) P (postI T I Ix (pre ++ [x]) W) (a₁ x) W)
    (hdone : ∀ (T : Nat → Prop) (D : Nat) (xs : List α) (W : World), S xs → I T xs W → T D → w.heap.size ≤ D → W.heap[D]? = some (.deferred (some [])) → Q .normal { a with defers := { target := .collected D, args := #[] } :: a.defers } W)
    (hstop : ∀ (T : Nat → Prop) (D : Nat) (c : Code) (pre : List α) (W : World), Sp pre → Ix T c pre W → T D → w.heap.size ≤ D → W.heap[D]? = some (.deferred (some [])) → c.wpIn Fence.wide n P Q { a with defers := { target := .collected D, args := #[] } :: a.defers } W) :
    (Code.rangeFunc g ps assign body).wpIn Fence.wide n P Q a w := by
  refine wpIn_rangeFunc ?_
  intro fn hfn
  obtain ⟨rec, hrec⟩ : ∃ rec : LoopState → Option Code → Loop, rec = fun st pe => { state := st, pending := pe, fn, tmps := a.tmps, params := ps, assign, body, defers := w.heap.size } := ⟨_, rfl⟩
  obtain ⟨W1, hW1⟩ : ∃ W1, (w.alloc (.deferred (some []))).alloc (.loop (rec .ready none)) = W1 := ⟨_, rfl⟩
  have hL1 : W1.heap[w.heap.size + 1]? = some (.loop (rec .ready none)) := by
    rw [← hW1]; have := World.alloc_heap_new (w.alloc (.deferred (some []))) (.loop (rec .ready none)); rwa [World.size_alloc] at this
  have hK1 : W1.heap[w.heap.size]? = some (.deferred (some [])) := by
    rw [← hW1]; exact (Below.heap_alloc _ _ _ (by simp)).trans (World.alloc_heap_new w _)
  have hs1 : W1.heap.size = w.heap.size + 2 := by rw [← hW1]; simp
  have hbw : Below w.heap.size w W1 := by rw [← hW1]; exact ((Below.refl _ w).alloc (Nat.le_refl _) _).alloc (by simp) _
  have hb1 : Below w0.heap.size w0 W1 := hb0.trans (hbw.mono hb0.size)
  let U : (Nat → Prop) → Nat → Prop := fun T k => T k ∨ k = w.heap.size ∨ k = w.heap.size + 1
  have hUT : ∀ T k, T k → U T k := fun _ _ h => .inl h
  refine ⟨w.heap.size + 1, [{ target := .collected w.heap.size, args := #[] }], W1, { target := .fn (.func gf) lb, args := #[.func (.yield (w.heap.size + 1)) #[] #[]] }, W1, gf,
    #[.func (.yield (w.heap.size + 1)) #[] #[]] ++ lb, W1, ?_, ?_, ?_, ?_, (fun h => by cases h), ?_⟩
  · rw [← hW1, hrec]; exact run_enterLoop_outer _ _ _ _ _
  · simp only [resolve, hg]
    simp [go_sem]
  · intro f' _; trivial
  · simp [invoke, go_sem, eg]
  · refine (hseq (w.heap.size + 1)
      (fun T pre W => I (U T) pre W ∧ (¬ T w.heap.size ∧ ¬ T (w.heap.size + 1)) ∧ W.heap[w.heap.size + 1]? = some (.loop (rec .ready none)) ∧ W.heap[w.heap.size]? = some (.deferred (some [])))
      (fun T pre W => (¬ T w.heap.size ∧ ¬ T (w.heap.size + 1)) ∧ ∃ c, Ix (U T) c pre W ∧ W.heap[w.heap.size + 1]? = some (.loop (rec .done (some c))) ∧ W.heap[w.heap.size]? = some (.deferred (some [])))
      W1 hb1 ?_ ?_ ?_ ?_).mono ?_
    ·
      intro T W2 hW2 hT0T hT
      have hnT : ∀ k, T k → k < w.heap.size ∨ (W1.heap.size ≤ k ∧ k < W2.heap.size) := fun k hk => (hT k hk).imp (hT0 k) id
      have hz := hW2.size
      refine ⟨h0 (U T) W2 (hbw.trans (hW2.mono hbw.size)) (fun k hk => .inl (hT0T k hk)) ?_, ⟨fun h => by have := hnT _ h; omega, fun h => by have := hnT _ h; omega⟩, (hW2.block _ (by omega)).trans hL1, (hW2.block _ (by omega)).trans hK1⟩
      rintro k (hk | rfl | rfl)
      · rcases hT k hk with h | ⟨h, h'⟩
        · exact .inl h
        · exact .inr ⟨by omega, h'⟩
      · exact .inr ⟨Nat.le_refl _, by omega⟩
      · exact .inr ⟨by omega, by omega⟩
    · rintro T s A B ⟨hi, hn, hl, hk⟩ ho
      exact ⟨hI _ _ _ _ hi (ho.mono (hUT T)), hn, (ho.block _ (Array.getElem?_eq_some_iff.1 hl).1 hn.2).trans hl, (ho.block _ (Array.getElem?_eq_some_iff.1 hk).1 hn.1).trans hk⟩
    · rintro T s A B ⟨hn, c, hi, hl, hk⟩ ho
      exact ⟨hn, c, hIx _ _ _ _ _ hi (ho.mono (hUT T)), (ho.block _ (Array.getElem?_eq_some_iff.1 hl).1 hn.2).trans hl, (ho.block _ (Array.getElem?_eq_some_iff.1 hk).1 hn.1).trans hk⟩
    ·
      rintro T pre x W hpe ⟨hi, hn, hl, hk⟩ hlen
      have hUl : U T (w.heap.size + 1) := .inr (.inr rfl)
      have hUk : U T w.heap.size := .inr (.inl rfl)
      have hlt : w.heap.size + 1 < W.heap.size := (Array.getElem?_eq_some_iff.1 hl).1
      have hy := run_yield (P := P) (args := #[enc x]) hl (by rw [hrec]; simp [hps])
      rw [hrec] at hy
      refine ⟨fn, _, assign, body, hy, roundIn_of_wpIn hfn (hassign _ x W _ ?_)⟩
      clear hy
      refine ⟨_, run_beginRound hl (by rw [hrec]), ?_⟩
      have hl2 : (W.putObj (w.heap.size + 1) (.loop { rec .ready none with state := .busy })).heap[w.heap.size + 1]? = some (.loop { rec .ready none with state := .busy }) := World.putObj_heap_same hlt
      have hk2 : (W.putObj (w.heap.size + 1) (.loop { rec .ready none with state := .busy })).heap[w.heap.size]? = some (.deferred (some [])) := (World.putObj_heap_other (by omega)).trans hk
      refine wpIn_mono (hbody (U T) (w.heap.size + 1) pre x _ hpe (hI _ _ _ _ hi (Off.putObj W _ hUl)) hlen) ?_
      have fin : ∀ (jump : Option Code) (W3 : World), Keep (U T) (W.putObj (w.heap.size + 1) (.loop { rec .ready none with state := .busy })) W3 →
          (Instr.endRound (w.heap.size + 1) jump).run P W3 = .ok (.bool jump.isNone) (W3.putObj (w.heap.size + 1) (.loop (rec (if jump.isNone then .ready else .done) jump))) ∧
          (W3.putObj (w.heap.size + 1) (.loop (rec (if jump.isNone then .ready else .done) jump))).heap[w.heap.size + 1]? = some (.loop (rec (if jump.isNone then .ready else .done) jump)) ∧
          (W3.putObj (w.heap.size + 1) (.loop (rec (if jump.isNone then .ready else .done) jump))).heap[w.heap.size]? = some (.deferred (some [])) ∧
          Keep T W (W3.putObj (w.heap.size + 1) (.loop (rec (if jump.isNone then .ready else .done) jump))) := fun jump W3 hk3 => by
        have hl3 := hk3.off hUl hl2
        have := run_endRound (P := P) jump hl3
        rw [hrec] at this ⊢
        refine ⟨this, World.putObj_heap_same (Array.getElem?_eq_some_iff.1 hl3).1, (World.putObj_heap_other (by omega)).trans (hk3.off hUk hk2), ?_, fun k hT => ?_⟩
        · have := hk3.size; simp at this ⊢; omega
        · have hne : k ≠ w.heap.size + 1 := fun e => hn.2 (e ▸ hT)
          exact (World.putObj_heap_other hne).trans ((hk3.same k (.inl hT)).trans (World.putObj_heap_other hne))
      rintro e a3 W3 hp
      cases e with
      | normal =>
        obtain ⟨hk3, hi3⟩ := hp
        obtain ⟨hr, hl4, hk4, hkp⟩ := fin none W3 hk3
        exact ⟨_, _, hr, .inl ⟨rfl, ⟨hI _ _ _ _ hi3 (Off.putObj W3 _ hUl), hn, hl4, hk4⟩, hkp⟩⟩
      | ret =>
        obtain ⟨hk3, hi3⟩ := hp
        obtain ⟨hr, hl4, hk4, hkp⟩ := fin (some .ret) W3 hk3
        exact ⟨_, _, hr, .inr ⟨rfl, ⟨hn, .ret, hIx _ _ _ _ _ hi3 (Off.putObj W3 _ hUl), hl4, hk4⟩, hkp⟩⟩
      | exit id =>
        obtain ⟨hk3, hi3⟩ := hp
        obtain ⟨hr, hl4, hk4, hkp⟩ := fin (some (.exit id)) W3 hk3
        exact ⟨_, _, hr, .inr ⟨rfl, ⟨hn, .exit id, hIx _ _ _ _ _ hi3 (Off.putObj W3 _ hUl), hl4, hk4⟩, hkp⟩⟩
      | goto t =>
        obtain ⟨hk3, hi3⟩ := hp
        obtain ⟨hr, hl4, hk4, hkp⟩ := fin (some (.goto t)) W3 hk3
        exact ⟨_, _, hr, .inr ⟨rfl, ⟨hn, .goto t, hIx _ _ _ _ _ hi3 (Off.putObj W3 _ hUl), hl4, hk4⟩, hkp⟩⟩
      | panic ch => exact hp.elim
      | outgrown => exact hp.elim
    ·
      rintro e W2 ⟨⟨v, rfl⟩, T, _, (⟨xs, hS, hi, hn, hl, hk⟩ | ⟨pre, hSp, hn, c, hi, hl, hk⟩)⟩
      · exact ⟨none, _, by have := run_endLoop (P := P) hl (by rw [hrec]; simp); rw [hrec] at this; exact this, hdone (U T) _ xs _ hS (hI _ _ _ _ hi (Off.putObj W2 _ (.inr (.inr rfl)))) (.inr (.inl rfl)) (Nat.le_refl _) ((World.putObj_heap_other (by omega)).trans hk)⟩
      · exact ⟨some c, _, by have := run_endLoop (P := P) hl (by rw [hrec]; simp); rw [hrec] at this; exact this, hstop (U T) _ c pre _ hSp (hIx _ _ _ _ _ hi (Off.putObj W2 _ (.inr (.inr rfl)))) (.inr (.inl rfl)) (Nat.le_refl _) ((World.putObj_heap_other (by omega)).trans hk)⟩
end Go.Proofs.YtalafpigfeiaiaaGreatDoor.H
end
section
namespace Go.Proofs.YtalafpigfeiaiaaGreatDoor.Q
open Go.RowKit Go.Proofs.YtalafpigfeiaiaaGreatDoorW.PrintWords Go.Proofs.YtalafpigfeiaiaaGreatDoorW.PrintLast Go.Proofs.YtalafpigfeiaiaaGreatDoorW.PrintMore
variable {P : Program} {ops : Array Oper} {Q : Exit → Act → World → Prop} {md : Region.Mode} {S : World → Prop} {ds : List Nat}
theorem tk (i : Nat) (N : Option Tmp) {oi : Oper} {v : Value} {fuel : Nat} {l : Array Bool} {a : Act} {w : World} (hi : ops[i]? = some oi) (hN : oi.dst = N) (hc : takeB md ops ds l (l.setIfInBounds i true) i = true)
    (hQ : ∀ c a w, Q (.panic c) (a.put oi.dst v) w → Q (.panic c) a w) (hy : YieldsIf P ops S oi v a) (hS : S w) {a' : Act} (ha : a.put N v = a')
    (h : wpAnyLast P md ops Q S ds fuel (l.setIfInBounds i true) a' w) : wpAnyLast P md ops Q S ds (fuel + 1) l a w := take_ _ hi hN hc hQ hy hS ha h
theorem pu (i : Nat) (N : Option Tmp) {oi : Oper} {v : Value} {fuel : Nat} {l : Array Bool} {a : Act} {w : World} (hi : ops[i]? = some oi) (hN : oi.dst = N) (hc : anyB md ops l (l.setIfInBounds i true) i = true)
    (hQ : ∀ c a w, Q (.panic c) (a.put oi.dst v) w → Q (.panic c) a w) (hy : Yields P ops oi v a) {a' : Act} (ha : a.put N v = a')
    (h : wpAnyLast P md ops Q S ds fuel (l.setIfInBounds i true) a' w) : wpAnyLast P md ops Q S ds (fuel + 1) l a w := pure_ _ hi hN hc hQ hy ha h
theorem on (i : Nat) (N : Option Tmp) {oi : Oper} {fuel : Nat} {l : Array Bool} {a : Act} {w : World} (hi : ops[i]? = some oi) (hN : oi.dst = N) (hc : readyB md ops l (l.setIfInBounds i true) i = true) (hd : i ∉ ds)
    (h : ∀ K : Act → World → Prop, Shut (∀ a' w', S w' → (S w' → wpAnyLast P md ops Q S ds fuel (l.setIfInBounds i true) a' w') → K a' w') → if Region.wanted oi (yielded ops a.tmps) = true then Oper.wp P oi a w K Q else K (a.put N undef) w) :
    wpAnyLast P md ops Q S ds (fuel + 1) l a w := one_ _ hi hN hc hd h
theorem be {id : Nat} (n : Nat) {a : Act} {w : World} (hm : P.follows .mixedOrders = true) (hn : ops.size = n) (hS : S w.drew)
    (h : S w.drew → wpAnyLast P .any ops Q S ds n (Array.replicate n false) a w.drew) : (Code.region id ops true).wp P Q a w := start_ _ hm hn rfl hS h
end Go.Proofs.YtalafpigfeiaiaaGreatDoor.Q
end
