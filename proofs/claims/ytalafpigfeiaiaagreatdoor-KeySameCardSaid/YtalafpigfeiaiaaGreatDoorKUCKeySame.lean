/- For every input, lockagelaw16.KeySame returns true (the tied card). No conditions. -/
import Derived.Test.YtalafpigfeiaiaaGreatDoorKU12
import Derived.Test.YtalafpigfeiaiaaGreatDoorProg
import Derived.Below
import Derived.Deep.Draws
import Derived.Deep.AppendLies
import Derived.Maps.AppendAt
import Derived.OwnWalk
import Derived.Laws.BytesArg
import Derived.Laws.MakeOwn
import Derived.Laws.OwnMore
import Derived.Deep.OwnRows
import Derived.Tactics
import Derived.Lib.ConvBytes
import Derived.Laws.Slices
import Derived.WalkKit
import Derived.KernelRfl
import Derived.RowKit3
import Derived.Deep.LoopGhost
import Derived.Deep.QuietTactic
import Derived.BigQuiet
import Derived.WideLaws
import Derived.Deep.DeepCutAuto
import Derived.Deep.CutBlock
import Derived.Deep.RegionHeld3
import Derived.Laws.Rows
import Derived.Lib.AppendStr
import Derived.ArgAppend
import Derived.Laws.IdiomCopy
import Derived.RowKit
import Derived.ProofKit
import Derived.OpenShut
import Derived.ShutString
import Derived.ChangeOld
import Derived.Deep.DeepHandedRow
import Derived.Test.YtalafpigfeiaiaaGreatDoorCards
import Derived.Test.YtalafpigfeiaiaaGreatDoorTie
section
set_option linter.unusedVariables false
set_option linter.unusedSimpArgs false
namespace Go.Proofs.YtalafpigfeiaiaaGreatDoorW.PrintWords
open Go.RowKit
section
variable {α : Type} {R R' : α → List Value → Prop} {e : TypeId} {size : Nat} {w w1 : World} {base : Nat} {v : Value} {ps : List α}
theorem OwnRow.keep (h : OwnRow R e size w base v ps) {g : Nat} {t : TypeId} {cells : Array Value} (hb : w.heap[g]? = some (.cells cells t (0, 0))) (ht : e ≠ t) (hk : KeepBut w w1 g none) : OwnRow R e size w1 base v ps := by
  obtain ⟨inner, ho, hr⟩ := h
  exact ⟨inner, hk.own ho (Ne.symm (own_ne ho hb ht)) (by cases v.ownBlock <;> simp), hr⟩
end
theorem keep_cell {w W : World} {g : Nat} (h : KeepBut w W g none) {a : Addr} {v : Value} (hc : w.cell? a = some v) (hne : a.block ≠ g) : W.cell? a = some v := by
  have := h.2 a.block (World.block_lt_of_cell? w a hc) hne (by simp)
  simpa [World.cell?, this] using hc
theorem ReadsInt.keep {w W : World} {k : IntKind} {A : Option Addr} {n g : Nat} {xs : List Int} (h : ReadsInt w k A n xs) (hk : KeepBut w W g none) (hf : ∀ ad, A = some ad → 0 < n → ad.block ≠ g) : ReadsInt W k A n xs :=
  ⟨h.1, h.2.1, fun hn => by
    obtain ⟨ad, e, hc⟩ := h.2.2 hn
    exact ⟨ad, e, fun j hj => keep_cell hk (hc j hj) (by rw [add_block]; exact hf ad e hn)⟩⟩
theorem ReadsOf.keep {α : Type} {enc : α → Value} {d : α} {w W : World} {A : Option Addr} {n g : Nat} {xs : List α} (h : ReadsOf enc d w A n xs) (hk : KeepBut w W g none) (hf : ∀ ad, A = some ad → 0 < n → ad.block ≠ g) : ReadsOf enc d W A n xs :=
  ⟨h.1, h.2.1, fun hn => by
    obtain ⟨ad, e, hc⟩ := h.2.2 hn
    exact ⟨ad, e, fun j hj => keep_cell hk (hc j hj) (by rw [add_block]; exact hf ad e hn)⟩⟩
end Go.Proofs.YtalafpigfeiaiaaGreatDoorW.PrintWords
end
section
namespace Go.Proofs.YtalafpigfeiaiaaGreatDoorW.PrintWords
open Go.RowKit
section
variable {w W W2 : World} {S S2 S' : Nat → Prop}
theorem Kept.keep {g : Nat} (h : KeepBut w W g none) (k : Kept W W2 S2) (hs : ∀ k, S2 k → w.heap.size ≤ k) : KeepBut w W2 g none :=
  ⟨Nat.le_trans h.1 k.1, fun i hi hg hr => (k.2 i (Nat.lt_of_lt_of_le hi h.1) (fun h2 => by have := hs i h2; omega)).trans (h.2 i hi hg hr)⟩
end
end Go.Proofs.YtalafpigfeiaiaaGreatDoorW.PrintWords
end
section
namespace Go.Proofs.YtalafpigfeiaiaaGreatDoor.Q
open Go.RowKit Go.Proofs.YtalafpigfeiaiaaGreatDoor.H Go.Proofs.YtalafpigfeiaiaaGreatDoorW.PrintWords
set_option linter.unusedVariables false
set_option linter.unusedSimpArgs false
def othersB (ns : List ByteArray) (f : S36) : Bool := ns.all fun n => decide (lower f.f0 ≠ lower n)
def dropF (L : FieldL) (ns : List ByteArray) : FieldL := L.filter (othersB ns)
theorem ne_lower (x y : ByteArray) : (x.toList != y.toList) = decide (x ≠ y) := by
  by_cases h : x = y
  · subst h; simp
  · have h2 : ¬ ul x = ul y := fun e => h (ul_inj e)
    rw [toList_ul, toList_ul, decide_eq_true h]
    exact bne_iff_ne.2 h2
theorem drop_step (L : FieldL) (ns : List ByteArray) (acc : FieldL) (x y : ByteArray) (i j j2 : Int) (k : Nat) (h1 : j < (ns.length : Int)) (h2 : 0 ≤ i) (h3 : i < (L.length : Int)) (h4 : 0 ≤ j) (hx : (rd_T36 L i).f0 = x) (hy : rdOf ByteArray.empty ns j = y) (hw : wrap64 (j + 1) = j2) :
    lockageref05_Drop.l1 (k + 1) L ns acc i true j = (lockageref05_Lower.f k x).bind fun t465 => (lockageref05_Lower.f k y).bind fun t467 => lockageref05_Drop.l1 k L ns acc i (t465.toList != t467.toList) j2 := by
  rw [lockageref05_Drop.l1, if_pos h1, if_pos rfl, if_pos h2, if_pos h3, hx, hy, hw]
  exact congrArg (Option.bind (lockageref05_Lower.f k x)) (funext fun t => if_pos h4)
theorem drop1_ev (L : FieldL) (hl : Few L) (ns : List ByteArray) (hn : ∀ n ∈ ns, n.size ≤ 1000) (hnl : ns.length ≤ 1000) (acc : FieldL) (i : Nat) (hi : i < L.length) (ha : acc.length ≤ i) (r : FieldL) (d : Nat) : ∀ (j : Nat) (keep : Bool), j ≤ ns.length → ns.length - j = d →
    Ev (fun k => lockageref05_Drop.l0 k L ns (if (keep && othersB (ns.drop j) L[i]) = true then acc ++ [L[i]] else acc) ((i + 1 : Nat) : Int)) r →
    Ev (fun k => lockageref05_Drop.l1 k L ns acc (i : Int) keep (j : Int)) r := by
  have hll := hl.1
  have hf := hl.2 L[i] (List.getElem_mem hi)
  have hrd : rd_T36 L (i : Int) = L[i] := rdT_get L i hi
  induction d with
  | zero =>
    intro j keep hj hd h
    have e : ns.drop j = [] := List.drop_eq_nil_of_le (by omega)
    rw [e] at h
    cases keep with
    | true =>
      refine Ev.step (fun k => ?_) h
      rw [lockageref05_Drop.l1]
      rw [if_neg (by omega), if_pos rfl, if_pos (by omega), if_pos (by omega), if_pos (by omega), hrd, wrap_succ (by omega)]
      rfl
    | false =>
      refine Ev.step (fun k => ?_) h
      rw [lockageref05_Drop.l1]
      rw [if_neg (by omega), if_neg (by simp), wrap_succ (by omega)]
      rfl
  | succ d ih =>
    intro j keep hj hd h
    have hjl : j < ns.length := by omega
    have e : ns.drop j = ns[j] :: ns.drop (j + 1) := by rw [List.drop_eq_getElem_cons hjl]
    have hsz := hn ns[j] (List.getElem_mem hjl)
    have hrn : rdOf ByteArray.empty ns (j : Int) = ns[j] := rdOf_get ns j hjl
    rw [e] at h
    cases keep with
    | true =>
      refine Ev.step (f := fun k => (lockageref05_Lower.f k L[i].f0).bind fun t465 => (lockageref05_Lower.f k ns[j]).bind fun t467 => lockageref05_Drop.l1 k L ns acc (i : Int) (t465.toList != t467.toList) ((j + 1 : Nat) : Int)) (fun k => ?_) ?_
      · exact drop_step L ns acc _ _ (i : Int) (j : Int) _ k (by omega) (by omega) (by omega) (by omega) (by rw [hrd]) hrn (wrap_succ (by omega))
      · refine Ev.bind (refLower_ev _ (by omega)) (Ev.bind (refLower_ev _ (by omega)) ?_)
        rw [ne_lower]
        exact ih (j + 1) _ (by omega) (by omega) h
    | false =>
      refine Ev.step (fun k => ?_) (ih (j + 1) false (by omega) (by omega) h)
      rw [lockageref05_Drop.l1]
      rw [if_pos (by omega), if_neg (by simp), wrap_succ (by omega)]
theorem drop0_ev (L : FieldL) (hl : Few L) (ns : List ByteArray) (hn : ∀ n ∈ ns, n.size ≤ 1000) (hnl : ns.length ≤ 1000) (d : Nat) : ∀ (i : Nat) (acc : FieldL), i ≤ L.length → L.length - i = d → acc.length ≤ i →
    Ev (fun k => lockageref05_Drop.l0 k L ns acc (i : Int)) (acc ++ dropF (L.drop i) ns) := by
  induction d with
  | zero =>
    intro i acc hi hd ha
    have e : L.drop i = [] := List.drop_eq_nil_of_le (by omega)
    rw [e]
    refine Ev.step (f := fun _ => some (acc ++ dropF [] ns)) (fun k => ?_) (Ev.now _)
    rw [lockageref05_Drop.l0]
    rw [if_neg (by omega)]
    simp [dropF]
  | succ d ih =>
    intro i acc hi hd ha
    have hil : i < L.length := by omega
    have e : L.drop i = L[i] :: L.drop (i + 1) := by rw [List.drop_eq_getElem_cons hil]
    refine Ev.step (f := fun k => lockageref05_Drop.l1 k L ns acc (i : Int) true 0) (fun k => ?_) (drop1_ev L hl ns hn hnl acc i hil ha _ ns.length 0 true (by omega) (by omega) ?_)
    · rw [lockageref05_Drop.l0]
      rw [if_pos (by omega)]
    · rw [List.drop_zero, Bool.true_and]
      by_cases h : othersB ns L[i] = true
      · rw [if_pos h]
        have := ih (i + 1) (acc ++ [L[i]]) (by omega) (by omega) (by simp; omega)
        have q : acc ++ [L[i]] ++ dropF (L.drop (i + 1)) ns = acc ++ dropF (L.drop i) ns := by rw [e]; simp only [dropF, List.filter_cons]; simp [h]
        rw [q] at this
        exact this
      · rw [if_neg h]
        have := ih (i + 1) acc (by omega) (by omega) (by omega)
        have q : acc ++ dropF (L.drop (i + 1)) ns = acc ++ dropF (L.drop i) ns := by rw [e]; simp only [dropF, List.filter_cons]; simp [h]
        rw [q] at this
        exact this
theorem drop_ev (L : FieldL) (hl : Few L) (ns : List ByteArray) (hn : ∀ n ∈ ns, n.size ≤ 1000) (hnl : ns.length ≤ 1000) : Ev (fun k => lockageref05_Drop.f k L ns) (dropF L ns) := by
  have := drop0_ev L hl ns hn hnl L.length 0 [] (by omega) (by omega) (by simp)
  simp only [List.drop_zero, List.nil_append] at this
  exact this
theorem dropF_few {L : FieldL} (h : Few L) (ns : List ByteArray) : Few (dropF L ns) :=
  ⟨Nat.le_trans (List.length_filter_le _ _) h.1, fun f hf => h.2 f ((List.mem_filter.1 hf).1)⟩
theorem drop_calls (A0 : Option Addr) (c0 : Nat) (L : FieldL) (A1 : Option Addr) (c1 : Nat) (ns : List ByteArray) (w : World) (hr0 : Kd.C k36 w A0 L.length L) (hc0 : L.length ≤ c0) (hl : Few L) (hr1 : Kd.C Kd.string w A1 ns.length ns) (hc1 : ns.length ≤ c1) (hn : ∀ n ∈ ns, n.size ≤ 1000) (hnl : ns.length ≤ 1000) :
    Calls Tryz.prog 28 #[.slice A0 L.length c0, .slice A1 ns.length c1] w fun e w' => ∃ v0_ : Value, e = .returned (v0_) ∧ Kd.R k36 36 w' w.heap.size (fun _ => True) v0_ (dropF L ns) ∧ Below w.heap.size w w' := by
  obtain ⟨k, hk⟩ := (drop_ev L hl ns hn hnl).rounds
  exact lockageref05_Drop.calls k A0 c0 L A1 c1 ns _ w hr0 hc0 hr1 hc1 hk
end Go.Proofs.YtalafpigfeiaiaaGreatDoor.Q
end
section
namespace Go.Proofs.YtalafpigfeiaiaaGreatDoor.Q
open Go.RowKit Go.Proofs.YtalafpigfeiaiaaGreatDoor.H Go.Proofs.YtalafpigfeiaiaaGreatDoorW.PrintWords
set_option linter.unusedVariables false
set_option linter.unusedSimpArgs false
theorem n_one : normalS (ul (⟨#[47, 97, 47, 46, 47, 98, 47, 37, 55, 101, 63, 113]⟩ : ByteArray)) = (⟨#[47, 97, 47, 98, 47, 126]⟩, ⟨#[63, 113]⟩, 0) := by decide +kernel
theorem n_two : normalS (ul (⟨#[47, 97, 47, 99, 47, 46, 46, 47, 98, 47, 126, 63, 113]⟩ : ByteArray)) = (⟨#[47, 97, 47, 98, 47, 126]⟩, ⟨#[63, 113]⟩, 0) := by decide +kernel
theorem getF_drop (L : FieldL) (n : ByteArray) : getF (dropF L [n]) n = [] := by
  unfold getF dropF
  rw [List.filter_filter]
  have e : (L.filter fun f => decide (lower f.f0 = lower n) && othersB [n] f) = [] := by
    refine List.filter_eq_nil_iff.2 fun f _ => ?_
    simp [othersB]
  rw [e]; rfl
theorem getF_app (a b : FieldL) (n : ByteArray) : getF (a ++ b) n = getF a n ++ getF b n := by simp [getF]
theorem key_left (D : FieldL) : keyS ⟨#[71, 69, 84]⟩ ⟨#[47, 97, 47, 46, 47, 98, 47, 37, 55, 101, 63, 113]⟩ ([(⟨⟨#[72, 111, 115, 116]⟩, ⟨#[104, 46, 88]⟩⟩ : S36)] ++ D) = (⟨#[71, 69, 84, 32, 104, 46, 120, 32, 47, 97, 47, 98, 47, 126, 63, 113]⟩, 0) := by
  have e : hostS ([(⟨⟨#[72, 111, 115, 116]⟩, ⟨#[104, 46, 88]⟩⟩ : S36)] ++ D) = ⟨#[104, 46, 88]⟩ := by
    unfold hostS
    rw [List.singleton_append, getF_cons, if_pos (by decide +kernel)]
    rfl
  unfold keyS
  rw [e, n_one, if_pos rfl]
  decide +kernel
theorem key_right (L : FieldL) (v q : ByteArray) (hq : ⟨#[71, 69, 84]⟩ ++ (⟨#[32]⟩ : ByteArray) ++ lower v ++ (⟨#[32]⟩ : ByteArray) ++ (⟨#[47, 97, 47, 98, 47, 126]⟩ : ByteArray) ++ (⟨#[63, 113]⟩ : ByteArray) = q) : keyS ⟨#[71, 69, 84]⟩ ⟨#[47, 97, 47, 99, 47, 46, 46, 47, 98, 47, 126, 63, 113]⟩ (dropF L [⟨#[104, 111, 115, 116]⟩] ++ [(⟨⟨#[72, 79, 83, 84]⟩, v⟩ : S36)]) = (q, 0) := by
  have e : hostS (dropF L [⟨#[104, 111, 115, 116]⟩] ++ [(⟨⟨#[72, 79, 83, 84]⟩, v⟩ : S36)]) = v := by
    unfold hostS lhost
    rw [getF_app, getF_drop, getF_cons, if_pos (show lower ⟨#[72, 79, 83, 84]⟩ = lower ⟨#[104, 111, 115, 116]⟩ by decide +kernel)]
    rfl
  unfold keyS
  rw [e, n_two, if_pos rfl, ← hq]
theorem six7_put {W : World} {z : Nat} {a0 b0 c0 d0 e0 f0 g0 a b c d e f : Value} (h : W.heap[z]? = some (.cells #[a0, b0, c0, d0, e0, f0, g0] 27 (0, 0))) : (six W z a b c d e f).heap[z]? = some (.cells #[a, b, c, d, e, f, g0] 27 (0, 0)) := by
  refine blk_put (cs := #[a, b, c, d, e, f0, g0]) ?_ 5 _ rfl
  refine blk_put (cs := #[a, b, c, d, e0, f0, g0]) ?_ 4 _ rfl
  refine blk_put (cs := #[a, b, c, d0, e0, f0, g0]) ?_ 3 _ rfl
  refine blk_put (cs := #[a, b, c0, d0, e0, f0, g0]) ?_ 2 _ rfl
  refine blk_put (cs := #[a, b0, c0, d0, e0, f0, g0]) ?_ 1 _ rfl
  exact blk_put (cs := #[a0, b0, c0, d0, e0, f0, g0]) h 0 _ rfl
theorem six_other {W : World} {z k : Nat} {a b c d e f : Value} (h : k ≠ z) : (six W z a b c d e f).heap[k]? = W.heap[k]? := by
  simp only [six]
  rw [Below.heap_setCell _ _ _ _ h, Below.heap_setCell _ _ _ _ h, Below.heap_setCell _ _ _ _ h, Below.heap_setCell _ _ _ _ h, Below.heap_setCell _ _ _ _ h, Below.heap_setCell _ _ _ _ h]
theorem six_size {W : World} {z : Nat} {a b c d e f : Value} : (six W z a b c d e f).heap.size = W.heap.size := by simp [six, World.setCell]
theorem few_cons {f : S36} {D : FieldL} (hf : f.f0.size ≤ 30 ∧ f.f1.size ≤ 30) (hd : D.length ≤ 6 ∧ Few D) : Few ([f] ++ D) := by
  refine ⟨by simp; omega, fun x hx => ?_⟩
  rcases List.mem_append.1 hx with h | h
  · rw [List.mem_singleton.1 h]; omega
  · exact hd.2.2 x h
theorem few_snoc {f : S36} {D : FieldL} (hf : f.f0.size ≤ 30 ∧ f.f1.size ≤ 30) (hd : D.length ≤ 6 ∧ Few D) : Few (D ++ [f]) := by
  refine ⟨by simp; omega, fun x hx => ?_⟩
  rcases List.mem_append.1 hx with h | h
  · exact hd.2.2 x h
  · rw [List.mem_singleton.1 h]; omega
theorem litR (W : World) (base g : Nat) (hg : g = W.heap.size) (hb : base ≤ g) (f : S36) (ok : Nat → Prop) (hok : ok g) : Kd.R k36 36 (W.alloc (.cells #[.string f.f0, .string f.f1] 36)) base ok (.slice (some ⟨g, 0, none⟩) 1 1) [f] := by
  subst hg
  refine ⟨fun k hk => ?_, [.string f.f0, .string f.f1], ?_, ?_⟩
  · have : W.heap.size = k := by simpa [Value.ownBlock] using hk
    subst this
    exact hok
  · have h2 := World.ownsRow_lit (base := base) (e := 36) (size := 2) W #[.string f.f0, .string f.f1] 1 hb (by decide) (by simp)
    show World.ownsRow _ base 36 2 _ 1 _
    simpa using h2
  · have := Reps.snoc (Reps.none (k36.M (W.alloc (.cells #[.string f.f0, .string f.f1] 36)) base fun k => ok k ∧ some k ≠ (Value.slice (some ⟨W.heap.size, 0, none⟩) 1 1).ownBlock) 2) (k36_mkM _ _ _ f) (by rfl)
    show Reps _ 2 _ _
    simpa using this
theorem drop_host (A0 : Option Addr) (c0 : Nat) (L : FieldL) (q : Nat) (w : World) (hr0 : Kd.C k36 w A0 L.length L) (hc0 : L.length ≤ c0) (hl : Few L) (hq : w.heap[q]? = some (.cells #[.string ⟨#[104, 111, 115, 116]⟩] 9 (0, 0))) :
    Calls Tryz.prog 28 #[.slice A0 L.length c0, .slice (some ⟨q, 0, none⟩) 1 1] w fun e w' => ∃ v0_ : Value, e = .returned (v0_) ∧ Kd.R k36 36 w' w.heap.size (fun _ => True) v0_ (dropF L [⟨#[104, 111, 115, 116]⟩]) ∧ Below w.heap.size w w' :=
  drop_calls A0 c0 L (some ⟨q, 0, none⟩) 1 [⟨#[104, 111, 115, 116]⟩] w hr0 hc0 hl (lit_C w q 9 _ [⟨#[104, 111, 115, 116]⟩] hq rfl (by decide)) (Nat.le_refl _) (by decide) (by decide)
set_option maxHeartbeats 4000000 in
set_option maxRecDepth 100000 in
theorem keySame_walk {w : World} (A0 : Option Addr) (c0 : Nat) (l0 : List Int) (hr0 : Kd.C (Kd.int .u8) w A0 l0.length l0) (hc0 : l0.length ≤ c0) (hb0 : Bytes l0) (A1 : Option Addr) (c1 : Nat) (l1 : List Int) (hr1 : Kd.C (Kd.int .u8) w A1 l1.length l1) (hc1 : l1.length ≤ c1) (hb1 : Bytes l1) (a2 : Int) (h2 : 0 ≤ a2 ∧ a2 < 256) :
    Calls Tryz.prog 7 #[.slice A0 l0.length c0, .slice A1 l1.length c1, .int .u8 a2] w fun e w' => e = .returned (.bool true) ∧ Below w.heap.size w w' := by
  have HC0 := Aside0.mk (fun (W : World) (h : Below w.heap.size w W) => request_calls A0 c0 l0 W (Kd.C_below hr0 h) hb0)
  have HC1 := Aside0.mk (fun (W : World) (h : Below w.heap.size w W) => request_calls A1 c1 l1 W (Kd.C_below hr1 h) hb1)
  clear hr0 hr1 hb0 hb1
  have ha1 := h2.1
  have ha2 := h2.2
  clear h2
  by_cases hz : a2 % 3 = 0
  · go_enter Tryz.func7, Tryz.ntmps7
    go_wp2_with fail
    with_reducible refine (awake_calls _).mono ?_
    rintro e w0 ⟨rfl, hB⟩
    have HB0 := Aside0.mk hB
    clear hB
    go_wp2_with fail
    with_reducible refine (HC0.out _ HB0.out).mono ?_
    rintro e w1 ⟨⟨m0, t0, s0, r0, mi0, A0', c0', L0⟩, bx0, rfl, _, ho, hb⟩
    simp only [Hd.mv]
    have HB1 := Aside0.mk (HB0.out.trans (hb.mono HB0.out.size))
    have HO0 := Aside0.mk ho
    clear ho hb
    go_wp2_with fail
    with_reducible refine (HC1.out _ HB1.out).mono ?_
    rintro e w2 ⟨⟨m1, t1, s1, r1, mi1, A1', c1', L1⟩, bx1, rfl, _, ho, hb⟩
    simp only [Hd.mv]
    have HB2 := Aside0.mk (HB1.out.trans (hb.mono HB1.out.size))
    have HO1 := Aside0.mk ho
    replace HO0 := Aside0.mk (HO0.out.below hb)
    clear ho hb
    go_wp2_with fail
    generalize hw3 : (w2.alloc (.cells #[.string m0, .string t0, .int .i64 s0, .string r0, .int .i64 mi0, .slice A0' L0.length c0', .string bx0] 27)).alloc (.cells #[.string m1, .string t1, .int .i64 s1, .string r1, .int .i64 mi1, .slice A1' L1.length c1', .string bx1] 27) = w3
    have hb3 : Below w2.heap.size w2 w3 := by rw [← hw3]; exact below_alloc (below_alloc (Below.refl _ _) _) _
    have hs3 : w3.heap.size = w2.heap.size + 1 + 1 := by rw [← hw3]; simp
    have HA3 := Aside0.mk ((by rw [← hw3]; (repeat' first | exact at_new (by first | rfl | (simp; done)) | (refine at_old (by first | (simp; done) | (simp; omega)) ?_))) : w3.heap[w2.heap.size]? = some (.cells #[.string m0, .string t0, .int .i64 s0, .string r0, .int .i64 mi0, .slice A0' L0.length c0', .string bx0] 27 (0, 0)))
    have HE3 := Aside0.mk ((by rw [← hw3]; (repeat' first | exact at_new (by first | rfl | (simp; done)) | (refine at_old (by first | (simp; done) | (simp; omega)) ?_))) : w3.heap[w2.heap.size + 1]? = some (.cells #[.string m1, .string t1, .int .i64 s1, .string r1, .int .i64 mi1, .slice A1' L1.length c1', .string bx1] 27 (0, 0)))
    have HB3 := Aside0.mk (HB2.out.trans (hb3.mono HB2.out.size))
    have HS3 := Aside0.mk hs3
    have HI0 := Aside0.mk ((HO0.out.below hb3).in_)
    have HI1 := Aside0.mk (HO1.out.in_)
    have HB23 := Aside0.mk hb3
    have HN0 := Aside0.mk (And.intro HO0.out.len HO1.out.len)
    clear hb3 hw3
    generalize hw4 : (w3.alloc (.cells #[.string ⟨#[72, 111, 115, 116]⟩, .string ⟨#[104, 46, 88]⟩] 36)).alloc (.cells #[.string ⟨#[72, 79, 83, 84]⟩, .string ⟨#[111, 116, 104, 101, 114]⟩] 36) = w4
    have hb4 : Below w3.heap.size w3 w4 := by rw [← hw4]; exact below_alloc (below_alloc (Below.refl _ _) _) _
    have hs4 : w4.heap.size = w2.heap.size + 1 + 1 + 1 + 1 := by rw [← hw4]; simp; omega
    have HR4 := Aside0.mk ((by rw [← hw4]; exact Kd.R_alloc (litR w3 w3.heap.size (w2.heap.size + 1 + 1) hs3.symm (by omega) (⟨⟨#[72, 111, 115, 116]⟩, ⟨#[104, 46, 88]⟩⟩ : S36) (fun _ => True) trivial) _) : Kd.R k36 36 w4 w3.heap.size (fun _ => True) (.slice (some ⟨w2.heap.size + 1 + 1, 0, none⟩) 1 1) [(⟨⟨#[72, 111, 115, 116]⟩, ⟨#[104, 46, 88]⟩⟩ : S36)])
    have HY4 := Aside0.mk ((by rw [← hw4, ← hs3]; have q := heap_alloc_new (w3.alloc (.cells #[.string ⟨#[72, 111, 115, 116]⟩, .string ⟨#[104, 46, 88]⟩] 36)) (.cells #[.string ⟨#[72, 79, 83, 84]⟩, .string ⟨#[111, 116, 104, 101, 114]⟩] 36); rwa [show (w3.alloc (.cells #[.string ⟨#[72, 111, 115, 116]⟩, .string ⟨#[104, 46, 88]⟩] 36)).heap.size = w3.heap.size + 1 by simp] at q) : w4.heap[w2.heap.size + 1 + 1 + 1]? = some (.cells #[.string ⟨#[72, 79, 83, 84]⟩, .string ⟨#[111, 116, 104, 101, 114]⟩] 36 (0, 0)))
    have HB4 := Aside0.mk hb4
    have HS4 := Aside0.mk hs4
    clear hb4 hs4 hs3 hw4
    with_reducible refine (drop_host A0' c0' L0 (w2.heap.size + 1 + 1 + 1 + 1) _ (Kd.C_below (Kd.C_below HI0.out.rd HB4.out) (below_alloc (Below.refl _ _) _)) HI0.out.cap HI0.out.few (by rw [← HS4.out]; exact heap_alloc_new w4 _)).mono ?_
    rintro e w5 ⟨vD, rfl, hvD, hb5⟩
    obtain ⟨AD, cD, rfl, hlD, _⟩ := Kd.R_reads hvD
    have HD5 := Aside0.mk hvD
    have HB5 := Aside0.mk ((below_alloc (Below.refl w4.heap.size w4) _).trans (hb5.mono (by simp)))
    have HFD := Aside0.mk (And.intro (Nat.le_trans (List.length_filter_le _ _) HN0.out.1 : (dropF L0 [⟨#[104, 111, 115, 116]⟩]).length ≤ 6) (dropF_few HI0.out.few [⟨#[104, 111, 115, 116]⟩]))
    generalize dropF L0 [⟨#[104, 111, 115, 116]⟩] = D0 at *
    clear hvD hb5
    have HA5 := Aside0.mk ((HB5.out.block _ (by have := HS4.out; omega)).trans ((HB4.out.block _ (by have := HS3.out; omega)).trans HA3.out))
    have HR5 := Aside0.mk (Kd.R_below HR4.out HB5.out)
    have HB35 := Aside0.mk (HB4.out.trans (HB5.out.mono HB4.out.size))
    obtain ⟨x0, x1, x2, x3, x4, x5, x6⟩ := seven_cells HA5.out
    have f0 := blk_frozen HA5.out 0
    have f1 := blk_frozen HA5.out 1
    have f2 := blk_frozen HA5.out 2
    have f3 := blk_frozen HA5.out 3
    have f4 := blk_frozen HA5.out 4
    have f5 := blk_frozen HA5.out 5
    go_upto_region 9 with (at_builtin; refine Kd.R_append_rows k36 (w0 := w3) w3.heap.size rfl (.tmp 33) (.tmp 38) 23 36 (.agg #[(.string ⟨#[]⟩), (.string ⟨#[]⟩)]) 32 rfl Tryz.underlying23 info36 rfl (by decide) (by omega) (.slice (some ⟨w2.heap.size + 1 + 1, 0, none⟩) 1 1) [(⟨⟨#[72, 111, 115, 116]⟩, ⟨#[104, 46, 88]⟩⟩ : S36)] D0 AD D0.length cD (fun _ => True) (fun _ => False) rfl rfl ?aO ?aR (fun _ _ h => h) (fun _ h => h.elim) ?aF ?aB ?aS ?aL ?_; (case aO => exact HR5.out); (case aR => exact (Kd.R_reads' HD5.out).2.2); (case aF => exact (fun _ _ => trivial)); (case aB => exact HB35.out); (case aS => exact HB35.out.size); (case aL => have := HFD.out.1; simp only [List.length_cons, List.length_nil]; omega); intro v1 w6 ho hb hg hat; obtain ⟨AF, cF, rfl, hlF, _⟩ := Kd.R_reads ho; have HO6 := Aside0.mk ho; have HB6 := Aside0.mk hb; have HA6 := Aside0.mk ((hb.block _ (by have := HS3.out; omega)).trans HA3.out); have HE6 := Aside0.mk ((hb.block _ (by have := HS3.out; omega)).trans HE3.out); have HY6 := Aside0.mk ((hg.block _ (by have := HS4.out; have := HB5.out.size; omega) (by simp [Value.ownBlock])).trans ((HB5.out.block _ (by have := HS4.out; omega)).trans HY4.out)); have hs6 : w2.heap.size + 1 + 1 + 1 + 1 ≤ w6.heap.size := (by have := hg.size; have := HS4.out; have := HB5.out.size; omega); have HS6 := Aside0.mk hs6; clear ho hb hg hat hs6 x0 x1 x2 x3 x4 x5 x6 f0 f1 f2 f3 f4 f5; obtain ⟨x0, x1, x2, x3, x4, x5, x6⟩ := seven_cells HA6.out; have f0 := blk_frozen HA6.out 0; have f1 := blk_frozen HA6.out 1; have f2 := blk_frozen HA6.out 2; have f3 := blk_frozen HA6.out 3; have f4 := blk_frozen HA6.out 4; have f5 := blk_frozen HA6.out 5)
    generalize hw7 : (((((w6.setCell ⟨w2.heap.size, 0, none⟩ (.string ⟨#[71, 69, 84]⟩)).setCell ⟨w2.heap.size, 1, none⟩ (.string ⟨#[47, 97, 47, 46, 47, 98, 47, 37, 55, 101, 63, 113]⟩)).setCell ⟨w2.heap.size, 2, none⟩ (.int .i64 0)).setCell ⟨w2.heap.size, 3, none⟩ (.string ⟨#[]⟩)).setCell ⟨w2.heap.size, 4, none⟩ (.int .i64 1)).setCell ⟨w2.heap.size, 5, none⟩ (.slice AF (D0.length + 1) cF) = w7
    clear x0 x1 x2 x3 x4 x5 x6 f0 f1 f2 f3 f4 f5
    obtain ⟨LF, hLF⟩ : ∃ LF, [(⟨⟨#[72, 111, 115, 116]⟩, ⟨#[104, 46, 88]⟩⟩ : S36)] ++ D0 = LF := ⟨_, rfl⟩
    have hlen : D0.length + 1 = LF.length := by rw [← hLF]; simp
    have HKF := Aside0.mk ((by rw [← hLF]; exact key_left D0) : keyS ⟨#[71, 69, 84]⟩ ⟨#[47, 97, 47, 46, 47, 98, 47, 37, 55, 101, 63, 113]⟩ LF = (⟨#[71, 69, 84, 32, 104, 46, 120, 32, 47, 97, 47, 98, 47, 126, 63, 113]⟩, 0))
    have HFF := Aside0.mk ((by rw [← hLF]; exact few_cons (by decide) HFD.out) : Few LF)
    have HA7 := Aside0.mk ((by rw [← hw7, ← hlen]; exact six7_put HA6.out) : w7.heap[w2.heap.size]? = some (.cells #[.string ⟨#[71, 69, 84]⟩, .string ⟨#[47, 97, 47, 46, 47, 98, 47, 37, 55, 101, 63, 113]⟩, .int .i64 0, .string ⟨#[]⟩, .int .i64 1, .slice AF LF.length cF, .string bx0] 27 (0, 0)))
    have HE7 := Aside0.mk ((by rw [← hw7]; exact (six_other (by omega)).trans HE6.out) : w7.heap[w2.heap.size + 1]? = some (.cells #[.string m1, .string t1, .int .i64 s1, .string r1, .int .i64 mi1, .slice A1' L1.length c1', .string bx1] 27 (0, 0)))
    have HY7 := Aside0.mk ((by rw [← hw7]; exact (six_other (by omega)).trans HY6.out) : w7.heap[w2.heap.size + 1 + 1 + 1]? = some (.cells #[.string ⟨#[72, 79, 83, 84]⟩, .string ⟨#[111, 116, 104, 101, 114]⟩] 36 (0, 0)))
    have HR7 := Aside0.mk ((by rw [← hw7, ← hLF]; exact six_far HO6.out (by have := HS3.out; omega)) : Kd.R k36 36 w7 w3.heap.size (fun _ => True) (.slice AF LF.length cF) LF)
    have HB27 := Aside0.mk ((by rw [← hw7]; exact six_below (HB23.out.trans (HB6.out.mono HB23.out.size)) (Nat.le_refl _)) : Below w2.heap.size w2 w7)
    have HB7 := Aside0.mk (HB2.out.trans (HB27.out.mono HB2.out.size))
    have HS7 := Aside0.mk ((by rw [← hw7, six_size]; exact HS6.out) : w2.heap.size + 1 + 1 + 1 + 1 ≤ w7.heap.size)
    rw [hlen]
    clear hw7 hLF hlen
    obtain ⟨x0, x1, x2, x3, x4, x5, x6⟩ := seven_cells HE7.out
    go_wp2_with fail
    clear x0 x1 x2 x3 x4 x5 x6
    with_reducible refine (drop_host A1' c1' L1 w7.heap.size _ (Kd.C_below (HI1.out.below HB27.out).rd (below_alloc (Below.refl _ _) _)) HI1.out.cap HI1.out.few (heap_alloc_new w7 _)).mono ?_
    rintro e w8 ⟨vE, rfl, hvE, hb8⟩
    obtain ⟨AE, cE, rfl, hlE, _⟩ := Kd.R_reads hvE
    have HD8 := Aside0.mk (Kd.R_lower (base' := w7.heap.size) hvE (by simp))
    have HB8 := Aside0.mk ((below_alloc (Below.refl w7.heap.size w7) _).trans (hb8.mono (by simp)))
    have HKG := Aside0.mk (key_right L1 ⟨#[111, 116, 104, 101, 114]⟩ ⟨#[71, 69, 84, 32, 111, 116, 104, 101, 114, 32, 47, 97, 47, 98, 47, 126, 63, 113]⟩ (by decide +kernel))
    have HFE := Aside0.mk (And.intro (Nat.le_trans (List.length_filter_le _ _) HN0.out.2 : (dropF L1 [⟨#[104, 111, 115, 116]⟩]).length ≤ 6) (dropF_few HI1.out.few [⟨#[104, 111, 115, 116]⟩]))
    generalize dropF L1 [⟨#[104, 111, 115, 116]⟩] = E0 at *
    clear hvE hb8
    have HE8 := Aside0.mk ((HB8.out.block _ (by have := HS7.out; omega)).trans HE7.out)
    have HC8 := Aside0.mk (lit36_C w8 (w2.heap.size + 1 + 1 + 1) _ [(⟨⟨#[72, 79, 83, 84]⟩, ⟨#[111, 116, 104, 101, 114]⟩⟩ : S36)] ((HB8.out.block _ (by have := HS7.out; omega)).trans HY7.out) rfl (by decide))
    obtain ⟨x0, x1, x2, x3, x4, x5, x6⟩ := seven_cells HE8.out
    have f0 := blk_frozen HE8.out 0
    have f1 := blk_frozen HE8.out 1
    have f2 := blk_frozen HE8.out 2
    have f3 := blk_frozen HE8.out 3
    have f4 := blk_frozen HE8.out 4
    have f5 := blk_frozen HE8.out 5
    go_upto_region 10 with (at_builtin; refine Kd.R_append_rows k36 (w0 := w7) w7.heap.size rfl (.tmp 46) (.tmp 47) 23 36 (.agg #[(.string ⟨#[]⟩), (.string ⟨#[]⟩)]) 32 rfl Tryz.underlying23 info36 rfl (by decide) (by omega) (.slice AE E0.length cE) E0 [(⟨⟨#[72, 79, 83, 84]⟩, ⟨#[111, 116, 104, 101, 114]⟩⟩ : S36)] (some ⟨w2.heap.size + 1 + 1 + 1, 0, none⟩) 1 1 (fun _ => True) (fun _ => False) rfl rfl ?aO ?aR (fun _ _ h => h) (fun _ h => h.elim) ?aF ?aB ?aS ?aL ?_; (case aO => exact HD8.out); (case aR => exact HC8.out); (case aF => exact (fun _ _ => trivial)); (case aB => exact HB8.out); (case aS => exact HB8.out.size); (case aL => have := HFE.out.1; omega); intro v2 w9 ho hb hg hat; obtain ⟨AG, cG, rfl, hlG, _⟩ := Kd.R_reads ho; have HO9 := Aside0.mk ho; have HB9 := Aside0.mk hb; have HE9 := Aside0.mk ((hb.block _ (by have := HS7.out; omega)).trans HE7.out); clear ho hb hg hat x0 x1 x2 x3 x4 x5 x6 f0 f1 f2 f3 f4 f5; obtain ⟨x0, x1, x2, x3, x4, x5, x6⟩ := seven_cells HE9.out; have f0 := blk_frozen HE9.out 0; have f1 := blk_frozen HE9.out 1; have f2 := blk_frozen HE9.out 2; have f3 := blk_frozen HE9.out 3; have f4 := blk_frozen HE9.out 4; have f5 := blk_frozen HE9.out 5)
    generalize hw10 : (((((w9.setCell ⟨w2.heap.size + 1, 0, none⟩ (.string ⟨#[71, 69, 84]⟩)).setCell ⟨w2.heap.size + 1, 1, none⟩ (.string ⟨#[47, 97, 47, 99, 47, 46, 46, 47, 98, 47, 126, 63, 113]⟩)).setCell ⟨w2.heap.size + 1, 2, none⟩ (.int .i64 0)).setCell ⟨w2.heap.size + 1, 3, none⟩ (.string ⟨#[]⟩)).setCell ⟨w2.heap.size + 1, 4, none⟩ (.int .i64 0)).setCell ⟨w2.heap.size + 1, 5, none⟩ (.slice AG (E0.length + 1) cG) = w10
    clear x0 x1 x2 x3 x4 x5 x6 f0 f1 f2 f3 f4 f5
    obtain ⟨LG, hLG⟩ : ∃ LG, E0 ++ [(⟨⟨#[72, 79, 83, 84]⟩, ⟨#[111, 116, 104, 101, 114]⟩⟩ : S36)] = LG := ⟨_, rfl⟩
    have hlen : E0.length + 1 = LG.length := by rw [← hLG]; simp
    have HKG' := Aside0.mk ((by rw [← hLG]; exact HKG.out) : keyS ⟨#[71, 69, 84]⟩ ⟨#[47, 97, 47, 99, 47, 46, 46, 47, 98, 47, 126, 63, 113]⟩ LG = (⟨#[71, 69, 84, 32, 111, 116, 104, 101, 114, 32, 47, 97, 47, 98, 47, 126, 63, 113]⟩, 0))
    have HFG := Aside0.mk ((by rw [← hLG]; exact few_snoc (by decide) HFE.out) : Few LG)
    have HE10 := Aside0.mk ((by rw [← hw10, ← hlen]; exact six7_put HE9.out) : w10.heap[w2.heap.size + 1]? = some (.cells #[.string ⟨#[71, 69, 84]⟩, .string ⟨#[47, 97, 47, 99, 47, 46, 46, 47, 98, 47, 126, 63, 113]⟩, .int .i64 0, .string ⟨#[]⟩, .int .i64 0, .slice AG LG.length cG, .string bx1] 27 (0, 0)))
    have HA10 := Aside0.mk ((by rw [← hw10]; exact (six_other (by omega)).trans ((HB9.out.block _ (by have := HS7.out; omega)).trans HA7.out)) : w10.heap[w2.heap.size]? = some (.cells #[.string ⟨#[71, 69, 84]⟩, .string ⟨#[47, 97, 47, 46, 47, 98, 47, 37, 55, 101, 63, 113]⟩, .int .i64 0, .string ⟨#[]⟩, .int .i64 1, .slice AF LF.length cF, .string bx0] 27 (0, 0)))
    have HRF := Aside0.mk ((by rw [← hw10]; exact six_far (Kd.R_below HR7.out HB9.out) (by have := HS3.out; omega)) : Kd.R k36 36 w10 w3.heap.size (fun _ => True) (.slice AF LF.length cF) LF)
    have HRG := Aside0.mk ((by rw [← hw10, ← hLG]; exact six_far HO9.out (by have := HS7.out; omega)) : Kd.R k36 36 w10 w7.heap.size (fun _ => True) (.slice AG LG.length cG) LG)
    have HB10 := Aside0.mk ((by rw [← hw10]; exact six_below (HB7.out.trans (HB9.out.mono HB7.out.size)) (by have := HB2.out.size; omega)) : Below w.heap.size w w10)
    have HS10 := Aside0.mk ((by rw [← hw10, six_size]; have := HS7.out; have := HB9.out.size; omega) : w2.heap.size + 1 < w10.heap.size)
    rw [hlen]
    clear hw10 hLG hlen
    have HK1 := Aside0.mk (fun (W : World) (h : Below w10.heap.size w10 W) => key_calls ⟨⟨#[71, 69, 84]⟩, ⟨#[47, 97, 47, 46, 47, 98, 47, 37, 55, 101, 63, 113]⟩, 0, ⟨#[]⟩, 1, AF, cF, LF⟩ bx0 W (Hd.In.below ⟨(Kd.R_reads' HRF.out).2.2, (Kd.R_reads' HRF.out).2.1, HFF.out⟩ h) (by decide : (⟨#[71, 69, 84]⟩ : ByteArray).size ≤ 1000000000) (by decide : (⟨#[47, 97, 47, 46, 47, 98, 47, 37, 55, 101, 63, 113]⟩ : ByteArray).size ≤ 1000000000))
    have HK2 := Aside0.mk (fun (W : World) (h : Below w10.heap.size w10 W) => key_calls ⟨⟨#[71, 69, 84]⟩, ⟨#[47, 97, 47, 99, 47, 46, 46, 47, 98, 47, 126, 63, 113]⟩, 0, ⟨#[]⟩, 0, AG, cG, LG⟩ bx1 W (Hd.In.below ⟨(Kd.R_reads' HRG.out).2.2, (Kd.R_reads' HRG.out).2.1, HFG.out⟩ h) (by decide : (⟨#[71, 69, 84]⟩ : ByteArray).size ≤ 1000000000) (by decide : (⟨#[47, 97, 47, 99, 47, 46, 46, 47, 98, 47, 126, 63, 113]⟩ : ByteArray).size ≤ 1000000000))
    simp only [Hd.mv, HKF.out, HKG'.out] at HK1 HK2
    obtain ⟨x0, x1, x2, x3, x4, x5, x6⟩ := seven_cells HA10.out
    go_wp2_with fail
    clear x0 x1 x2 x3 x4 x5 x6
    with_reducible refine (HK1.out _ (Below.refl _ _)).mono ?_
    rintro e w11 ⟨rfl, hb11⟩
    have HB11 := Aside0.mk hb11
    clear hb11
    obtain ⟨x0, x1, x2, x3, x4, x5, x6⟩ := seven_cells ((HB11.out.block _ HS10.out).trans HE10.out)
    go_wp2_with fail
    clear x0 x1 x2 x3 x4 x5 x6
    with_reducible refine (HK2.out _ HB11.out).mono ?_
    rintro e w12 ⟨rfl, hb12⟩
    have HB12 := Aside0.mk (belTrans hb12 HB11.out)
    clear hb12
    go_wp2_with fail
    go_ret
    exact ⟨rfl, HB10.out.trans (HB12.out.mono HB10.out.size)⟩
  · obtain ⟨rc, hrc⟩ : ∃ r : Nat, a2 % 3 = (r : Int) := ⟨(a2 % 3).toNat, by omega⟩
    have hr1 : 0 < rc := by omega
    have hr3 : rc < 3 := by omega
    clear hz
    have e1 : ((rc : Int) == 0) = false := by rw [beq_eq_false_iff_ne]; omega
    have e2 : decide ((0 : Int) < (rc : Int)) = true := decide_eq_true (by omega)
    have e3 : decide (0 < rc) = true := decide_eq_true hr1
    go_enter Tryz.func7, Tryz.ntmps7
    go_wp2_with fail
    with_reducible refine (awake_calls _).mono ?_
    rintro e w0 ⟨rfl, hB⟩
    have HB0 := Aside0.mk hB
    clear hB
    go_wp2_with fail
    with_reducible refine (HC0.out _ HB0.out).mono ?_
    rintro e w1 ⟨⟨m0, t0, s0, r0, mi0, A0', c0', L0⟩, bx0, rfl, _, ho, hb⟩
    simp only [Hd.mv]
    have HB1 := Aside0.mk (HB0.out.trans (hb.mono HB0.out.size))
    have HO0 := Aside0.mk ho
    clear ho hb
    go_wp2_with fail
    with_reducible refine (HC1.out _ HB1.out).mono ?_
    rintro e w2 ⟨⟨m1, t1, s1, r1, mi1, A1', c1', L1⟩, bx1, rfl, _, ho, hb⟩
    simp only [Hd.mv]
    have HB2 := Aside0.mk (HB1.out.trans (hb.mono HB1.out.size))
    have HO1 := Aside0.mk ho
    replace HO0 := Aside0.mk (HO0.out.below hb)
    clear ho hb
    go_wp2_with fail
    generalize hw3 : (w2.alloc (.cells #[.string m0, .string t0, .int .i64 s0, .string r0, .int .i64 mi0, .slice A0' L0.length c0', .string bx0] 27)).alloc (.cells #[.string m1, .string t1, .int .i64 s1, .string r1, .int .i64 mi1, .slice A1' L1.length c1', .string bx1] 27) = w3
    have hb3 : Below w2.heap.size w2 w3 := by rw [← hw3]; exact below_alloc (below_alloc (Below.refl _ _) _) _
    have hs3 : w3.heap.size = w2.heap.size + 1 + 1 := by rw [← hw3]; simp
    have HA3 := Aside0.mk ((by rw [← hw3]; (repeat' first | exact at_new (by first | rfl | (simp; done)) | (refine at_old (by first | (simp; done) | (simp; omega)) ?_))) : w3.heap[w2.heap.size]? = some (.cells #[.string m0, .string t0, .int .i64 s0, .string r0, .int .i64 mi0, .slice A0' L0.length c0', .string bx0] 27 (0, 0)))
    have HE3 := Aside0.mk ((by rw [← hw3]; (repeat' first | exact at_new (by first | rfl | (simp; done)) | (refine at_old (by first | (simp; done) | (simp; omega)) ?_))) : w3.heap[w2.heap.size + 1]? = some (.cells #[.string m1, .string t1, .int .i64 s1, .string r1, .int .i64 mi1, .slice A1' L1.length c1', .string bx1] 27 (0, 0)))
    have HB3 := Aside0.mk (HB2.out.trans (hb3.mono HB2.out.size))
    have HS3 := Aside0.mk hs3
    have HI0 := Aside0.mk ((HO0.out.below hb3).in_)
    have HI1 := Aside0.mk (HO1.out.in_)
    have HB23 := Aside0.mk hb3
    have HN0 := Aside0.mk (And.intro HO0.out.len HO1.out.len)
    clear hb3 hw3
    generalize hw4 : (w3.alloc (.cells #[.string ⟨#[72, 111, 115, 116]⟩, .string ⟨#[104, 46, 88]⟩] 36)).alloc (.cells #[.string ⟨#[72, 79, 83, 84]⟩, .string ⟨#[72, 46, 120]⟩] 36) = w4
    have hb4 : Below w3.heap.size w3 w4 := by rw [← hw4]; exact below_alloc (below_alloc (Below.refl _ _) _) _
    have hs4 : w4.heap.size = w2.heap.size + 1 + 1 + 1 + 1 := by rw [← hw4]; simp; omega
    have HR4 := Aside0.mk ((by rw [← hw4]; exact Kd.R_alloc (litR w3 w3.heap.size (w2.heap.size + 1 + 1) hs3.symm (by omega) (⟨⟨#[72, 111, 115, 116]⟩, ⟨#[104, 46, 88]⟩⟩ : S36) (fun _ => True) trivial) _) : Kd.R k36 36 w4 w3.heap.size (fun _ => True) (.slice (some ⟨w2.heap.size + 1 + 1, 0, none⟩) 1 1) [(⟨⟨#[72, 111, 115, 116]⟩, ⟨#[104, 46, 88]⟩⟩ : S36)])
    have HY4 := Aside0.mk ((by rw [← hw4, ← hs3]; have q := heap_alloc_new (w3.alloc (.cells #[.string ⟨#[72, 111, 115, 116]⟩, .string ⟨#[104, 46, 88]⟩] 36)) (.cells #[.string ⟨#[72, 79, 83, 84]⟩, .string ⟨#[72, 46, 120]⟩] 36); rwa [show (w3.alloc (.cells #[.string ⟨#[72, 111, 115, 116]⟩, .string ⟨#[104, 46, 88]⟩] 36)).heap.size = w3.heap.size + 1 by simp] at q) : w4.heap[w2.heap.size + 1 + 1 + 1]? = some (.cells #[.string ⟨#[72, 79, 83, 84]⟩, .string ⟨#[72, 46, 120]⟩] 36 (0, 0)))
    have HB4 := Aside0.mk hb4
    have HS4 := Aside0.mk hs4
    clear hb4 hs4 hs3 hw4
    with_reducible refine (drop_host A0' c0' L0 (w2.heap.size + 1 + 1 + 1 + 1) _ (Kd.C_below (Kd.C_below HI0.out.rd HB4.out) (below_alloc (Below.refl _ _) _)) HI0.out.cap HI0.out.few (by rw [← HS4.out]; exact heap_alloc_new w4 _)).mono ?_
    rintro e w5 ⟨vD, rfl, hvD, hb5⟩
    obtain ⟨AD, cD, rfl, hlD, _⟩ := Kd.R_reads hvD
    have HD5 := Aside0.mk hvD
    have HB5 := Aside0.mk ((below_alloc (Below.refl w4.heap.size w4) _).trans (hb5.mono (by simp)))
    have HFD := Aside0.mk (And.intro (Nat.le_trans (List.length_filter_le _ _) HN0.out.1 : (dropF L0 [⟨#[104, 111, 115, 116]⟩]).length ≤ 6) (dropF_few HI0.out.few [⟨#[104, 111, 115, 116]⟩]))
    generalize dropF L0 [⟨#[104, 111, 115, 116]⟩] = D0 at *
    clear hvD hb5
    have HA5 := Aside0.mk ((HB5.out.block _ (by have := HS4.out; omega)).trans ((HB4.out.block _ (by have := HS3.out; omega)).trans HA3.out))
    have HR5 := Aside0.mk (Kd.R_below HR4.out HB5.out)
    have HB35 := Aside0.mk (HB4.out.trans (HB5.out.mono HB4.out.size))
    obtain ⟨x0, x1, x2, x3, x4, x5, x6⟩ := seven_cells HA5.out
    have f0 := blk_frozen HA5.out 0
    have f1 := blk_frozen HA5.out 1
    have f2 := blk_frozen HA5.out 2
    have f3 := blk_frozen HA5.out 3
    have f4 := blk_frozen HA5.out 4
    have f5 := blk_frozen HA5.out 5
    go_upto_region 9 with (at_builtin; refine Kd.R_append_rows k36 (w0 := w3) w3.heap.size rfl (.tmp 33) (.tmp 38) 23 36 (.agg #[(.string ⟨#[]⟩), (.string ⟨#[]⟩)]) 32 rfl Tryz.underlying23 info36 rfl (by decide) (by omega) (.slice (some ⟨w2.heap.size + 1 + 1, 0, none⟩) 1 1) [(⟨⟨#[72, 111, 115, 116]⟩, ⟨#[104, 46, 88]⟩⟩ : S36)] D0 AD D0.length cD (fun _ => True) (fun _ => False) rfl rfl ?aO ?aR (fun _ _ h => h) (fun _ h => h.elim) ?aF ?aB ?aS ?aL ?_; (case aO => exact HR5.out); (case aR => exact (Kd.R_reads' HD5.out).2.2); (case aF => exact (fun _ _ => trivial)); (case aB => exact HB35.out); (case aS => exact HB35.out.size); (case aL => have := HFD.out.1; simp only [List.length_cons, List.length_nil]; omega); intro v1 w6 ho hb hg hat; obtain ⟨AF, cF, rfl, hlF, _⟩ := Kd.R_reads ho; have HO6 := Aside0.mk ho; have HB6 := Aside0.mk hb; have HA6 := Aside0.mk ((hb.block _ (by have := HS3.out; omega)).trans HA3.out); have HE6 := Aside0.mk ((hb.block _ (by have := HS3.out; omega)).trans HE3.out); have HY6 := Aside0.mk ((hg.block _ (by have := HS4.out; have := HB5.out.size; omega) (by simp [Value.ownBlock])).trans ((HB5.out.block _ (by have := HS4.out; omega)).trans HY4.out)); have hs6 : w2.heap.size + 1 + 1 + 1 + 1 ≤ w6.heap.size := (by have := hg.size; have := HS4.out; have := HB5.out.size; omega); have HS6 := Aside0.mk hs6; clear ho hb hg hat hs6 x0 x1 x2 x3 x4 x5 x6 f0 f1 f2 f3 f4 f5; obtain ⟨x0, x1, x2, x3, x4, x5, x6⟩ := seven_cells HA6.out; have f0 := blk_frozen HA6.out 0; have f1 := blk_frozen HA6.out 1; have f2 := blk_frozen HA6.out 2; have f3 := blk_frozen HA6.out 3; have f4 := blk_frozen HA6.out 4; have f5 := blk_frozen HA6.out 5)
    generalize hw7 : (((((w6.setCell ⟨w2.heap.size, 0, none⟩ (.string ⟨#[71, 69, 84]⟩)).setCell ⟨w2.heap.size, 1, none⟩ (.string ⟨#[47, 97, 47, 46, 47, 98, 47, 37, 55, 101, 63, 113]⟩)).setCell ⟨w2.heap.size, 2, none⟩ (.int .i64 0)).setCell ⟨w2.heap.size, 3, none⟩ (.string ⟨#[]⟩)).setCell ⟨w2.heap.size, 4, none⟩ (.int .i64 1)).setCell ⟨w2.heap.size, 5, none⟩ (.slice AF (D0.length + 1) cF) = w7
    clear x0 x1 x2 x3 x4 x5 x6 f0 f1 f2 f3 f4 f5
    obtain ⟨LF, hLF⟩ : ∃ LF, [(⟨⟨#[72, 111, 115, 116]⟩, ⟨#[104, 46, 88]⟩⟩ : S36)] ++ D0 = LF := ⟨_, rfl⟩
    have hlen : D0.length + 1 = LF.length := by rw [← hLF]; simp
    have HKF := Aside0.mk ((by rw [← hLF]; exact key_left D0) : keyS ⟨#[71, 69, 84]⟩ ⟨#[47, 97, 47, 46, 47, 98, 47, 37, 55, 101, 63, 113]⟩ LF = (⟨#[71, 69, 84, 32, 104, 46, 120, 32, 47, 97, 47, 98, 47, 126, 63, 113]⟩, 0))
    have HFF := Aside0.mk ((by rw [← hLF]; exact few_cons (by decide) HFD.out) : Few LF)
    have HA7 := Aside0.mk ((by rw [← hw7, ← hlen]; exact six7_put HA6.out) : w7.heap[w2.heap.size]? = some (.cells #[.string ⟨#[71, 69, 84]⟩, .string ⟨#[47, 97, 47, 46, 47, 98, 47, 37, 55, 101, 63, 113]⟩, .int .i64 0, .string ⟨#[]⟩, .int .i64 1, .slice AF LF.length cF, .string bx0] 27 (0, 0)))
    have HE7 := Aside0.mk ((by rw [← hw7]; exact (six_other (by omega)).trans HE6.out) : w7.heap[w2.heap.size + 1]? = some (.cells #[.string m1, .string t1, .int .i64 s1, .string r1, .int .i64 mi1, .slice A1' L1.length c1', .string bx1] 27 (0, 0)))
    have HY7 := Aside0.mk ((by rw [← hw7]; exact (six_other (by omega)).trans HY6.out) : w7.heap[w2.heap.size + 1 + 1 + 1]? = some (.cells #[.string ⟨#[72, 79, 83, 84]⟩, .string ⟨#[72, 46, 120]⟩] 36 (0, 0)))
    have HR7 := Aside0.mk ((by rw [← hw7, ← hLF]; exact six_far HO6.out (by have := HS3.out; omega)) : Kd.R k36 36 w7 w3.heap.size (fun _ => True) (.slice AF LF.length cF) LF)
    have HB27 := Aside0.mk ((by rw [← hw7]; exact six_below (HB23.out.trans (HB6.out.mono HB23.out.size)) (Nat.le_refl _)) : Below w2.heap.size w2 w7)
    have HB7 := Aside0.mk (HB2.out.trans (HB27.out.mono HB2.out.size))
    have HS7 := Aside0.mk ((by rw [← hw7, six_size]; exact HS6.out) : w2.heap.size + 1 + 1 + 1 + 1 ≤ w7.heap.size)
    rw [hlen]
    clear hw7 hLF hlen
    obtain ⟨x0, x1, x2, x3, x4, x5, x6⟩ := seven_cells HE7.out
    go_wp2_with fail
    clear x0 x1 x2 x3 x4 x5 x6
    with_reducible refine (drop_host A1' c1' L1 w7.heap.size _ (Kd.C_below (HI1.out.below HB27.out).rd (below_alloc (Below.refl _ _) _)) HI1.out.cap HI1.out.few (heap_alloc_new w7 _)).mono ?_
    rintro e w8 ⟨vE, rfl, hvE, hb8⟩
    obtain ⟨AE, cE, rfl, hlE, _⟩ := Kd.R_reads hvE
    have HD8 := Aside0.mk (Kd.R_lower (base' := w7.heap.size) hvE (by simp))
    have HB8 := Aside0.mk ((below_alloc (Below.refl w7.heap.size w7) _).trans (hb8.mono (by simp)))
    have HKG := Aside0.mk (key_right L1 ⟨#[72, 46, 120]⟩ ⟨#[71, 69, 84, 32, 104, 46, 120, 32, 47, 97, 47, 98, 47, 126, 63, 113]⟩ (by decide +kernel))
    have HFE := Aside0.mk (And.intro (Nat.le_trans (List.length_filter_le _ _) HN0.out.2 : (dropF L1 [⟨#[104, 111, 115, 116]⟩]).length ≤ 6) (dropF_few HI1.out.few [⟨#[104, 111, 115, 116]⟩]))
    generalize dropF L1 [⟨#[104, 111, 115, 116]⟩] = E0 at *
    clear hvE hb8
    have HE8 := Aside0.mk ((HB8.out.block _ (by have := HS7.out; omega)).trans HE7.out)
    have HC8 := Aside0.mk (lit36_C w8 (w2.heap.size + 1 + 1 + 1) _ [(⟨⟨#[72, 79, 83, 84]⟩, ⟨#[72, 46, 120]⟩⟩ : S36)] ((HB8.out.block _ (by have := HS7.out; omega)).trans HY7.out) rfl (by decide))
    obtain ⟨x0, x1, x2, x3, x4, x5, x6⟩ := seven_cells HE8.out
    have f0 := blk_frozen HE8.out 0
    have f1 := blk_frozen HE8.out 1
    have f2 := blk_frozen HE8.out 2
    have f3 := blk_frozen HE8.out 3
    have f4 := blk_frozen HE8.out 4
    have f5 := blk_frozen HE8.out 5
    go_upto_region 10 with (at_builtin; refine Kd.R_append_rows k36 (w0 := w7) w7.heap.size rfl (.tmp 46) (.tmp 47) 23 36 (.agg #[(.string ⟨#[]⟩), (.string ⟨#[]⟩)]) 32 rfl Tryz.underlying23 info36 rfl (by decide) (by omega) (.slice AE E0.length cE) E0 [(⟨⟨#[72, 79, 83, 84]⟩, ⟨#[72, 46, 120]⟩⟩ : S36)] (some ⟨w2.heap.size + 1 + 1 + 1, 0, none⟩) 1 1 (fun _ => True) (fun _ => False) rfl rfl ?aO ?aR (fun _ _ h => h) (fun _ h => h.elim) ?aF ?aB ?aS ?aL ?_; (case aO => exact HD8.out); (case aR => exact HC8.out); (case aF => exact (fun _ _ => trivial)); (case aB => exact HB8.out); (case aS => exact HB8.out.size); (case aL => have := HFE.out.1; omega); intro v2 w9 ho hb hg hat; obtain ⟨AG, cG, rfl, hlG, _⟩ := Kd.R_reads ho; have HO9 := Aside0.mk ho; have HB9 := Aside0.mk hb; have HE9 := Aside0.mk ((hb.block _ (by have := HS7.out; omega)).trans HE7.out); clear ho hb hg hat x0 x1 x2 x3 x4 x5 x6 f0 f1 f2 f3 f4 f5; obtain ⟨x0, x1, x2, x3, x4, x5, x6⟩ := seven_cells HE9.out; have f0 := blk_frozen HE9.out 0; have f1 := blk_frozen HE9.out 1; have f2 := blk_frozen HE9.out 2; have f3 := blk_frozen HE9.out 3; have f4 := blk_frozen HE9.out 4; have f5 := blk_frozen HE9.out 5)
    generalize hw10 : (((((w9.setCell ⟨w2.heap.size + 1, 0, none⟩ (.string ⟨#[71, 69, 84]⟩)).setCell ⟨w2.heap.size + 1, 1, none⟩ (.string ⟨#[47, 97, 47, 99, 47, 46, 46, 47, 98, 47, 126, 63, 113]⟩)).setCell ⟨w2.heap.size + 1, 2, none⟩ (.int .i64 0)).setCell ⟨w2.heap.size + 1, 3, none⟩ (.string ⟨#[]⟩)).setCell ⟨w2.heap.size + 1, 4, none⟩ (.int .i64 0)).setCell ⟨w2.heap.size + 1, 5, none⟩ (.slice AG (E0.length + 1) cG) = w10
    clear x0 x1 x2 x3 x4 x5 x6 f0 f1 f2 f3 f4 f5
    obtain ⟨LG, hLG⟩ : ∃ LG, E0 ++ [(⟨⟨#[72, 79, 83, 84]⟩, ⟨#[72, 46, 120]⟩⟩ : S36)] = LG := ⟨_, rfl⟩
    have hlen : E0.length + 1 = LG.length := by rw [← hLG]; simp
    have HKG' := Aside0.mk ((by rw [← hLG]; exact HKG.out) : keyS ⟨#[71, 69, 84]⟩ ⟨#[47, 97, 47, 99, 47, 46, 46, 47, 98, 47, 126, 63, 113]⟩ LG = (⟨#[71, 69, 84, 32, 104, 46, 120, 32, 47, 97, 47, 98, 47, 126, 63, 113]⟩, 0))
    have HFG := Aside0.mk ((by rw [← hLG]; exact few_snoc (by decide) HFE.out) : Few LG)
    have HE10 := Aside0.mk ((by rw [← hw10, ← hlen]; exact six7_put HE9.out) : w10.heap[w2.heap.size + 1]? = some (.cells #[.string ⟨#[71, 69, 84]⟩, .string ⟨#[47, 97, 47, 99, 47, 46, 46, 47, 98, 47, 126, 63, 113]⟩, .int .i64 0, .string ⟨#[]⟩, .int .i64 0, .slice AG LG.length cG, .string bx1] 27 (0, 0)))
    have HA10 := Aside0.mk ((by rw [← hw10]; exact (six_other (by omega)).trans ((HB9.out.block _ (by have := HS7.out; omega)).trans HA7.out)) : w10.heap[w2.heap.size]? = some (.cells #[.string ⟨#[71, 69, 84]⟩, .string ⟨#[47, 97, 47, 46, 47, 98, 47, 37, 55, 101, 63, 113]⟩, .int .i64 0, .string ⟨#[]⟩, .int .i64 1, .slice AF LF.length cF, .string bx0] 27 (0, 0)))
    have HRF := Aside0.mk ((by rw [← hw10]; exact six_far (Kd.R_below HR7.out HB9.out) (by have := HS3.out; omega)) : Kd.R k36 36 w10 w3.heap.size (fun _ => True) (.slice AF LF.length cF) LF)
    have HRG := Aside0.mk ((by rw [← hw10, ← hLG]; exact six_far HO9.out (by have := HS7.out; omega)) : Kd.R k36 36 w10 w7.heap.size (fun _ => True) (.slice AG LG.length cG) LG)
    have HB10 := Aside0.mk ((by rw [← hw10]; exact six_below (HB7.out.trans (HB9.out.mono HB7.out.size)) (by have := HB2.out.size; omega)) : Below w.heap.size w w10)
    have HS10 := Aside0.mk ((by rw [← hw10, six_size]; have := HS7.out; have := HB9.out.size; omega) : w2.heap.size + 1 < w10.heap.size)
    rw [hlen]
    clear hw10 hLG hlen
    have HK1 := Aside0.mk (fun (W : World) (h : Below w10.heap.size w10 W) => key_calls ⟨⟨#[71, 69, 84]⟩, ⟨#[47, 97, 47, 46, 47, 98, 47, 37, 55, 101, 63, 113]⟩, 0, ⟨#[]⟩, 1, AF, cF, LF⟩ bx0 W (Hd.In.below ⟨(Kd.R_reads' HRF.out).2.2, (Kd.R_reads' HRF.out).2.1, HFF.out⟩ h) (by decide : (⟨#[71, 69, 84]⟩ : ByteArray).size ≤ 1000000000) (by decide : (⟨#[47, 97, 47, 46, 47, 98, 47, 37, 55, 101, 63, 113]⟩ : ByteArray).size ≤ 1000000000))
    have HK2 := Aside0.mk (fun (W : World) (h : Below w10.heap.size w10 W) => key_calls ⟨⟨#[71, 69, 84]⟩, ⟨#[47, 97, 47, 99, 47, 46, 46, 47, 98, 47, 126, 63, 113]⟩, 0, ⟨#[]⟩, 0, AG, cG, LG⟩ bx1 W (Hd.In.below ⟨(Kd.R_reads' HRG.out).2.2, (Kd.R_reads' HRG.out).2.1, HFG.out⟩ h) (by decide : (⟨#[71, 69, 84]⟩ : ByteArray).size ≤ 1000000000) (by decide : (⟨#[47, 97, 47, 99, 47, 46, 46, 47, 98, 47, 126, 63, 113]⟩ : ByteArray).size ≤ 1000000000))
    simp only [Hd.mv, HKF.out, HKG'.out] at HK1 HK2
    obtain ⟨x0, x1, x2, x3, x4, x5, x6⟩ := seven_cells HA10.out
    go_wp2_with fail
    clear x0 x1 x2 x3 x4 x5 x6
    with_reducible refine (HK1.out _ (Below.refl _ _)).mono ?_
    rintro e w11 ⟨rfl, hb11⟩
    have HB11 := Aside0.mk hb11
    clear hb11
    obtain ⟨x0, x1, x2, x3, x4, x5, x6⟩ := seven_cells ((HB11.out.block _ HS10.out).trans HE10.out)
    go_wp2_with fail
    clear x0 x1 x2 x3 x4 x5 x6
    with_reducible refine (HK2.out _ HB11.out).mono ?_
    rintro e w12 ⟨rfl, hb12⟩
    have HB12 := Aside0.mk (belTrans hb12 HB11.out)
    clear hb12
    go_wp2_with fail
    go_ret
    exact ⟨rfl, HB10.out.trans (HB12.out.mono HB10.out.size)⟩
end Go.Proofs.YtalafpigfeiaiaaGreatDoor.Q
end
section
namespace Go.Proofs.YtalafpigfeiaiaaGreatDoor.keySame
open Go.ChangeShapes Go.WideShapes Go.ChangeAt Go.RowKit
open Go.ChangeMaps (open_string shut_string)
set_option linter.unusedVariables false
theorem own : ownKnob Tryz.prog.godebug = none := by kernel_rfl
theorem laidOut : laidOutB Tryz.prog = true := by kernel_rfl
def IsRow (k : IntKind) (w : World) (a : Option Addr) (len cap : Nat) (zs : List Int) : Prop :=
  (a = none ∧ len = 0 ∧ cap = 0 ∧ zs = []) ∨
  ∃ x, a = some x ∧ len ≤ cap ∧ cap ≤ maxLen ∧ zs.length = cap ∧ (∀ i, i < zs.length → w.cell? (x.add i) = some (.int k (zs.getD i 0))) ∧ ∀ n ∈ zs, (Lit.int k n).wf = true
theorem bytes_of {l : List Int} (h : ∀ x ∈ l, (Lit.int .u8 x).wf = true) : ∀ x ∈ l, 0 ≤ x ∧ x < 256 := fun x hx => by
  have := h x hx
  have h2 : 0 ≤ x ∧ x ≤ 255 := by simpa [Lit.wf, IntKind.min, IntKind.max, IntKind.signed, IntKind.bits] using this
  omega
set_option maxRecDepth 100000 in
theorem contract (H : Type) (enc : TypeId × Value → H) (W : World) (base : Nat) (args : Array Value) (ds gs : List (DataW H)) (before : List MemPlace)
    (hval0 : ∀ (j : Nat) t v, Tryz.f7.params[j]? = some t → args[j]? = some v → Value.okWide Tryz.prog W .any base t v)
    (hW : DataW.Whole enc Tryz.prog Tryz.f7.params.toList Rows.keySameSpec.vars false W args.toList ds gs before) :
    Calls Tryz.prog 7 args W fun e W' => ∃ v, e = .returned v ∧ Rows.keySameSpec.post enc Tryz.prog Tryz.f7 false true false false W args v W' := by
  have hval : ∀ (j : Nat) t v, Tryz.f7.params[j]? = some t → args[j]? = some v → Value.okWide Tryz.prog W .any base t v := hval0
  have hW' := hW
  obtain ⟨p, q, hA0, hV, rfl, hfz, hnd⟩ := hW
  have hA : DataW.TrodAll enc Tryz.prog W 0 (fun _ => true) true Tryz.f7.params.toList args.toList ds p := hA0
  rw [Tryz.params7] at hA hval
  obtain ⟨v0, vs0, d0, ds0, p0, q0, hargs, rfl, rfl, h0, r0⟩ := trodAll_cons hA
  obtain ⟨v1, vs1, d1, ds1, p1, q1, rfl, rfl, rfl, h1, r1⟩ := trodAll_cons r0
  obtain ⟨v2, vs2, d2, ds2, p2, q2, rfl, rfl, rfl, h2, r2⟩ := trodAll_cons r1
  obtain ⟨rfl, rfl, rfl⟩ := trodAll_nil r2
  obtain rfl : args = #[v0, v1, v2] := by cases args; simp_all
  obtain ⟨rfl, rfl⟩ := trodVars_none hV
  obtain ⟨a0, len0, cap0, rfl⟩ := okWide_slice Tryz.underlying22 (hval 0 22 v0 rfl rfl)
  have k0 := h0
  have lt0 : ∀ x ∈ p0, x.block < W.heap.size := by obtain ⟨m, hm⟩ := k0; exact DataW.trod_lt m _ _ _ hm
  obtain ⟨z0, w0⟩ : ∃ zs, IsRow .u8 W a0 len0 cap0 zs := by
    obtain ⟨fuel, hf⟩ := h0
    rcases open_ints Tryz.underlying22 Tryz.underlying5 (by kernel_rfl) hf with ⟨hcs, _⟩ | ⟨x, l, c, zs, hcs, _, hl, hm, hz, _, hcell, hwz⟩
    · simp [Value.cells] at hcs
      obtain ⟨rfl, rfl, rfl⟩ := hcs
      exact ⟨[], .inl ⟨rfl, rfl, rfl, rfl⟩⟩
    · simp [Value.cells] at hcs
      obtain ⟨rfl, rfl, rfl⟩ := hcs
      exact ⟨zs, .inr ⟨_, rfl, hl, hm, by simpa using hz, hcell, hwz⟩⟩
  obtain ⟨l0, rfl, hr0, hm0, hw0, hc0⟩ := Go.Proofs.YtalafpigfeiaiaaGreatDoorW.PrintWords.ReadsInt.ofRowC w0
  obtain ⟨a1, len1, cap1, rfl⟩ := okWide_slice Tryz.underlying22 (hval 1 22 v1 rfl rfl)
  have k1 := h1
  have lt1 : ∀ x ∈ p1, x.block < W.heap.size := by obtain ⟨m, hm⟩ := k1; exact DataW.trod_lt m _ _ _ hm
  obtain ⟨z1, w1⟩ : ∃ zs, IsRow .u8 W a1 len1 cap1 zs := by
    obtain ⟨fuel, hf⟩ := h1
    rcases open_ints Tryz.underlying22 Tryz.underlying5 (by kernel_rfl) hf with ⟨hcs, _⟩ | ⟨x, l, c, zs, hcs, _, hl, hm, hz, _, hcell, hwz⟩
    · simp [Value.cells] at hcs
      obtain ⟨rfl, rfl, rfl⟩ := hcs
      exact ⟨[], .inl ⟨rfl, rfl, rfl, rfl⟩⟩
    · simp [Value.cells] at hcs
      obtain ⟨rfl, rfl, rfl⟩ := hcs
      exact ⟨zs, .inr ⟨_, rfl, hl, hm, by simpa using hz, hcell, hwz⟩⟩
  obtain ⟨l1, rfl, hr1, hm1, hw1, hc1⟩ := Go.Proofs.YtalafpigfeiaiaaGreatDoorW.PrintWords.ReadsInt.ofRowC w1
  obtain ⟨a2, rfl, rfl, rfl, w2⟩ := open_int Tryz.underlying5 (hval 2 5 v2 rfl rfl) h2
  have b2 := bytes_of (l := [a2]) (fun x hx => by rw [List.mem_singleton.1 hx]; exact w2) a2 (List.mem_singleton.2 rfl)
  clear hA0 hval0
  refine (Q.keySame_walk a0 cap0 l0 (Go.Proofs.YtalafpigfeiaiaaGreatDoorW.PrintWords.Kd.C_of_reads (d := (0 : Int)) (h1 := fun _ => rfl) hr0) hc0 (bytes_of hw0) a1 cap1 l1 (Go.Proofs.YtalafpigfeiaiaaGreatDoorW.PrintWords.Kd.C_of_reads (d := (0 : Int)) (h1 := fun _ => rfl) hr1) hc1 (bytes_of hw1) a2 b2).mono fun e W' ⟨he, bel⟩ => ?_
  subst he
  exact ⟨_, rfl, _, _, _, [], _, [], hW', trodAll_mk1 (shut_bool Tryz.underlying4 _), (trodAll_cons_mk (Below.trod laidOut (by kernel_rfl) (of_decide_eq_true (by kernel_rfl)) k0 bel lt0) (trodAll_cons_mk (Below.trod laidOut (by kernel_rfl) (of_decide_eq_true (by kernel_rfl)) k1 bel lt1) (trodAll_cons_mk (shut_int Tryz.underlying5 w2) trodAll_mk0))), rfl, bel.frame _, fun h => by cases h⟩
def numsOf : DataW Unit → Array Value
  | .agg l => (l.map fun | .lit (.int k z) => Value.int k z | _ => .nilIface).toArray
  | _ => #[]
def ranges : Array Value := #[.int .u8 128, .int .u8 191, .int .u8 160, .int .u8 191, .int .u8 128, .int .u8 159, .int .u8 144, .int .u8 191, .int .u8 128, .int .u8 143, .int .u8 0, .int .u8 0, .int .u8 0, .int .u8 0, .int .u8 0, .int .u8 0, .int .u8 0, .int .u8 0, .int .u8 0, .int .u8 0, .int .u8 0, .int .u8 0, .int .u8 0, .int .u8 0, .int .u8 0, .int .u8 0, .int .u8 0, .int .u8 0, .int .u8 0, .int .u8 0, .int .u8 0, .int .u8 0]
def laidAt (h : Array Obj) (i : Nat) (cs : Array Value) : Array Obj := h.modify i fun
  | .cells _ t frozen => .cells cs t frozen
  | o => o
noncomputable def laidWorld (os : Os) : World :=
  { World.holding Tryz.prog os ⟨#[], #[], []⟩ with heap := laidAt (laidAt (World.holding Tryz.prog os ⟨#[], #[], []⟩).heap 2 (numsOf Go.Pinned.utf8First)) 3 ranges }
theorem laid_met (os : Os) : laidMet Tryz.prog Rows.keySameRow.laid ((laidWorld os).forCall (fun _ _ => 0) ⟨#[], #[.slice none 0 0, .slice none 0 0, .int .u8 0], []⟩).memory :=
  laidMet_of_run' 8 (by kernel_rfl) (by kernel_rfl)
theorem reads (os : Os) {H : Type} (enc : TypeId × Value → H) : ∃ places, DataW.whole enc Tryz.prog ((laidWorld os).forCall (fun _ _ => 0) ⟨#[], #[.slice none 0 0, .slice none 0 0, .int .u8 0], []⟩).memory Tryz.f7.params.toList Rows.keySameSpec.vars false (#[Value.slice none 0 0, .slice none 0 0, .int .u8 0] : Array Value).toList 8 = some ([.nil, .nil, .lit (.int .u8 0)], [], places) :=
  ⟨[], by kernel_rfl⟩
set_option maxRecDepth 100000 in
theorem lifted (os : Os) (started : os.Started) (H : Type) (enc : TypeId × Value → H) (F : Stop.Interp) :
    ReturnsInHanded {} Tryz.checked os 7 .any ((OpenSpec.ofChange Rows.keySameSpec).preRow enc Tryz.prog Tryz.f7 Rows.keySameRow.domain false Rows.keySameRow.laid) (((OpenSpec.ofChange Rows.keySameSpec).at F).post enc Tryz.prog Tryz.f7 false true false false) := by
  obtain ⟨places, hx⟩ := reads os enc
  refine returnsInHanded_of_row (C := Tryz.checked) (s := OpenSpec.ofChange Rows.keySameSpec) own started (by kernel_rfl) Tryz.func7
    (witness_row_at (enc := enc) (C := Tryz.checked) false (laidWorld os) #[.slice none 0 0, .slice none 0 0, .int .u8 0] rfl (by kernel_rfl) (by kernel_rfl) (by kernel_rfl)
      (OpenSpec.preRow_of_cond 8 hx (by kernel_rfl) (fun k hk => by cases hk) (by kernel_rfl) (laid_met os))) ?_
  intro W base args ds gs before hval hW _ _ _ hL _ _
  exact contract H enc W base args ds gs before hval hW
set_option maxHeartbeats 8000000 in
theorem said : Rows.KeySameSaid :=
  OpenClaim.holds_of_cond 7 Tryz.f7 rfl rfl rfl rfl rfl rfl rfl ⟨rfl, rfl, rfl, rfl, rfl⟩ rfl rfl rfl rfl rfl (by as_aux_lemma => kernel_rfl) Tryz.func7 (by as_aux_lemma => kernel_rfl)
    (of_decide_eq_true (by as_aux_lemma => kernel_rfl)) (by unfold Func.isWrapper; first | (rw [if_pos (by decide +kernel)]; kernel_rfl) | (rw [if_neg (by decide +kernel)]; exact ⟨rfl, rfl⟩))
    (fun os started H enc _ F => by rw [OpenClaim.pre_eq_preRow]; exact lifted os started H enc F)
theorem plain (f : FuncId) (fn : Func) (hf : Tryz.pinned.checked.prog.funcNamed "lockage/lockagelaw16.KeySame" = some f) (hfn : Tryz.pinned.checked.prog.funcs[f]? = some fn) :
    false = Tryz.pinned.checked.prog.looks [] ∧ ∀ (j : Nat) t, fn.params[j]? = some t → Tryz.pinned.checked.prog.wantsStandIn t = false := by
  obtain rfl : f = 7 := Option.some.inj ((show Tryz.prog.funcNamed "lockage/lockagelaw16.KeySame" = some 7 by kernel_rfl).symm.trans hf) |>.symm
  obtain rfl : fn = Tryz.f7 := (Option.some.inj (Tryz.func7.symm.trans hfn)).symm
  refine ⟨by kernel_rfl, fun j t ht => ?_⟩
  rw [Tryz.params7] at ht
  have hm : t = 22 ∨ t = 5 := by simpa using Array.mem_of_getElem? ht
  rcases hm with rfl | rfl
  · exact (show Tryz.prog.wantsStandIn 22 = false by kernel_rfl)
  · exact (show Tryz.prog.wantsStandIn 5 = false by kernel_rfl)
set_option maxHeartbeats 8000000 in
theorem card : Rows.KeySameCardSaid :=
  Claim7.holds_tied_plain_at .later [] _ _ _ _ said (fun _ h => by cases h) (by as_aux_lemma => kernel_rfl) (fun _ h => by cases h) keySame_row_tie rfl ⟨rfl, rfl⟩ (by as_aux_lemma => kernel_rfl) rfl plain (by as_aux_lemma => kernel_rfl)
end Go.Proofs.YtalafpigfeiaiaaGreatDoor.keySame
namespace Go.Proofs.YtalafpigfeiaiaaGreatDoor
theorem keySame_card : Rows.KeySameCardSaid := keySame.card
#print axioms keySame_card
end Go.Proofs.YtalafpigfeiaiaaGreatDoor
end
