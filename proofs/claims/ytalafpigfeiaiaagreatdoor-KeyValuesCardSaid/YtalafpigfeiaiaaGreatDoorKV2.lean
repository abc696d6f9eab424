/- Contracts of functions and plain laws. -/
import Derived.Test.YtalafpigfeiaiaaGreatDoorKV1
import Derived.Test.YtalafpigfeiaiaaGreatDoorProg
section
namespace Go.Proofs.YtalafpigfeiaiaaGreatDoor.Q
open Go.RowKit Go.Proofs.YtalafpigfeiaiaaGreatDoor.H Go.Proofs.YtalafpigfeiaiaaGreatDoorW.PrintWords
set_option linter.unusedVariables false
set_option linter.unusedSimpArgs false
abbrev Bytes (l : List Int) : Prop := ∀ x ∈ l, 0 ≤ x ∧ x < 256
theorem pick_ev (l : List Int) (hb : Bytes l) (at' n : Nat) (m : Int) (hm : m = (n : Int)) (hn : 0 < n) (hn2 : n ≤ 1000) (hat : at' ≤ 1000000) :
    ∃ r : Nat, r < n ∧ lockagelaw06_Maker_Pick.f l (at' : Int) m = some ((r : Int), ((at' + 1 : Nat) : Int)) := by
  subst hm
  unfold lockagelaw06_Maker_Pick.f
  rw [wrap_succ (by omega)]
  by_cases h : (((at' + 1 : Nat) : Int)) > (l.length : Int)
  · exact ⟨0, hn, by rw [if_pos h]; rfl⟩
  · have hl : at' < l.length := by omega
    have e : wrap64 (((at' + 1 : Nat) : Int) - 1) = (at' : Int) := by unfold wrap64; omega
    have hrd : rd l (at' : Int) = l[at'] := by simp [rd, List.getD_eq_getElem?_getD, List.getElem?_eq_getElem hl]
    have hx := hb l[at'] (List.getElem_mem hl)
    rw [if_neg h, e, if_pos (by omega), if_pos (by omega), if_neg (by omega), hrd]
    generalize l[at'] = x at *
    obtain ⟨y, rfl⟩ : ∃ y : Nat, x = y := ⟨x.toNat, by omega⟩
    have hw : wrap64 (y : Int) = (y : Int) := by unfold wrap64; omega
    refine ⟨y % n, Nat.mod_lt _ hn, ?_⟩
    rw [hw, Int.tmod_eq_emod_of_nonneg (by omega)]
    rfl
def FewS (L : FieldL) : Prop := ∀ f ∈ L, f.f0.size ≤ 30 ∧ f.f1.size ≤ 30
def cleanB (s : ByteArray) : Bool := (ul s).all fun c => c != 10 && c != 58
def CleanL (L : FieldL) : Prop := ∀ f ∈ L, cleanB f.f1 = true
theorem rdOf_clean (ys : List ByteArray) (h : ys.all cleanB = true) (r : Int) : cleanB (rdOf ByteArray.empty ys r) = true := by
  unfold rdOf
  rw [List.getD_eq_getElem?_getD]
  cases hg : ys[r.toNat]? with
  | none => decide
  | some y => exact List.all_eq_true.1 h y (List.mem_of_getElem? hg)
theorem CleanL.snoc {L : FieldL} (h : CleanL L) {a b : ByteArray} (hb : cleanB b = true) : CleanL (L ++ [(⟨a, b⟩ : S36)]) := by
  intro f hf
  rcases List.mem_append.1 hf with h' | h'
  · exact h f h'
  · obtain rfl := List.mem_singleton.1 h'
    exact hb
theorem rdOf_small (ys : List ByteArray) (h : ys.all (fun y => decide (y.size ≤ 30)) = true) (r : Int) : (rdOf ByteArray.empty ys r).size ≤ 30 := by
  unfold rdOf
  rw [List.getD_eq_getElem?_getD]
  cases hg : ys[r.toNat]? with
  | none => decide
  | some y => exact of_decide_eq_true (List.all_eq_true.1 h y (List.mem_of_getElem? hg))
theorem FewS.snoc {L : FieldL} (h : FewS L) {a b : ByteArray} (ha : a.size ≤ 30) (hb : b.size ≤ 30) : FewS (L ++ [(⟨a, b⟩ : S36)]) := by
  intro f hf
  rcases List.mem_append.1 hf with h' | h'
  · exact h f h'
  · obtain rfl := List.mem_singleton.1 h'
    exact ⟨ha, hb⟩
theorem FewS.few {L : FieldL} (h : FewS L) (hl : L.length ≤ 6) : Few L := ⟨by omega, fun f hf => by have := h f hf; omega⟩
theorem head_loop (l : List Int) (hb : Bytes l) (m t : ByteArray) (s : Int) (r : ByteArray) (mi : Int) (d : Nat) : ∀ (at' : Nat) (L : FieldL), d ≤ 6 → at' + 2 * d ≤ 950000 → L.length + d ≤ 6 → FewS L → CleanL L →
    ∃ (L' : FieldL) (at2 : Nat), Ev (fun k => lockagelaw06_Maker_Head.l0 k (d : Int) l (at' : Int) m t s r mi L) (m, t, s, r, mi, L', (at2 : Int)) ∧ L'.length ≤ 6 ∧ FewS L' ∧ CleanL L' ∧ at2 ≤ at' + 2 * d := by
  induction d with
  | zero =>
    intro at' L _ _ hl hf hcl
    refine ⟨L, at', Ev.step (f := fun _ => some (m, t, s, r, mi, L, (at' : Int))) (fun k => ?_) (Ev.now _), by omega, hf, hcl, by omega⟩
    rw [lockagelaw06_Maker_Head.l0]
    rw [if_neg (by omega)]
  | succ d ih =>
    intro at' L hd hat hl hf hcl
    obtain ⟨r1, h1, e1⟩ := pick_ev l hb at' 13 13 rfl (by omega) (by omega) (by omega)
    obtain ⟨r2, h2, e2⟩ := pick_ev l hb (at' + 1) 11 11 rfl (by omega) (by omega) (by omega)
    have hw : wrap64 (((d + 1 : Nat) : Int) - 1) = (d : Int) := by unfold wrap64; omega
    have hst : ∃ (a b : ByteArray), a.size ≤ 30 ∧ b.size ≤ 30 ∧ cleanB b = true ∧ ∀ k, lockagelaw06_Maker_Head.l0 (k + 1) ((d + 1 : Nat) : Int) l (at' : Int) m t s r mi L = lockagelaw06_Maker_Head.l0 k (d : Int) l ((at' + 1 + 1 : Nat) : Int) m t s r mi (L ++ [(⟨a, b⟩ : S36)]) := by
      refine ⟨?a, ?b, ?ha, ?hb, ?hcb, fun k => ?e⟩
      case e =>
        rw [lockagelaw06_Maker_Head.l0]
        rw [if_pos (by omega), Option.bind_some, e1, Option.bind_some, if_pos (by omega), if_pos (by simp only [List.length_cons, List.length_nil]; omega), Option.bind_some, e2, Option.bind_some]
        rw [if_pos (by omega), if_pos (by simp only [List.length_cons, List.length_nil]; omega), if_pos (by omega), hw]
      case ha => exact rdOf_small _ (by decide +kernel) _
      case hb => exact rdOf_small _ (by decide +kernel) _
      case hcb => exact rdOf_clean _ (by decide +kernel) _
    obtain ⟨a, b, ha, hb', hcb, hst⟩ := hst
    obtain ⟨L', at2, hE, hl', hf', hc', h2'⟩ := ih (at' + 1 + 1) (L ++ [(⟨a, b⟩ : S36)]) (by omega) (by omega) (by simp; omega) (hf.snoc ha hb') (hcl.snoc hcb)
    exact ⟨L', at2, Ev.step hst hE, hl', hf', hc', by omega⟩
theorem head_j (l : List Int) (hb : Bytes l) (m t : ByteArray) (s : Int) (r : ByteArray) (mi : Int) (at' : Nat) (hat : at' ≤ 940000) :
    ∃ (L' : FieldL) (at2 : Nat), Ev (fun k => lockagelaw06_Maker_Head.j0 k l (at' : Int) m t s r mi) (m, t, s, r, mi, L', (at2 : Int)) ∧ L'.length ≤ 6 ∧ FewS L' ∧ CleanL L' ∧ at2 ≤ at' + 13 := by
  obtain ⟨r1, h1, e1⟩ := pick_ev l hb at' 7 7 rfl (by omega) (by omega) (by omega)
  obtain ⟨L', at2, hE, hl', hf', hc', h2'⟩ := head_loop l hb m t s r mi r1 (at' + 1) [] (by omega) (by omega) (by simp; omega) (fun f hf => by cases hf) (fun f hf => by cases hf)
  refine ⟨L', at2, Ev.step (fun k => ?_) hE, hl', hf', hc', by omega⟩
  rw [lockagelaw06_Maker_Head.j0]
  rw [e1]
  rw [Option.bind_some]
theorem head_ev (l : List Int) (hb : Bytes l) (at' : Nat) (hat : at' ≤ 900000) (ans : Bool) :
    ∃ (m t : ByteArray) (s : Int) (r : ByteArray) (mi : Int) (L : FieldL) (at2 : Nat), Ev (fun k => lockagelaw06_Maker_Head.f k l (at' : Int) ans) (m, t, s, r, mi, L, (at2 : Int)) ∧ m.size ≤ 30 ∧ t.size ≤ 30 ∧ L.length ≤ 6 ∧ FewS L ∧ CleanL L ∧ at2 ≤ at' + 20 := by
  obtain ⟨r1, h1, e1⟩ := pick_ev l hb at' 2 2 rfl (by omega) (by omega) (by omega)
  cases ans with
  | true =>
    obtain ⟨r2, h2, e2⟩ := pick_ev l hb (at' + 1) 7 7 rfl (by omega) (by omega) (by omega)
    obtain ⟨r3, h3, e3⟩ := pick_ev l hb (at' + 1 + 1) 4 4 rfl (by omega) (by omega) (by omega)
    have hst : ∃ (m t : ByteArray) (s : Int) (r : ByteArray) (mi : Int), m.size ≤ 30 ∧ t.size ≤ 30 ∧ ∀ k, lockagelaw06_Maker_Head.f k l (at' : Int) true = lockagelaw06_Maker_Head.j0 k l ((at' + 1 + 1 + 1 : Nat) : Int) m t s r mi := by
      refine ⟨?m, ?t, ?s, ?r, ?mi, ?hm, ?ht, fun k => ?e⟩
      case e =>
        unfold lockagelaw06_Maker_Head.f
        rw [e1]
        rw [Option.bind_some]
        rw [if_pos rfl, Option.bind_some, e2, Option.bind_some]
        rw [if_pos (by omega), if_pos (by simp only [List.length_cons, List.length_nil]; omega), Option.bind_some, e3, Option.bind_some]
        rw [if_pos (by omega), if_pos (by simp only [List.length_cons, List.length_nil]; omega)]
      case hm => decide
      case ht => decide
    obtain ⟨m, t, s, r, mi, hm, ht, hst⟩ := hst
    obtain ⟨L', at2, hE, hl', hf', hc', h2'⟩ := head_j l hb m t s r mi (at' + 1 + 1 + 1) (by omega)
    exact ⟨m, t, s, r, mi, L', at2, Ev.congr hst hE, hm, ht, hl', hf', hc', by omega⟩
  | false =>
    obtain ⟨r2, h2, e2⟩ := pick_ev l hb (at' + 1) 5 5 rfl (by omega) (by omega) (by omega)
    obtain ⟨r3, h3, e3⟩ := pick_ev l hb (at' + 1 + 1) 5 5 rfl (by omega) (by omega) (by omega)
    have hst : ∃ (m t : ByteArray) (s : Int) (r : ByteArray) (mi : Int), m.size ≤ 30 ∧ t.size ≤ 30 ∧ ∀ k, lockagelaw06_Maker_Head.f k l (at' : Int) false = lockagelaw06_Maker_Head.j0 k l ((at' + 1 + 1 + 1 : Nat) : Int) m t s r mi := by
      refine ⟨?m1, ?t1, ?s1, ?r1, ?mi1, ?hm, ?ht, fun k => ?e⟩
      case e =>
        unfold lockagelaw06_Maker_Head.f
        rw [e1]
        rw [Option.bind_some]
        rw [if_neg (by simp), Option.bind_some, e2, Option.bind_some]
        rw [if_pos (by omega), if_pos (by simp only [List.length_cons, List.length_nil]; omega), Option.bind_some, e3, Option.bind_some]
        rw [if_pos (by omega), if_pos (by simp only [List.length_cons, List.length_nil]; omega)]
      case hm => exact rdOf_small _ (by decide +kernel) _
      case ht => exact rdOf_small _ (by decide +kernel) _
    obtain ⟨m, t, s, r, mi, hm, ht, hst⟩ := hst
    obtain ⟨L', at2, hE, hl', hf', hc', h2'⟩ := head_j l hb m t s r mi (at' + 1 + 1 + 1) (by omega)
    exact ⟨m, t, s, r, mi, L', at2, Ev.congr hst hE, hm, ht, hl', hf', hc', by omega⟩
end Go.Proofs.YtalafpigfeiaiaaGreatDoor.Q
end
