/- Contracts of functions and plain laws, part 4. -/
import Derived.Test.YtalafpigfeiaiaaGreatDoorKU3
import Derived.Test.YtalafpigfeiaiaaGreatDoorProg
section
namespace Go.Proofs.YtalafpigfeiaiaaGreatDoor.Q
open Go.RowKit Go.Proofs.YtalafpigfeiaiaaGreatDoor.H Go.Proofs.YtalafpigfeiaiaaGreatDoorW.PrintWords
set_option linter.unusedVariables false
set_option linter.unusedSimpArgs false
theorem wrap_succ {i : Nat} (h : i < 4611686018427387904) : wrap64 ((i : Int) + 1) = ((i + 1 : Nat) : Int) := by unfold wrap64; omega
theorem wrap_pred {i : Nat} (h0 : 0 < i) (h : i < 4611686018427387904) : wrap64 ((i : Int) - 1) = ((i - 1 : Nat) : Int) := by unfold wrap64; omega
theorem bt_ul (s : ByteArray) (i : Nat) (h : i < (ul s).length) : bt s (i : Int) = ((ul s)[i].toNat : Int) := by
  have h' : i < s.size := by rw [← ul_length]; exact h
  unfold bt
  rw [dif_pos (by simpa using h')]
  simp
  rfl
theorem drop_cons (l : Str) (i : Nat) (h : i < l.length) : l.drop i = l[i] :: l.drop (i + 1) := (List.getElem_cons_drop (h := h)).symm
theorem bs_append (a b : Str) : bs a ++ bs b = bs (a ++ b) := ul_inj (by simp [ul, ByteArray.data_append])
theorem app_bs (a : ByteArray) (b : Str) : a ++ bs b = bs (ul a ++ b) := by rw [← bs_append, bs_ul]
theorem strOfNums_one (n : Int) : strOfNums [n] = bs [UInt8.ofNat n.toNat] := rfl
theorem lowC_up {c : UInt8} (h1 : (c.toNat : Int) ≥ 65) (h2 : (c.toNat : Int) ≤ 90) : UInt8.ofNat ((((c.toNat : Int) + 32) % 256).toNat) = lowC c := by
  unfold lowC
  rw [if_pos ⟨by rw [UInt8.le_iff_toNat_le]; simp; omega, by rw [UInt8.le_iff_toNat_le]; simp; omega⟩]
  apply UInt8.toNat_inj.1
  rw [UInt8.toNat_add]
  simp
  omega
theorem lowC_no {c : UInt8} (h : ¬ ((c.toNat : Int) ≥ 65 ∧ (c.toNat : Int) ≤ 90)) : UInt8.ofNat ((c.toNat : Int)).toNat = lowC c := by
  unfold lowC
  rw [if_neg (fun q => h ⟨by have := UInt8.le_iff_toNat_le.1 q.1; simp at this; omega, by have := UInt8.le_iff_toNat_le.1 q.2; simp at this; omega⟩)]
  simp
theorem refLower_loop (s : ByteArray) (hs : s.size ≤ 1000000000) (d : Nat) : ∀ (i : Nat) (acc : ByteArray), i ≤ s.size → s.size - i = d → acc.size ≤ i →
    Ev (fun k => lockageref05_Lower.l0 k s acc (i : Int)) (acc ++ bs (((ul s).drop i).map lowC)) := by
  induction d with
  | zero =>
    intro i acc hi hd ha
    refine Ev.step (f := fun _ => some acc) (fun k => by simp only [lockageref05_Lower.l0]; rw [if_neg (by omega)]) ?_
    have e : (ul s).drop i = [] := List.drop_eq_nil_of_le (by rw [ul_length]; omega)
    rw [e, app_bs]
    simpa using Ev.now acc
  | succ d ih =>
    intro i acc hi hd ha
    have hil : i < (ul s).length := by rw [ul_length]; omega
    have hg := ih (i + 1) (acc ++ bs [lowC (ul s)[i]]) (by omega) (by omega) (by rw [ByteArray.size_append]; have := bs_size [lowC (ul s)[i]]; simp only [List.length_cons, List.length_nil] at this; omega)
    have e : acc ++ bs [lowC (ul s)[i]] ++ bs (((ul s).drop (i + 1)).map lowC) = acc ++ bs (((ul s).drop i).map lowC) := by
      rw [drop_cons _ _ hil, app_bs acc, app_bs, app_bs]
      simp
    rw [e] at hg
    refine Ev.step (fun k => ?_) hg
    simp only [lockageref05_Lower.l0]
    rw [if_pos (by omega), if_pos (by omega), bt_ul s i hil]
    simp only [Option.bind_some]
    by_cases h1 : ((ul s)[i].toNat : Int) ≥ 65
    · rw [if_pos h1]
      by_cases h2 : ((ul s)[i].toNat : Int) ≤ 90
      · rw [if_pos h2, if_pos (by rw [strOfNums_size]; simp only [List.length_cons, List.length_nil]; omega), strOfNums_one, lowC_up h1 h2, wrap_succ (by omega)]
      · rw [if_neg h2, if_pos (by rw [strOfNums_size]; simp only [List.length_cons, List.length_nil]; omega), strOfNums_one, lowC_no (fun h => h2 h.2), wrap_succ (by omega)]
    · rw [if_neg h1, if_pos (by rw [strOfNums_size]; simp only [List.length_cons, List.length_nil]; omega), strOfNums_one, lowC_no (fun h => h1 h.1), wrap_succ (by omega)]
theorem refLower_ev (s : ByteArray) (hs : s.size ≤ 1000000000) : Ev (fun k => lockageref05_Lower.f k s) (lower s) := by
  have h := refLower_loop s hs s.size 0 (⟨#[]⟩ : ByteArray) (by omega) (by omega) (Nat.le_refl _)
  have e : (⟨#[]⟩ : ByteArray) ++ bs (((ul s).drop 0).map lowC) = lower s := by rw [app_bs]; rfl
  rw [e] at h
  exact h
theorem lower_size (s : ByteArray) : (lower s).size = s.size := by unfold lower; rw [bs_size]; simp [lowL]
theorem lower_toList (a b : ByteArray) : ((lower a).toList = (lower b).toList) = (lower a = lower b) := by
  rw [toList_ul, toList_ul]; exact propext ⟨fun h => ul_inj h, fun h => by rw [h]⟩
abbrev FieldL := List S36
def getF (l : FieldL) (name : ByteArray) : List ByteArray := (l.filter fun f => decide (lower f.f0 = lower name)).map (·.f1)
def Few (l : FieldL) : Prop := l.length ≤ 1000 ∧ ∀ f ∈ l, f.f0.size ≤ 10000 ∧ f.f1.size ≤ 10000
theorem rdT_get (l : FieldL) (i : Nat) (h : i < l.length) : rd_T36 l (i : Int) = l[i] := by simp [rd_T36, List.getD_eq_getElem?_getD, List.getElem?_eq_getElem h]
theorem rdOf_get (l : List ByteArray) (i : Nat) (h : i < l.length) : rdOf ByteArray.empty l (i : Int) = l[i] := by simp [rdOf, List.getD_eq_getElem?_getD, List.getElem?_eq_getElem h]
theorem getF_cons (f : S36) (l : FieldL) (name : ByteArray) : getF (f :: l) name = if lower f.f0 = lower name then f.f1 :: getF l name else getF l name := by
  unfold getF; by_cases h : lower f.f0 = lower name <;> simp [h]
theorem getF_length (l : FieldL) (name : ByteArray) : (getF l name).length ≤ l.length := by simp only [getF, List.length_map]; exact List.length_filter_le _ _
theorem getF_mem {l : FieldL} {name x : ByteArray} (h : x ∈ getF l name) : ∃ f ∈ l, x = f.f1 := by
  simp only [getF, List.mem_map, List.mem_filter] at h
  obtain ⟨f, ⟨hf, _⟩, rfl⟩ := h
  exact ⟨f, hf, rfl⟩
theorem refGet_loop (l : FieldL) (hl : Few l) (name : ByteArray) (hn : name.size ≤ 1000000000) (d : Nat) : ∀ (i : Nat) (acc : List ByteArray), i ≤ l.length → l.length - i = d → acc.length ≤ i →
    Ev (fun k => lockageref05_Get.l0 k l name acc (i : Int)) (acc ++ getF (l.drop i) name) := by
  induction d with
  | zero =>
    intro i acc hi hd ha
    refine Ev.step (f := fun _ => some acc) (fun k => by simp only [lockageref05_Get.l0]; rw [if_neg (by omega)]) ?_
    rw [List.drop_eq_nil_of_le (by omega)]
    simpa [getF] using Ev.now acc
  | succ d ih =>
    intro i acc hi hd ha
    have hil : i < l.length := by omega
    have hL := hl.1
    have hm := hl.2 l[i] (List.getElem_mem hil)
    have e : l.drop i = l[i] :: l.drop (i + 1) := (List.getElem_cons_drop (h := hil)).symm
    rw [e, getF_cons]
    refine Ev.step (f := fun k => (lockageref05_Lower.f k l[i].f0).bind fun t => (lockageref05_Lower.f k name).bind fun u => if t.toList = u.toList then lockageref05_Get.l0 k l name (acc ++ [l[i].f1]) ((i + 1 : Nat) : Int) else lockageref05_Get.l0 k l name acc ((i + 1 : Nat) : Int)) (fun k => ?_) ?_
    · simp only [lockageref05_Get.l0]
      rw [if_pos (by omega), if_pos (by omega), rdT_get l i hil, wrap_succ (by omega), if_pos (by omega : acc.length < 8796093022208)]
    · refine Ev.bind (refLower_ev _ (by omega)) (Ev.bind (refLower_ev _ hn) ?_)
      simp only [lower_toList]
      by_cases h : lower l[i].f0 = lower name
      · simp only [if_pos h]
        have := ih (i + 1) (acc ++ [l[i].f1]) (by omega) (by omega) (by simp; omega)
        simpa using this
      · simp only [if_neg h]
        exact ih (i + 1) acc (by omega) (by omega) (by omega)
theorem refGet_ev (l : FieldL) (hl : Few l) (name : ByteArray) (hn : name.size ≤ 1000000000) : Ev (fun k => lockageref05_Get.f k l name) (getF l name) := by
  have := refGet_loop l hl name hn l.length 0 [] (by omega) (by omega) (Nat.le_refl _)
  exact this
theorem blank_ev (c : UInt8) : lockageref05_blank.f (c.toNat : Int) = some (blankC c) := by
  unfold lockageref05_blank.f blankC
  have e1 : ((c.toNat : Int) = 32) = (c = 32) := propext ⟨fun h => UInt8.toNat_inj.1 (by simp; omega), fun h => by rw [h]; rfl⟩
  have e2 : ((c.toNat : Int) == 9) = (c == 9) := by
    rw [Bool.eq_iff_iff, beq_iff_eq, beq_iff_eq]
    exact ⟨fun h => UInt8.toNat_inj.1 (by simp; omega), fun h => by rw [h]; rfl⟩
  by_cases h : c = 32
  · rw [if_pos (by rw [e1]; exact h)]; simp [h]
  · rw [if_neg (by rw [e1]; exact h), e2]
    have : (c == 32) = false := by simpa using h
    rw [this]; rfl
theorem refTrim_right (d : Nat) : ∀ (s : ByteArray), s.size ≤ 1000000000 → s.size = d → Ev (fun k => lockageref05_Trim.l1 k s) (bs (((ul s).reverse.dropWhile blankC).reverse)) := by
  induction d with
  | zero =>
    intro s hs hd
    refine Ev.step (f := fun _ => some s) (fun k => by simp only [lockageref05_Trim.l1]; rw [if_neg (by omega)]) ?_
    have e : ul s = [] := List.eq_nil_of_length_eq_zero (by rw [ul_length]; exact hd)
    have : bs (((ul s).reverse.dropWhile blankC).reverse) = s := by
      rw [e]; exact ul_inj (by rw [e]; rfl)
    rw [this]
    exact Ev.now s
  | succ d ih =>
    intro s hs hd
    have hlen : (ul s).length = d + 1 := by rw [ul_length]; exact hd
    have hw : wrap64 ((s.size : Int) - 1) = ((d : Nat) : Int) := by rw [hd]; exact wrap_pred (by omega) (by omega)
    obtain ⟨l, c, hl⟩ : ∃ l c, ul s = l ++ [c] := ⟨(ul s).dropLast, (ul s).getLast (by intro h; rw [h] at hlen; simp at hlen), (List.dropLast_concat_getLast _).symm⟩
    have hll : l.length = d := by rw [hl] at hlen; simpa using hlen
    have hb : bt s ((d : Nat) : Int) = (c.toNat : Int) := by
      rw [bt_ul s d (by omega)]
      simp [hl, hll]
    have hx : s.extract 0 d = bs l := by
      refine ul_inj ?_
      rw [ul_extract, hl, ← hll]; simp
    have hrev : (ul s).reverse = c :: l.reverse := by rw [hl]; simp
    cases hbl : blankC c with
    | true =>
      have e : bs (((ul s).reverse.dropWhile blankC).reverse) = bs (((ul (bs l)).reverse.dropWhile blankC).reverse) := by
        rw [hrev, List.dropWhile_cons_of_pos hbl, ul_bs]
      rw [e]
      refine Ev.step (fun k => ?_) (ih (bs l) (by rw [bs_size]; omega) (by rw [bs_size]; exact hll))
      simp only [lockageref05_Trim.l1]
      rw [hw, if_pos (by omega), if_pos (by omega), if_pos (by omega), hb, blank_ev, hbl]
      simp only [Option.bind_some, if_true]
      rw [if_pos (by omega), Int.toNat_natCast, hx]
    | false =>
      have e : bs (((ul s).reverse.dropWhile blankC).reverse) = s := by
        rw [hrev, List.dropWhile_cons_of_neg (by rw [hbl]; simp), List.reverse_cons, List.reverse_reverse, ← hl]
      rw [e]
      refine Ev.step (f := fun _ => some s) (fun k => ?_) (Ev.now s)
      simp only [lockageref05_Trim.l1]
      rw [hw, if_pos (by omega), if_pos (by omega), if_pos (by omega), hb, blank_ev, hbl]
      simp
theorem refTrim_left (d : Nat) : ∀ (s : ByteArray), s.size ≤ 1000000000 → s.size = d → Ev (fun k => lockageref05_Trim.l0 k s) (bs ((((ul s).dropWhile blankC).reverse.dropWhile blankC).reverse)) := by
  have hj : ∀ s : ByteArray, s.size ≤ 1000000000 → (ul s).dropWhile blankC = ul s → Ev (fun k => lockageref05_Trim.j1 k s) (bs ((((ul s).dropWhile blankC).reverse.dropWhile blankC).reverse)) := by
    intro s hs h
    rw [h]
    exact Ev.step (fun k => by simp only [lockageref05_Trim.j1]) (refTrim_right _ s hs rfl)
  induction d with
  | zero =>
    intro s hs hd
    have e : ul s = [] := List.eq_nil_of_length_eq_zero (by rw [ul_length]; exact hd)
    exact Ev.step (fun k => by simp only [lockageref05_Trim.l0]; rw [if_neg (by omega)]) (hj s hs (by rw [e]; rfl))
  | succ d ih =>
    intro s hs hd
    have hlen : (ul s).length = d + 1 := by rw [ul_length]; exact hd
    obtain ⟨c, l, hl⟩ : ∃ c l, ul s = c :: l := by
      cases h : ul s with
      | nil => rw [h] at hlen; simp at hlen
      | cons c l => exact ⟨c, l, rfl⟩
    have hll : l.length = d := by rw [hl] at hlen; simpa using hlen
    have hb : bt s 0 = (c.toNat : Int) := by
      have := bt_ul s 0 (by omega)
      simpa [hl] using this
    have hx : s.extract 1 s.size = bs l := by
      refine ul_inj ?_
      rw [ul_extract, hl, hd, ul_bs, List.drop_one, List.tail_cons]
      exact List.take_of_length_le (by omega)
    cases hbl : blankC c with
    | true =>
      have e : bs ((((ul s).dropWhile blankC).reverse.dropWhile blankC).reverse) = bs ((((ul (bs l)).dropWhile blankC).reverse.dropWhile blankC).reverse) := by
        rw [hl, List.dropWhile_cons_of_pos hbl, ul_bs]
      rw [e]
      refine Ev.step (fun k => ?_) (ih (bs l) (by rw [bs_size]; omega) (by rw [bs_size]; exact hll))
      simp only [lockageref05_Trim.l0]
      rw [if_pos (by omega), if_pos (by omega), hb, blank_ev, hbl]
      simp only [Option.bind_some, if_true]
      rw [if_pos (by omega), hx]
    | false =>
      refine Ev.step (fun k => ?_) (hj s hs (by rw [hl, List.dropWhile_cons_of_neg (by rw [hbl]; simp)]))
      simp only [lockageref05_Trim.l0]
      rw [if_pos (by omega), if_pos (by omega), hb, blank_ev, hbl]
      simp only [Option.bind_some]
      rw [if_neg (by simp)]
theorem dropWhile_nil (p : UInt8 → Bool) : ∀ l : Str, l.dropWhile p = [] ↔ ∀ x ∈ l, p x = true
  | [] => by simp
  | c :: l => by
    cases h : p c with
    | true => rw [List.dropWhile_cons_of_pos h, dropWhile_nil p l]; simp [h]
    | false => rw [List.dropWhile_cons_of_neg (by rw [h]; simp)]; simp [h]
theorem trim_comm (l : Str) : (((l.dropWhile blankC).reverse.dropWhile blankC).reverse) = trimL l := by
  unfold trimL
  by_cases h : ∃ x ∈ l, blankC x = false
  · induction l with
    | nil => rfl
    | cons c l ih =>
      cases hc : blankC c with
      | true =>
        have h' : ∃ x ∈ l, blankC x = false := by
          obtain ⟨x, hx, hb⟩ := h
          rcases List.mem_cons.1 hx with rfl | hx
          · rw [hc] at hb; cases hb
          · exact ⟨x, hx, hb⟩
        rw [List.dropWhile_cons_of_pos hc, ih h', List.reverse_cons, List.dropWhile_append]
        have hne : (l.reverse.dropWhile blankC).isEmpty = false := by
          obtain ⟨x, hx, hb⟩ := h'
          cases hq : l.reverse.dropWhile blankC with
          | nil =>
            have := ((dropWhile_nil _ _).1 hq) x (List.mem_reverse.2 hx)
            rw [this] at hb; cases hb
          | cons a b => rfl
        rw [hne]
        simp only [Bool.false_eq_true, if_false, List.reverse_append, List.reverse_cons, List.reverse_nil, List.nil_append, List.cons_append]
        rw [List.dropWhile_cons_of_pos hc]
      | false =>
        rw [List.dropWhile_cons_of_neg (by rw [hc]; simp), List.reverse_cons, List.dropWhile_append]
        have e : [c].dropWhile blankC = [c] := List.dropWhile_cons_of_neg (by rw [hc]; simp)
        cases hq : (l.reverse.dropWhile blankC) with
        | nil => simp [e, hc]
        | cons a b => simp [hc]
  · have hall : ∀ x ∈ l, blankC x = true := fun x hx => by
      cases hb : blankC x with
      | true => rfl
      | false => exact absurd ⟨x, hx, hb⟩ h
    have e1 : l.dropWhile blankC = [] := (dropWhile_nil _ _).2 hall
    have e2 : l.reverse.dropWhile blankC = [] := (dropWhile_nil _ _).2 (fun x hx => hall x (List.mem_reverse.1 hx))
    rw [e1, e2]
    rfl
theorem refTrim_ev (s : ByteArray) (hs : s.size ≤ 1000000000) : Ev (fun k => lockageref05_Trim.f k s) (bs (trimL (ul s))) := by
  rw [← trim_comm]
  exact refTrim_left _ s hs rfl
theorem splitB_go (c : UInt8) : ∀ (b a : Str), (∀ x ∈ a, x ≠ c) → splitB c (a ++ b) = match splitB c b with | [] => [a] | h :: t => (a ++ h) :: t
  | b, [], _ => by
    cases h : splitB c b with
    | nil => exact absurd h (splitB_ne _ _)
    | cons x t => simp [h]
  | b, x :: a, hx => by
    have ih := splitB_go c b a (fun y hy => hx y (List.mem_cons_of_mem _ hy))
    have hxc : x ≠ c := hx x List.mem_cons_self
    rw [List.cons_append]
    conv => lhs; unfold splitB
    rw [if_neg hxc, ih]
    cases h : splitB c b with
    | nil => exact absurd h (splitB_ne _ _)
    | cons y t => simp
theorem splitB_end {c : UInt8} {a : Str} (h : ∀ x ∈ a, x ≠ c) : splitB c a = [a] := by
  have := splitB_go c [] a h
  simpa [splitB] using this
theorem splitB_at {c : UInt8} {a b : Str} (h : ∀ x ∈ a, x ≠ c) : splitB c (a ++ c :: b) = a :: splitB c b := by
  have := splitB_go c (c :: b) a h
  rw [this]
  simp [splitB]
def itemsP (ps : List Str) : List ByteArray := ((ps.map fun p => lowL (trimL p)).filter fun x => x ≠ []).map bs
theorem itemsP_items (s : ByteArray) : itemsP (splitB 44 (ul s)) = items s := rfl
theorem itemsP_cons (p : Str) (ps : List Str) : itemsP (p :: ps) = if lowL (trimL p) = [] then itemsP ps else bs (lowL (trimL p)) :: itemsP ps := by
  unfold itemsP; by_cases h : lowL (trimL p) = [] <;> simp [h]
theorem refItems_part (s : ByteArray) (hs : s.size ≤ 100000000) (acc : List ByteArray) (from' i : Nat) (hf : from' ≤ i) (hi : i ≤ s.size) (ha : acc.length ≤ i) (r : List ByteArray)
    (h : Ev (fun k => lockageref05_Items.l0 k s (if lowL (trimL (((ul s).drop from').take (i - from'))) = [] then acc else acc ++ [bs (lowL (trimL (((ul s).drop from').take (i - from'))))]) ((i + 1 : Nat) : Int) ((i + 1 : Nat) : Int)) r) :
    Ev (fun k => lockageref05_Items.j1 k s acc (from' : Int) (i : Int) false) r := by
  have hx : ul (s.extract from' i) = ((ul s).drop from').take (i - from') := ul_extract _ _ _
  have hxs : (s.extract from' i).size ≤ 100000000 := by rw [← ul_length, hx]; simp; omega
  refine Ev.step (f := fun k => (lockageref05_Trim.f k (s.extract from' i)).bind fun t => (lockageref05_Lower.f k t).bind fun u => if u.toList = ([] : List UInt8) then lockageref05_Items.l0 k s acc ((i + 1 : Nat) : Int) ((i + 1 : Nat) : Int) else lockageref05_Items.l0 k s (acc ++ [u]) ((i + 1 : Nat) : Int) ((i + 1 : Nat) : Int)) (fun k => ?_) ?_
  · simp only [lockageref05_Items.j1]
    rw [if_neg (by simp), if_pos (by omega), if_pos (by omega), if_pos (by omega), wrap_succ (by omega)]
    simp only [Int.toNat_natCast, if_pos (show acc.length < 8796093022208 from by omega)]
  · refine Ev.bind (refTrim_ev _ (by omega)) (Ev.bind (refLower_ev _ (by rw [bs_size]; have := trimL_length (ul (s.extract from' i)); rw [ul_length] at this; omega)) ?_)
    have e : (lower (bs (trimL (ul (s.extract from' i))))).toList = lowL (trimL (((ul s).drop from').take (i - from'))) := by
      rw [toList_ul, hx]; rfl
    rw [← hx] at e h
    by_cases hq : lowL (trimL (ul (s.extract from' i))) = []
    · rw [if_pos hq] at h
      refine Ev.congr (fun k => ?_) h
      rw [if_pos (by rw [e]; exact hq)]
    · rw [if_neg hq] at h
      refine Ev.congr (fun k => ?_) h
      rw [if_neg (by rw [e]; exact hq)]
      rfl
theorem refItems_loop (s : ByteArray) (hs : s.size ≤ 100000000) (d : Nat) : ∀ (from' i : Nat) (acc : List ByteArray), from' ≤ i → i ≤ s.size → s.size - i = d → acc.length ≤ i → (∀ x ∈ ((ul s).drop from').take (i - from'), x ≠ 44) →
    Ev (fun k => lockageref05_Items.l0 k s acc (from' : Int) (i : Int)) (acc ++ itemsP (splitB 44 ((ul s).drop from'))) := by
  induction d with
  | zero =>
    intro from' i acc hf hi hd ha hno
    have hie : i = s.size := by omega
    have et : ((ul s).drop from').take (i - from') = (ul s).drop from' := List.take_of_length_le (by simp [ul_length]; omega)
    refine Ev.step (fun k => by simp only [lockageref05_Items.l0]; rw [if_pos (by omega), if_neg (by omega)]) (refItems_part s hs acc from' i hf hi ha _ ?_)
    rw [et] at hno ⊢
    rw [splitB_end hno, itemsP_cons]
    have hend : ∀ acc' : List ByteArray, Ev (fun k => lockageref05_Items.l0 k s acc' ((i + 1 : Nat) : Int) ((i + 1 : Nat) : Int)) acc' := fun acc' =>
      Ev.step (f := fun _ => some acc') (fun k => by simp only [lockageref05_Items.l0]; rw [if_neg (by omega)]) (Ev.now acc')
    by_cases h : lowL (trimL ((ul s).drop from')) = []
    · rw [if_pos h, if_pos h]; simpa [itemsP] using hend acc
    · rw [if_neg h, if_neg h]; simpa [itemsP] using hend (acc ++ [bs (lowL (trimL ((ul s).drop from')))])
  | succ d ih =>
    intro from' i acc hf hi hd ha hno
    have hil : i < (ul s).length := by rw [ul_length]; omega
    have hbt := bt_ul s i hil
    by_cases hc : (ul s)[i] = 44
    ·
      have eb : ((bt s (i : Int)) != 44) = false := by rw [hbt, hc]; rfl
      refine Ev.step (fun k => by simp only [lockageref05_Items.l0]; rw [if_pos (by omega), if_pos (by omega), if_pos (by omega), eb]) (refItems_part s hs acc from' i hf hi ha _ ?_)
      have es : (ul s).drop from' = ((ul s).drop from').take (i - from') ++ 44 :: (ul s).drop (i + 1) := by
        conv => lhs; rw [← List.take_append_drop (i - from') ((ul s).drop from')]
        rw [List.drop_drop, show from' + (i - from') = i by omega, drop_cons _ _ hil, hc]
      have e2 : splitB 44 ((ul s).drop from') = ((ul s).drop from').take (i - from') :: splitB 44 ((ul s).drop (i + 1)) := by
        conv => lhs; rw [es]
        exact splitB_at hno
      rw [e2, itemsP_cons]
      by_cases h : lowL (trimL (((ul s).drop from').take (i - from'))) = []
      · rw [if_pos h, if_pos h]
        exact ih (i + 1) (i + 1) acc (Nat.le_refl _) (by omega) (by omega) (by omega) (by simp)
      · rw [if_neg h, if_neg h]
        have := ih (i + 1) (i + 1) (acc ++ [bs (lowL (trimL (((ul s).drop from').take (i - from'))))]) (Nat.le_refl _) (by omega) (by omega) (by simp; omega) (by simp)
        simpa using this
    · have eb : ((bt s (i : Int)) != 44) = true := by
        rw [hbt, bne_iff_ne]
        intro h
        exact hc (UInt8.toNat_inj.1 (show _ = 44 by omega))
      refine Ev.step (fun k => by simp only [lockageref05_Items.l0]; rw [if_pos (by omega), if_pos (by omega), if_pos (by omega), eb]) (Ev.step (fun k => by simp only [lockageref05_Items.j1]; rw [if_pos trivial, wrap_succ (by omega)]) (ih from' (i + 1) acc (by omega) (by omega) (by omega) (by omega) ?_))
      intro x hx
      have e : ((ul s).drop from').take (i + 1 - from') = ((ul s).drop from').take (i - from') ++ [(ul s)[i]] := by
        rw [show i + 1 - from' = (i - from') + 1 by omega, List.take_succ_eq_append_getElem (by simp; omega)]
        simp [List.getElem_drop, show from' + (i - from') = i by omega]
      rw [e, List.mem_append] at hx
      rcases hx with hx | hx
      · exact hno x hx
      · simp at hx; rw [hx]; exact hc
theorem refItems_ev (s : ByteArray) (hs : s.size ≤ 100000000) : Ev (fun k => lockageref05_Items.f k s) (items s) := by
  have := refItems_loop s hs s.size 0 0 [] (Nat.le_refl _) (by omega) (by omega) (Nat.le_refl _) (by simp)
  rw [List.drop_zero, itemsP_items, List.nil_append] at this
  exact this
end Go.Proofs.YtalafpigfeiaiaaGreatDoor.Q
end
section
namespace Go.Proofs.YtalafpigfeiaiaaGreatDoor.Q
open Go.RowKit Go.Proofs.YtalafpigfeiaiaaGreatDoorW.PrintWords Go.Proofs.YtalafpigfeiaiaaGreatDoorW.PrintLast Go.Proofs.YtalafpigfeiaiaaGreatDoorW.PrintMore
attribute [local go_sem] max2_int min2_int max_two min_two max_three min_three max_four min_four
set_option linter.unusedVariables false
set_option linter.unusedSimpArgs false
def stringslite_HasPrefix.f (a0 : ByteArray) (a1 : ByteArray) : Option (Bool) := if (a0.size : Int) ≥ (a1.size : Int) then (if 0 ≤ (a1.size : Int) then (if (a1.size : Int) ≤ (a0.size : Int) then (some ((a0.extract 0 ((a1.size : Int) : Int).toNat).toList == a1.toList)) else (none)) else (none)) else (some false)
set_option maxHeartbeats 8000000 in
set_option maxRecDepth 100000 in
theorem stringslite_HasPrefix.calls (a0 : ByteArray) (a1 : ByteArray) (r : Bool) (w : World) (h : stringslite_HasPrefix.f a0 a1 = some r) :
  Calls Tryz.prog 128 #[.string a0, .string a1] w fun e w' => e = .returned (.bool r) ∧ Drawn0 w w' := by
 have H : (if (a0.size : Int) ≥ (a1.size : Int) then (if 0 ≤ (a1.size : Int) then (if (a1.size : Int) ≤ (a0.size : Int) then (some ((a0.extract 0 ((a1.size : Int) : Int).toNat).toList == a1.toList)) else (none)) else (none)) else (some false)) = some r := h
 clear h
 by_cases c3 : (a0.size : Int) ≥ (a1.size : Int)
 ·rw [if_pos c3] at H
  have c3b0 : decide ((a1.size : Int) ≤ (a0.size : Int)) = true := decide_eq_true c3
  have c3b1 : decide (a1.size ≤ a0.size) = true := decide_eq_true (Int.ofNat_le.mp c3)
  clear c3
  by_cases c4 : 0 ≤ (a1.size : Int)
  ·rw [if_pos c4] at H
   have c4b0 := eq_true c4
   have c4b1 : decide (0 ≤ (a1.size : Int)) = true := decide_eq_true c4
   clear c4
   by_cases c5 : (a1.size : Int) ≤ (a0.size : Int)
   ·rw [if_pos c5] at H
    have c5b0 := eq_true c5
    have c5b1 : decide ((a1.size : Int) ≤ (a0.size : Int)) = true := decide_eq_true c5
    clear c5
    obtain rfl := Option.some.inj H
    go_enter Tryz.func128, Tryz.ntmps128
    go_wp2
    go_ret
    exact ⟨by first | rfl | (simp; done) | (simp [*]; done), by repeat (first | exact Drawn0.refl _ | apply Drawn0.step)⟩
   ·rw [if_neg c5] at H
    exact absurd H (by simp)
  ·rw [if_neg c4] at H
   exact absurd H (by simp)
 ·rw [if_neg c3] at H
  have c3b0 : decide ((a1.size : Int) ≤ (a0.size : Int)) = false := decide_eq_false c3
  have c3b1 : decide (a1.size ≤ a0.size) = false := decide_eq_false (fun h => c3 (Int.ofNat_le.mpr h))
  clear c3
  obtain rfl := Option.some.inj H
  go_enter Tryz.func128, Tryz.ntmps128
  go_wp2
  go_ret
  exact ⟨by first | rfl | (simp; done) | (simp [*]; done), by repeat (first | exact Drawn0.refl _ | apply Drawn0.step)⟩
end Go.Proofs.YtalafpigfeiaiaaGreatDoor.Q
end
section
namespace Go.Proofs.YtalafpigfeiaiaaGreatDoor.Q
open Go.RowKit Go.Proofs.YtalafpigfeiaiaaGreatDoorW.PrintWords Go.Proofs.YtalafpigfeiaiaaGreatDoorW.PrintLast Go.Proofs.YtalafpigfeiaiaaGreatDoorW.PrintMore
attribute [local go_sem] max2_int min2_int max_two min_two max_three min_three max_four min_four
set_option linter.unusedVariables false
set_option linter.unusedSimpArgs false
def strings_HasPrefix.f (a0 : ByteArray) (a1 : ByteArray) : Option (Bool) := (stringslite_HasPrefix.f a0 a1).bind fun t545 => (some t545)
set_option maxHeartbeats 8000000 in
set_option maxRecDepth 100000 in
theorem strings_HasPrefix.calls (a0 : ByteArray) (a1 : ByteArray) (r : Bool) (w : World) (h : strings_HasPrefix.f a0 a1 = some r) :
  Calls Tryz.prog 90 #[.string a0, .string a1] w fun e w' => e = .returned (.bool r) ∧ Drawn0 w w' := by
 have H : ((stringslite_HasPrefix.f a0 a1).bind fun t545 => (some t545)) = some r := h
 clear h
 replace H := Option.bind_eq_some_iff.mp H
 obtain ⟨t545, A30, H⟩ := H
 replace H : (some t545) = some r := H
 have A3 := Aside0.mk A30
 clear A30
 obtain rfl := Option.some.inj H
 go_enter Tryz.func90, Tryz.ntmps90
 go_wp2_with (first | ((with_reducible refine gate_callee (f := 128) rfl ?_); refine goesL_ (some 7) rfl rfl Tryz.func128 (by kernel_rfl) rfl #[.string a0, .string a1] rfl (by (try simp only [List.map_toArray, List.map_cons, List.map_nil]); first | done | rfl | (simp only [List.length_drop, List.length_take]; rfl)) ?_; (with_reducible refine (stringslite_HasPrefix.calls a0 a1 t545 _ A3.out).mono ?_); rintro e w' ⟨rfl, ⟨nd, rfl⟩⟩; refine ⟨_, rfl, ?_⟩))
 go_ret
 exact ⟨by first | rfl | (simp; done) | (simp [*]; done), by repeat (first | exact Drawn0.refl _ | apply Drawn0.step)⟩
end Go.Proofs.YtalafpigfeiaiaaGreatDoor.Q
end
section
namespace Go.Proofs.YtalafpigfeiaiaaGreatDoor.Q
open Go.RowKit Go.Proofs.YtalafpigfeiaiaaGreatDoorW.PrintWords Go.Proofs.YtalafpigfeiaiaaGreatDoorW.PrintLast Go.Proofs.YtalafpigfeiaiaaGreatDoorW.PrintMore
attribute [local go_sem] max2_int min2_int max_two min_two max_three min_three max_four min_four
set_option linter.unusedVariables false
set_option linter.unusedSimpArgs false
def target_may.l0 : Nat → ByteArray → Int → Int → Option (Bool)
 | 0, _, _, _ => none
 | k + 1, x0, x5, x6 => if x6 < x5 then (if 0 ≤ x6 then (if x6 < (x0.size : Int) then (if (bt x0 x6) < 33 then (some false) else (if (bt x0 x6) > 126 then (some false) else (if (bt x0 x6) = 35 then (some false) else (target_may.l0 k x0 x5 (wrap64 (x6 + 1)))))) else (none)) else (none)) else (some true)
def target_may.f (k : Nat) (a0 : ByteArray) : Option (Bool) := target_may.l0 k a0 (a0.size : Int) 0
theorem target_may.mono_l : ∀ k, (∀ y0 y1 y2, LeO (target_may.l0 k y0 y1 y2) (target_may.l0 (k + 1) y0 y1 y2))
 | 0 => fun _ _ _ r h => by simp [target_may.l0] at h
 | k + 1 => by
  have ih0 := target_may.mono_l k
  ·intro y0 y1 y2
   unfold target_may.l0
   repeat' first
   | (with_reducible exact ih0 _ _ _)
   | (with_reducible exact LeO.refl _)
   | (with_reducible exact LeO.none _)
   | (with_reducible refine LeO.ite ?_ ?_)
   | (with_reducible refine LeO.bind ?_ (fun _ => ?_))
   | exact ih0 _ _ _
   | exact LeO.none _
   | refine LeO.ite ?_ ?_
   | refine LeO.bind ?_ (fun _ => ?_)
theorem target_may.mono : ∀ a0 k, LeO (target_may.f k a0) (target_may.f (k + 1) a0) := by
 intro a0 k
 have ih0 := target_may.mono_l k
 unfold target_may.f
 repeat' first
   | (with_reducible exact ih0 _ _ _)
   | (with_reducible exact LeO.refl _)
   | (with_reducible exact LeO.none _)
   | (with_reducible refine LeO.ite ?_ ?_)
   | (with_reducible refine LeO.bind ?_ (fun _ => ?_))
   | exact ih0 _ _ _
   | exact LeO.none _
   | refine LeO.ite ?_ ?_
   | refine LeO.bind ?_ (fun _ => ?_)
set_option maxHeartbeats 8000000 in
set_option maxRecDepth 100000 in
theorem target_may.calls (k : Nat) (a0 : ByteArray) (r : Bool) (w : World) (h : target_may.f k a0 = some r) :
  Calls Tryz.prog 91 #[.string a0] w fun e w' => e = .returned (.bool r) ∧ Drawn0 w w' := by
 have H : (target_may.l0 k a0 (a0.size : Int) 0) = some r := h
 clear h
 have H' := Aside0.mk H
 clear H
 go_enter Tryz.func91, Tryz.ntmps91
 go_wp2
 go_loopg [6] k (fun kq v6 w' => ∃ (x6_1 : Int), v6 = .int .i64 x6_1 ∧ Aside0 (target_may.l0 kq a0 (a0.size : Int) x6_1 = some r) ∧ Aside0 (kq ≤ k) ∧ Drawn0 w w')
 case atStart => exact ⟨(0), (by first | rfl | (simp; done) | (simp [*]; done)), H', ⟨Nat.le_refl _⟩, by repeat (first | exact Drawn0.refl _ | apply Drawn0.step)⟩
 case round =>
  clear H'
  obtain ⟨x6_1, rfl, HA, HK1, ⟨m1, rfl⟩⟩ := hrel
  cases gk with
  | zero => exact absurd HA.out (by simp [target_may.l0])
  | succ k1 =>
   have H := HA.out
   clear HA
   simp only [target_may.l0] at H
   by_cases c2 : x6_1 < (a0.size : Int)
   ·rw [if_pos c2] at H
    have c2b0 : decide (x6_1 < (a0.size : Int)) = true := decide_eq_true c2
    clear c2
    by_cases c3 : 0 ≤ x6_1
    ·rw [if_pos c3] at H
     have c3b0 : decide (0 ≤ x6_1) = true := decide_eq_true c3
     clear c3
     by_cases c4 : x6_1 < (a0.size : Int)
     ·rw [if_pos c4] at H
      have c4b0 : decide (x6_1 < (a0.size : Int)) = true := decide_eq_true c4
      clear c4
      by_cases c6 : (bt a0 x6_1) < 33
      ·rw [if_pos c6] at H
       have c6b0 : decide ((bt a0 x6_1) < 33) = true := decide_eq_true c6
       clear c6
       obtain rfl := Option.some.inj H
       have p5 : 0 ≤ (x6_1 : Int) := of_decide_eq_true (by first | (with_reducible assumption) | assumption)
       have q5 : x6_1 < (a0.size : Int) := of_decide_eq_true (by first | (with_reducible assumption) | assumption)
       have hx5 := bt_at a0 x6_1
       replace p5 := eq_true p5
       replace q5 := eq_true q5
       go_wp2
       go_ret
       exact ⟨by first | rfl | (simp; done) | (simp [*]; done), by repeat (first | exact Drawn0.refl _ | apply Drawn0.step)⟩
      ·rw [if_neg c6] at H
       have c6b0 : decide ((bt a0 x6_1) < 33) = false := decide_eq_false c6
       clear c6
       by_cases c8 : (bt a0 x6_1) > 126
       ·rw [if_pos c8] at H
        have c8b0 : decide (126 < (bt a0 x6_1)) = true := decide_eq_true c8
        clear c8
        obtain rfl := Option.some.inj H
        have p5 : 0 ≤ (x6_1 : Int) := of_decide_eq_true (by first | (with_reducible assumption) | assumption)
        have q5 : x6_1 < (a0.size : Int) := of_decide_eq_true (by first | (with_reducible assumption) | assumption)
        have hx5 := bt_at a0 x6_1
        replace p5 := eq_true p5
        replace q5 := eq_true q5
        have p7 : 0 ≤ (x6_1 : Int) := of_decide_eq_true (by first | (with_reducible assumption) | assumption)
        have q7 : x6_1 < (a0.size : Int) := of_decide_eq_true (by first | (with_reducible assumption) | assumption)
        have hx7 := bt_at a0 x6_1
        replace p7 := eq_true p7
        replace q7 := eq_true q7
        go_wp2
        go_ret
        exact ⟨by first | rfl | (simp; done) | (simp [*]; done), by repeat (first | exact Drawn0.refl _ | apply Drawn0.step)⟩
       ·rw [if_neg c8] at H
        have c8b0 : decide (126 < (bt a0 x6_1)) = false := decide_eq_false c8
        clear c8
        by_cases c10 : (bt a0 x6_1) = 35
        ·rw [if_pos c10] at H
         have c10b0 : ((bt a0 x6_1) == 35) = true := beq_iff_eq.mpr c10
         have c10b1 : ((bt a0 x6_1) != 35) = false := bne_eq_false_iff_eq.mpr c10
         clear c10
         obtain rfl := Option.some.inj H
         have p5 : 0 ≤ (x6_1 : Int) := of_decide_eq_true (by first | (with_reducible assumption) | assumption)
         have q5 : x6_1 < (a0.size : Int) := of_decide_eq_true (by first | (with_reducible assumption) | assumption)
         have hx5 := bt_at a0 x6_1
         replace p5 := eq_true p5
         replace q5 := eq_true q5
         have p7 : 0 ≤ (x6_1 : Int) := of_decide_eq_true (by first | (with_reducible assumption) | assumption)
         have q7 : x6_1 < (a0.size : Int) := of_decide_eq_true (by first | (with_reducible assumption) | assumption)
         have hx7 := bt_at a0 x6_1
         replace p7 := eq_true p7
         replace q7 := eq_true q7
         have p9 : 0 ≤ (x6_1 : Int) := of_decide_eq_true (by first | (with_reducible assumption) | assumption)
         have q9 : x6_1 < (a0.size : Int) := of_decide_eq_true (by first | (with_reducible assumption) | assumption)
         have hx9 := bt_at a0 x6_1
         replace p9 := eq_true p9
         replace q9 := eq_true q9
         go_wp2
         go_ret
         exact ⟨by first | rfl | (simp; done) | (simp [*]; done), by repeat (first | exact Drawn0.refl _ | apply Drawn0.step)⟩
        ·rw [if_neg c10] at H
         have c10b0 : ((bt a0 x6_1) == 35) = false := beq_eq_false_iff_ne.mpr c10
         have c10b1 : ((bt a0 x6_1) != 35) = true := bne_iff_ne.mpr c10
         have H' := Aside0.mk H
         clear H
         have p5 : 0 ≤ (x6_1 : Int) := of_decide_eq_true (by first | (with_reducible assumption) | assumption)
         have q5 : x6_1 < (a0.size : Int) := of_decide_eq_true (by first | (with_reducible assumption) | assumption)
         have hx5 := bt_at a0 x6_1
         replace p5 := eq_true p5
         replace q5 := eq_true q5
         have p7 : 0 ≤ (x6_1 : Int) := of_decide_eq_true (by first | (with_reducible assumption) | assumption)
         have q7 : x6_1 < (a0.size : Int) := of_decide_eq_true (by first | (with_reducible assumption) | assumption)
         have hx7 := bt_at a0 x6_1
         replace p7 := eq_true p7
         replace q7 := eq_true q7
         have p9 : 0 ≤ (x6_1 : Int) := of_decide_eq_true (by first | (with_reducible assumption) | assumption)
         have q9 : x6_1 < (a0.size : Int) := of_decide_eq_true (by first | (with_reducible assumption) | assumption)
         have hx9 := bt_at a0 x6_1
         replace p9 := eq_true p9
         replace q9 := eq_true q9
         go_wp2
         go_roundg k1
         case measure => have := HK1.out; omega
         case rel => exact ⟨(wrap64 (x6_1 + 1)), (by first | rfl | (simp; done) | (simp [*]; done)), H', ⟨by have := HK1.out; omega⟩, by repeat (first | exact Drawn0.refl _ | apply Drawn0.step)⟩
     ·rw [if_neg c4] at H
      exact absurd H (by simp)
    ·rw [if_neg c3] at H
     exact absurd H (by simp)
   ·rw [if_neg c2] at H
    have c2b0 : decide (x6_1 < (a0.size : Int)) = false := decide_eq_false c2
    clear c2
    obtain rfl := Option.some.inj H
    go_wp2
    go_ret
    exact ⟨by first | rfl | (simp; done) | (simp [*]; done), by repeat (first | exact Drawn0.refl _ | apply Drawn0.step)⟩
end Go.Proofs.YtalafpigfeiaiaaGreatDoor.Q
end
section
namespace Go.Proofs.YtalafpigfeiaiaaGreatDoor.Q
open Go.RowKit Go.Proofs.YtalafpigfeiaiaaGreatDoorW.PrintWords Go.Proofs.YtalafpigfeiaiaaGreatDoorW.PrintLast Go.Proofs.YtalafpigfeiaiaaGreatDoorW.PrintMore
attribute [local go_sem] max2_int min2_int max_two min_two max_three min_three max_four min_four
set_option linter.unusedVariables false
set_option linter.unusedSimpArgs false
def num_Fits.f (a0 : Int) : Option (Bool) := if a0 ≥ 0 then (some (decide (a0 ≤ 9007199254740992))) else (some false)
set_option maxHeartbeats 8000000 in
set_option maxRecDepth 100000 in
theorem num_Fits.calls (a0 : Int) (r : Bool) (w : World) (h : num_Fits.f a0 = some r) :
  Calls Tryz.prog 106 #[.int .i64 a0] w fun e w' => e = .returned (.bool r) ∧ Drawn0 w w' := by
 have H : (if a0 ≥ 0 then (some (decide (a0 ≤ 9007199254740992))) else (some false)) = some r := h
 clear h
 by_cases c2 : a0 ≥ 0
 ·rw [if_pos c2] at H
  have c2b0 : decide (0 ≤ a0) = true := decide_eq_true c2
  clear c2
  obtain rfl := Option.some.inj H
  go_enter Tryz.func106, Tryz.ntmps106
  go_wp2
  go_ret
  exact ⟨by first | rfl | (simp; done) | (simp [*]; done), by repeat (first | exact Drawn0.refl _ | apply Drawn0.step)⟩
 ·rw [if_neg c2] at H
  have c2b0 : decide (0 ≤ a0) = false := decide_eq_false c2
  clear c2
  obtain rfl := Option.some.inj H
  go_enter Tryz.func106, Tryz.ntmps106
  go_wp2
  go_ret
  exact ⟨by first | rfl | (simp; done) | (simp [*]; done), by repeat (first | exact Drawn0.refl _ | apply Drawn0.step)⟩
end Go.Proofs.YtalafpigfeiaiaaGreatDoor.Q
end
section
namespace Go.Proofs.YtalafpigfeiaiaaGreatDoor.Q
open Go.RowKit Go.Proofs.YtalafpigfeiaiaaGreatDoorW.PrintWords Go.Proofs.YtalafpigfeiaiaaGreatDoorW.PrintLast Go.Proofs.YtalafpigfeiaiaaGreatDoorW.PrintMore
attribute [local go_sem] max2_int min2_int max_two min_two max_three min_three max_four min_four
set_option linter.unusedVariables false
set_option linter.unusedSimpArgs false
mutual
def num_digit.j0 : Nat → Int → Int → Int → Bool → Option (Int)
 | 0, _, _, _, _ => none
 | k + 1, x0, x1, x5, x8 => if x8 = true then (some (wrap64 (x5 - 48))) else (if x0 ≥ 65 then (num_digit.j1 k x0 x1 x5 (decide (x0 ≤ 70))) else (num_digit.j1 k x0 x1 x5 false))
def num_digit.j1 : Nat → Int → Int → Int → Bool → Option (Int)
 | 0, _, _, _, _ => none
 | k + 1, x0, x1, x5, x15 => if x15 = true then (if x1 = 16 then (some (wrap64 ((wrap64 ((wrap64 (x5 + 32)) - 97)) + 10))) else (some (-1))) else (if x0 ≥ 97 then (num_digit.j2 k x1 x5 (decide (x0 ≤ 102))) else (num_digit.j2 k x1 x5 false))
def num_digit.j2 : Nat → Int → Int → Bool → Option (Int)
 | 0, _, _, _ => none
 | k + 1, x1, x5, x22 => if x22 = true then (if x1 = 16 then (some (wrap64 ((wrap64 (x5 - 97)) + 10))) else (some (-1))) else (some (-1))
end
def num_digit.f (k : Nat) (a0 : Int) (a1 : Int) : Option (Int) := if a0 ≥ 48 then (num_digit.j0 k a0 a1 (wrap64 (a0)) (decide (a0 ≤ 57))) else (num_digit.j0 k a0 a1 (wrap64 (a0)) false)
theorem num_digit.mono_l : ∀ k, (∀ y0 y1 y2 y3, LeO (num_digit.j0 k y0 y1 y2 y3) (num_digit.j0 (k + 1) y0 y1 y2 y3)) ∧ (∀ y0 y1 y2 y3, LeO (num_digit.j1 k y0 y1 y2 y3) (num_digit.j1 (k + 1) y0 y1 y2 y3)) ∧ (∀ y0 y1 y2, LeO (num_digit.j2 k y0 y1 y2) (num_digit.j2 (k + 1) y0 y1 y2))
 | 0 => ⟨fun _ _ _ _ r h => by simp [num_digit.j0] at h, fun _ _ _ _ r h => by simp [num_digit.j1] at h, fun _ _ _ r h => by simp [num_digit.j2] at h⟩
 | k + 1 => by
  obtain ⟨ih0, ih1, ih2⟩ := num_digit.mono_l k
  refine ⟨?_, ?_, ?_⟩
  ·intro y0 y1 y2 y3
   unfold num_digit.j0
   repeat' first
   | (with_reducible exact ih0 _ _ _ _)
   | (with_reducible exact ih1 _ _ _ _)
   | (with_reducible exact ih2 _ _ _)
   | (with_reducible exact LeO.refl _)
   | (with_reducible exact LeO.none _)
   | (with_reducible refine LeO.ite ?_ ?_)
   | (with_reducible refine LeO.bind ?_ (fun _ => ?_))
   | exact ih0 _ _ _ _
   | exact ih1 _ _ _ _
   | exact ih2 _ _ _
   | exact LeO.none _
   | refine LeO.ite ?_ ?_
   | refine LeO.bind ?_ (fun _ => ?_)
  ·intro y0 y1 y2 y3
   unfold num_digit.j1
   repeat' first
   | (with_reducible exact ih0 _ _ _ _)
   | (with_reducible exact ih1 _ _ _ _)
   | (with_reducible exact ih2 _ _ _)
   | (with_reducible exact LeO.refl _)
   | (with_reducible exact LeO.none _)
   | (with_reducible refine LeO.ite ?_ ?_)
   | (with_reducible refine LeO.bind ?_ (fun _ => ?_))
   | exact ih0 _ _ _ _
   | exact ih1 _ _ _ _
   | exact ih2 _ _ _
   | exact LeO.none _
   | refine LeO.ite ?_ ?_
   | refine LeO.bind ?_ (fun _ => ?_)
  ·intro y0 y1 y2
   unfold num_digit.j2
   repeat' first
   | (with_reducible exact ih0 _ _ _ _)
   | (with_reducible exact ih1 _ _ _ _)
   | (with_reducible exact ih2 _ _ _)
   | (with_reducible exact LeO.refl _)
   | (with_reducible exact LeO.none _)
   | (with_reducible refine LeO.ite ?_ ?_)
   | (with_reducible refine LeO.bind ?_ (fun _ => ?_))
   | exact ih0 _ _ _ _
   | exact ih1 _ _ _ _
   | exact ih2 _ _ _
   | exact LeO.none _
   | refine LeO.ite ?_ ?_
   | refine LeO.bind ?_ (fun _ => ?_)
theorem num_digit.mono : ∀ a0 a1 k, LeO (num_digit.f k a0 a1) (num_digit.f (k + 1) a0 a1) := by
 intro a0 a1 k
 obtain ⟨ih0, ih1, ih2⟩ := num_digit.mono_l k
 unfold num_digit.f
 repeat' first
   | (with_reducible exact ih0 _ _ _ _)
   | (with_reducible exact ih1 _ _ _ _)
   | (with_reducible exact ih2 _ _ _)
   | (with_reducible exact LeO.refl _)
   | (with_reducible exact LeO.none _)
   | (with_reducible refine LeO.ite ?_ ?_)
   | (with_reducible refine LeO.bind ?_ (fun _ => ?_))
   | exact ih0 _ _ _ _
   | exact ih1 _ _ _ _
   | exact ih2 _ _ _
   | exact LeO.none _
   | refine LeO.ite ?_ ?_
   | refine LeO.bind ?_ (fun _ => ?_)
set_option maxHeartbeats 8000000 in
set_option maxRecDepth 100000 in
theorem num_digit.calls (k : Nat) (a0 : Int) (a1 : Int) (r : Int) (w : World) (h : num_digit.f k a0 a1 = some r) :
  Calls Tryz.prog 206 #[.int .u8 a0, .int .i64 a1] w fun e w' => e = .returned (.int .i64 r) ∧ Drawn0 w w' := by
 have H : (if a0 ≥ 48 then (num_digit.j0 k a0 a1 (wrap64 (a0)) (decide (a0 ≤ 57))) else (num_digit.j0 k a0 a1 (wrap64 (a0)) false)) = some r := h
 clear h
 have HC3 := Aside0.mk H
 clear H
 go_enter Tryz.func206, Tryz.ntmps206
 go_upto_region 2 with (fail)
 go_cut [8] (fun v8 wc => ∃ (kq : Nat) (x8_2 : Bool), v8 = .bool x8_2 ∧ Aside0 (num_digit.j0 kq a0 a1 (wrap64 (a0)) x8_2 = some r) ∧ Aside0 (kq ≤ k) ∧ Drawn0 w wc)
 case first =>
  have H := HC3.out
  clear HC3
  by_cases c4 : a0 ≥ 48
  ·rw [if_pos c4] at H
   have c4b0 : decide (48 ≤ a0) = true := decide_eq_true c4
   clear c4
   (first | rw [c4b0] | (simp only [i64_w, i32_w]; rw [c4b0]) | skip)
   have H' := Aside0.mk H
   clear H
   go_wp2
   go_meet
   case rel => exact ⟨_, (decide (a0 ≤ 57)), (by first | rfl | (simp; done) | (simp [*]; done)), H', ⟨by first | omega | exact Nat.le_refl _⟩, by repeat (first | exact Drawn0.refl _ | apply Drawn0.step)⟩
  ·rw [if_neg c4] at H
   have c4b0 : decide (48 ≤ a0) = false := decide_eq_false c4
   clear c4
   (first | rw [c4b0] | (simp only [i64_w, i32_w]; rw [c4b0]) | skip)
   have H' := Aside0.mk H
   clear H
   go_wp2
   go_meet
   case rel => exact ⟨_, (false), (by first | rfl | (simp; done) | (simp [*]; done)), H', ⟨by first | omega | exact Nat.le_refl _⟩, by repeat (first | exact Drawn0.refl _ | apply Drawn0.step)⟩
 case rest =>
  clear HC3
  try clear c2
  try clear p2
  try clear c4
  try clear c4b0
  obtain ⟨kq, x8_2, rfl, HA, HJ2, ⟨mc2, rfl⟩⟩ := hcut
  cases kq with
  | zero => exact absurd HA.out (by simp [num_digit.j0])
  | succ kj2 =>
   have H := HA.out
   clear HA
   simp only [num_digit.j0] at H
   by_cases c5 : x8_2 = true
   ·subst c5
    have H1 : (some (wrap64 ((wrap64 (a0)) - 48))) = some r := by rw [if_pos rfl] at H; exact H
    clear H
    have H := H1
    clear H1
    obtain rfl := Option.some.inj H
    go_wp2
    go_ret
    exact ⟨by first | rfl | (simp; done) | (simp [*]; done), by repeat (first | exact Drawn0.refl _ | apply Drawn0.step)⟩
   ·replace c5 := Bool.eq_false_iff.mpr c5
    subst c5
    have H1 : (if a0 ≥ 65 then (num_digit.j1 kj2 a0 a1 (wrap64 (a0)) (decide (a0 ≤ 70))) else (num_digit.j1 kj2 a0 a1 (wrap64 (a0)) false)) = some r := by rw [if_neg (show ¬ (false = true) by decide)] at H; exact H
    clear H
    have H := H1
    clear H1
    have HC6 := Aside0.mk H
    clear H
    go_upto_region 3 with (fail)
    go_cut [15] (fun v15 wc => ∃ (kq : Nat) (x15_5 : Bool), v15 = .bool x15_5 ∧ Aside0 (num_digit.j1 kq a0 a1 (wrap64 (a0)) x15_5 = some r) ∧ Aside0 (kq ≤ kj2) ∧ Drawn0 w wc)
    case first =>
     have H := HC6.out
     clear HC6
     by_cases c7 : a0 ≥ 65
     ·rw [if_pos c7] at H
      have c7b0 : decide (65 ≤ a0) = true := decide_eq_true c7
      clear c7
      (first | rw [c7b0] | (simp only [i64_w, i32_w]; rw [c7b0]) | skip)
      have H' := Aside0.mk H
      clear H
      go_wp2
      go_meet
      case rel => exact ⟨_, (decide (a0 ≤ 70)), (by first | rfl | (simp; done) | (simp [*]; done)), H', ⟨by have := HJ2.out; first | omega | exact Nat.le_refl _⟩, by repeat (first | exact Drawn0.refl _ | apply Drawn0.step)⟩
     ·rw [if_neg c7] at H
      have c7b0 : decide (65 ≤ a0) = false := decide_eq_false c7
      clear c7
      (first | rw [c7b0] | (simp only [i64_w, i32_w]; rw [c7b0]) | skip)
      have H' := Aside0.mk H
      clear H
      go_wp2
      go_meet
      case rel => exact ⟨_, (false), (by first | rfl | (simp; done) | (simp [*]; done)), H', ⟨by have := HJ2.out; first | omega | exact Nat.le_refl _⟩, by repeat (first | exact Drawn0.refl _ | apply Drawn0.step)⟩
    case rest =>
     clear HC6
     try clear c2
     try clear p2
     try clear c4
     try clear c4b0
     try clear c5
     try clear p6
     try clear c7
     try clear c7b0
     try clear p2
     obtain ⟨kq, x15_5, rfl, HA, HJ5, ⟨mc5, rfl⟩⟩ := hcut
     cases kq with
     | zero => exact absurd HA.out (by simp [num_digit.j1])
     | succ kj5 =>
      have H := HA.out
      clear HA
      simp only [num_digit.j1] at H
      by_cases c8 : x15_5 = true
      ·subst c8
       have H1 : (if a1 = 16 then (some (wrap64 ((wrap64 ((wrap64 ((wrap64 (a0)) + 32)) - 97)) + 10))) else (some (-1))) = some r := by rw [if_pos rfl] at H; exact H
       clear H
       have H := H1
       clear H1
       by_cases c9 : a1 = 16
       ·rw [if_pos c9] at H
        have c9b0 : (a1 == 16) = true := beq_iff_eq.mpr c9
        have c9b1 : (a1 != 16) = false := bne_eq_false_iff_eq.mpr c9
        clear c9
        obtain rfl := Option.some.inj H
        go_wp2
        go_ret
        exact ⟨by first | rfl | (simp; done) | (simp [*]; done), by repeat (first | exact Drawn0.refl _ | apply Drawn0.step)⟩
       ·rw [if_neg c9] at H
        have c9b0 : (a1 == 16) = false := beq_eq_false_iff_ne.mpr c9
        have c9b1 : (a1 != 16) = true := bne_iff_ne.mpr c9
        obtain rfl := Option.some.inj H
        go_wp2
        go_ret
        exact ⟨by first | rfl | (simp; done) | (simp [*]; done), by repeat (first | exact Drawn0.refl _ | apply Drawn0.step)⟩
      ·replace c8 := Bool.eq_false_iff.mpr c8
       subst c8
       have H1 : (if a0 ≥ 97 then (num_digit.j2 kj5 a1 (wrap64 (a0)) (decide (a0 ≤ 102))) else (num_digit.j2 kj5 a1 (wrap64 (a0)) false)) = some r := by rw [if_neg (show ¬ (false = true) by decide)] at H; exact H
       clear H
       have H := H1
       clear H1
       have HC10 := Aside0.mk H
       clear H
       go_upto_region 4 with (fail)
       go_cut [22] (fun v22 wc => ∃ (kq : Nat) (x22_9 : Bool), v22 = .bool x22_9 ∧ Aside0 (num_digit.j2 kq a1 (wrap64 (a0)) x22_9 = some r) ∧ Aside0 (kq ≤ kj5) ∧ Drawn0 w wc)
       case first =>
        have H := HC10.out
        clear HC10
        by_cases c11 : a0 ≥ 97
        ·rw [if_pos c11] at H
         have c11b0 : decide (97 ≤ a0) = true := decide_eq_true c11
         clear c11
         (first | rw [c11b0] | (simp only [i64_w, i32_w]; rw [c11b0]) | skip)
         have H' := Aside0.mk H
         clear H
         go_wp2
         go_meet
         case rel => exact ⟨_, (decide (a0 ≤ 102)), (by first | rfl | (simp; done) | (simp [*]; done)), H', ⟨by have := HJ2.out; have := HJ5.out; first | omega | exact Nat.le_refl _⟩, by repeat (first | exact Drawn0.refl _ | apply Drawn0.step)⟩
        ·rw [if_neg c11] at H
         have c11b0 : decide (97 ≤ a0) = false := decide_eq_false c11
         clear c11
         (first | rw [c11b0] | (simp only [i64_w, i32_w]; rw [c11b0]) | skip)
         have H' := Aside0.mk H
         clear H
         go_wp2
         go_meet
         case rel => exact ⟨_, (false), (by first | rfl | (simp; done) | (simp [*]; done)), H', ⟨by have := HJ2.out; have := HJ5.out; first | omega | exact Nat.le_refl _⟩, by repeat (first | exact Drawn0.refl _ | apply Drawn0.step)⟩
       case rest =>
        clear HC10
        try clear c1
        try clear c2
        try clear p2
        try clear c4
        try clear c4b0
        try clear c5
        try clear p6
        try clear c7
        try clear c7b0
        try clear c8
        try clear c9
        try clear c9b0
        try clear c9b1
        try clear c11
        try clear c11b0
        try clear p2
        try clear p6
        obtain ⟨kq, x22_9, rfl, HA, HJ9, ⟨mc9, rfl⟩⟩ := hcut
        cases kq with
        | zero => exact absurd HA.out (by simp [num_digit.j2])
        | succ kj9 =>
         have H := HA.out
         clear HA
         simp only [num_digit.j2] at H
         by_cases c12 : x22_9 = true
         ·subst c12
          have H1 : (if a1 = 16 then (some (wrap64 ((wrap64 ((wrap64 (a0)) - 97)) + 10))) else (some (-1))) = some r := by rw [if_pos rfl] at H; exact H
          clear H
          have H := H1
          clear H1
          by_cases c13 : a1 = 16
          ·rw [if_pos c13] at H
           have c13b0 : (a1 == 16) = true := beq_iff_eq.mpr c13
           have c13b1 : (a1 != 16) = false := bne_eq_false_iff_eq.mpr c13
           clear c13
           obtain rfl := Option.some.inj H
           go_wp2
           go_ret
           exact ⟨by first | rfl | (simp; done) | (simp [*]; done), by repeat (first | exact Drawn0.refl _ | apply Drawn0.step)⟩
          ·rw [if_neg c13] at H
           have c13b0 : (a1 == 16) = false := beq_eq_false_iff_ne.mpr c13
           have c13b1 : (a1 != 16) = true := bne_iff_ne.mpr c13
           obtain rfl := Option.some.inj H
           go_wp2
           go_ret
           exact ⟨by first | rfl | (simp; done) | (simp [*]; done), by repeat (first | exact Drawn0.refl _ | apply Drawn0.step)⟩
         ·replace c12 := Bool.eq_false_iff.mpr c12
          subst c12
          have H1 : (some (-1)) = some r := by rw [if_neg (show ¬ (false = true) by decide)] at H; exact H
          clear H
          have H := H1
          clear H1
          obtain rfl := Option.some.inj H
          go_wp2
          go_ret
          exact ⟨by first | rfl | (simp; done) | (simp [*]; done), by repeat (first | exact Drawn0.refl _ | apply Drawn0.step)⟩
end Go.Proofs.YtalafpigfeiaiaaGreatDoor.Q
end
section
namespace Go.Proofs.YtalafpigfeiaiaaGreatDoor.Q
open Go.RowKit Go.Proofs.YtalafpigfeiaiaaGreatDoorW.PrintWords Go.Proofs.YtalafpigfeiaiaaGreatDoorW.PrintLast Go.Proofs.YtalafpigfeiaiaaGreatDoorW.PrintMore
attribute [local go_sem] max2_int min2_int max_two min_two max_three min_three max_four min_four
set_option linter.unusedVariables false
set_option linter.unusedSimpArgs false
mutual
def num_Parse.j0 : Nat → ByteArray → Int → Int → Int → Bool → Option (Int × Int)
 | 0, _, _, _, _, _ => none
 | k + 1, x0, x1, x4, x5, x17 => if x17 = true then (some (0, 1)) else (num_Parse.l0 k x0 x1 x4 x5 (x0.size : Int) 0)
def num_Parse.l0 : Nat → ByteArray → Int → Int → Int → Int → Int → Option (Int × Int)
 | 0, _, _, _, _, _, _ => none
 | k + 1, x0, x1, x4, x5, x19, x20 => if x20 < x19 then (if 0 ≤ x20 then (if x20 < (x0.size : Int) then ((num_digit.f k (bt x0 x20) x1).bind fun t532 => (if t532 = (-1) then (some (0, 1)) else (if x5 = 0 then ((num_Fits.f (wrap64 ((wrap64 (x4 * x1)) + t532))).bind fun t533 => (if t533 = true then (num_Parse.l0 k x0 x1 (wrap64 ((wrap64 (x4 * x1)) + t532)) x5 x19 (wrap64 (x20 + 1))) else (num_Parse.l0 k x0 x1 0 3 x19 (wrap64 (x20 + 1))))) else ((num_Fits.f x4).bind fun t534 => (if t534 = true then (num_Parse.l0 k x0 x1 x4 x5 x19 (wrap64 (x20 + 1))) else (num_Parse.l0 k x0 x1 0 3 x19 (wrap64 (x20 + 1)))))))) else (none)) else (none)) else (some (x4, x5))
end
def num_Parse.f (k : Nat) (a0 : ByteArray) (a1 : Int) : Option (Int × Int) := if a0.toList = ([] : List UInt8) then (num_Parse.j0 k a0 a1 0 0 true) else (if a1 = 10 then (num_Parse.j0 k a0 a1 0 0 false) else (num_Parse.j0 k a0 a1 0 0 (a1 != 16)))
theorem num_Parse.mono_l : ∀ k, (∀ y0 y1 y2 y3 y4, LeO (num_Parse.j0 k y0 y1 y2 y3 y4) (num_Parse.j0 (k + 1) y0 y1 y2 y3 y4)) ∧ (∀ y0 y1 y2 y3 y4 y5, LeO (num_Parse.l0 k y0 y1 y2 y3 y4 y5) (num_Parse.l0 (k + 1) y0 y1 y2 y3 y4 y5))
 | 0 => ⟨fun _ _ _ _ _ r h => by simp [num_Parse.j0] at h, fun _ _ _ _ _ _ r h => by simp [num_Parse.l0] at h⟩
 | k + 1 => by
  obtain ⟨ih0, ih1⟩ := num_Parse.mono_l k
  refine ⟨?_, ?_⟩
  ·intro y0 y1 y2 y3 y4
   unfold num_Parse.j0
   repeat' first
   | (with_reducible exact ih0 _ _ _ _ _)
   | (with_reducible exact ih1 _ _ _ _ _ _)
   | (with_reducible exact num_digit.mono _ _ _)
   | (with_reducible exact LeO.refl _)
   | (with_reducible exact LeO.none _)
   | (with_reducible refine LeO.ite ?_ ?_)
   | (with_reducible refine LeO.bind ?_ (fun _ => ?_))
   | exact ih0 _ _ _ _ _
   | exact ih1 _ _ _ _ _ _
   | exact num_digit.mono _ _ _
   | exact LeO.none _
   | refine LeO.ite ?_ ?_
   | refine LeO.bind ?_ (fun _ => ?_)
  ·intro y0 y1 y2 y3 y4 y5
   unfold num_Parse.l0
   repeat' first
   | (with_reducible exact ih0 _ _ _ _ _)
   | (with_reducible exact ih1 _ _ _ _ _ _)
   | (with_reducible exact num_digit.mono _ _ _)
   | (with_reducible exact LeO.refl _)
   | (with_reducible exact LeO.none _)
   | (with_reducible refine LeO.ite ?_ ?_)
   | (with_reducible refine LeO.bind ?_ (fun _ => ?_))
   | exact ih0 _ _ _ _ _
   | exact ih1 _ _ _ _ _ _
   | exact num_digit.mono _ _ _
   | exact LeO.none _
   | refine LeO.ite ?_ ?_
   | refine LeO.bind ?_ (fun _ => ?_)
theorem num_Parse.mono : ∀ a0 a1 k, LeO (num_Parse.f k a0 a1) (num_Parse.f (k + 1) a0 a1) := by
 intro a0 a1 k
 obtain ⟨ih0, ih1⟩ := num_Parse.mono_l k
 unfold num_Parse.f
 repeat' first
   | (with_reducible exact ih0 _ _ _ _ _)
   | (with_reducible exact ih1 _ _ _ _ _ _)
   | (with_reducible exact num_digit.mono _ _ _)
   | (with_reducible exact LeO.refl _)
   | (with_reducible exact LeO.none _)
   | (with_reducible refine LeO.ite ?_ ?_)
   | (with_reducible refine LeO.bind ?_ (fun _ => ?_))
   | exact ih0 _ _ _ _ _
   | exact ih1 _ _ _ _ _ _
   | exact num_digit.mono _ _ _
   | exact LeO.none _
   | refine LeO.ite ?_ ?_
   | refine LeO.bind ?_ (fun _ => ?_)
set_option maxHeartbeats 8000000 in
set_option maxRecDepth 100000 in
theorem num_Parse.calls (k : Nat) (a0 : ByteArray) (a1 : Int) (r1 : Int) (r2 : Int) (w : World) (h : num_Parse.f k a0 a1 = some (r1, r2)) :
  Calls Tryz.prog 169 #[.string a0, .int .i64 a1] w fun e w' => e = .returned (.tuple #[.int .i64 r1, .int .i64 r2]) ∧ Drawn0 w w' := by
 have H : (if a0.toList = ([] : List UInt8) then (num_Parse.j0 k a0 a1 0 0 true) else (if a1 = 10 then (num_Parse.j0 k a0 a1 0 0 false) else (num_Parse.j0 k a0 a1 0 0 (a1 != 16)))) = some (r1, r2) := h
 clear h
 have HC3 := Aside0.mk H
 clear H
 go_enter Tryz.func169, Tryz.ntmps169
 go_upto_region 1 with (fail)
 go_cut [17] (fun v17 wc => ∃ (kq : Nat) (x17_2 : Bool), v17 = .bool x17_2 ∧ Aside0 (num_Parse.j0 kq a0 a1 0 0 x17_2 = some (r1, r2)) ∧ Aside0 (kq ≤ k) ∧ Drawn0 w wc)
 case first =>
  have H := HC3.out
  clear HC3
  by_cases c4 : a0.toList = ([] : List UInt8)
  ·rw [if_pos c4] at H
   have c4b0 : (a0.toList == ([] : List UInt8)) = true := beq_iff_eq.mpr c4
   have c4b1 : (a0.toList != ([] : List UInt8)) = false := bne_eq_false_iff_eq.mpr c4
   clear c4
   (first | rw [c4b0] | (simp only [i64_w, i32_w]; rw [c4b0]) | skip)
   have H' := Aside0.mk H
   clear H
   go_wp2
   go_meet
   case rel => exact ⟨_, (true), (by first | rfl | (simp; done) | (simp [*]; done)), H', ⟨by first | omega | exact Nat.le_refl _⟩, by repeat (first | exact Drawn0.refl _ | apply Drawn0.step)⟩
  ·rw [if_neg c4] at H
   have c4b0 : (a0.toList == ([] : List UInt8)) = false := beq_eq_false_iff_ne.mpr c4
   have c4b1 : (a0.toList != ([] : List UInt8)) = true := bne_iff_ne.mpr c4
   (first | rw [c4b0] | (simp only [i64_w, i32_w]; rw [c4b0]) | skip)
   by_cases c5 : a1 = 10
   ·rw [if_pos c5] at H
    have c5b0 : (a1 == 10) = true := beq_iff_eq.mpr c5
    have c5b1 : (a1 != 10) = false := bne_eq_false_iff_eq.mpr c5
    clear c5
    have H' := Aside0.mk H
    clear H
    go_wp2
    go_meet
    case rel => exact ⟨_, (false), (by first | rfl | (simp; done) | (simp [*]; done)), H', ⟨by first | omega | exact Nat.le_refl _⟩, by repeat (first | exact Drawn0.refl _ | apply Drawn0.step)⟩
   ·rw [if_neg c5] at H
    have c5b0 : (a1 == 10) = false := beq_eq_false_iff_ne.mpr c5
    have c5b1 : (a1 != 10) = true := bne_iff_ne.mpr c5
    have H' := Aside0.mk H
    clear H
    go_wp2
    go_meet
    case rel => exact ⟨_, ((a1 != 16)), (by first | rfl | (simp; done) | (simp [*]; done)), H', ⟨by first | omega | exact Nat.le_refl _⟩, by repeat (first | exact Drawn0.refl _ | apply Drawn0.step)⟩
 case rest =>
  clear HC3
  try clear c1
  try clear p2
  try clear c4
  try clear c4b0
  try clear c4b1
  try clear c5
  try clear c5b0
  try clear c5b1
  obtain ⟨kq, x17_2, rfl, HA, HJ2, ⟨mc2, rfl⟩⟩ := hcut
  cases kq with
  | zero => exact absurd HA.out (by simp [num_Parse.j0])
  | succ kj2 =>
   have H := HA.out
   clear HA
   simp only [num_Parse.j0] at H
   by_cases c6 : x17_2 = true
   ·subst c6
    have H1 : (some (0, 1)) = some (r1, r2) := by rw [if_pos rfl] at H; exact H
    clear H
    have H := H1
    clear H1
    simp only [Option.some.injEq, Prod.mk.injEq] at H
    obtain ⟨rfl, rfl⟩ := H
    go_wp2
    go_ret2
    exact ⟨by first | rfl | (simp; done) | (simp [*]; done), by repeat (first | exact Drawn0.refl _ | apply Drawn0.step)⟩
   ·replace c6 := Bool.eq_false_iff.mpr c6
    subst c6
    have H1 : (num_Parse.l0 kj2 a0 a1 0 0 (a0.size : Int) 0) = some (r1, r2) := by rw [if_neg (show ¬ (false = true) by decide)] at H; exact H
    clear H
    have H := H1
    clear H1
    have H' := Aside0.mk H
    clear H
    go_wp2
    go_loopg [4, 5, 20] kj2 (fun kq v4 v5 v20 w' => ∃ (x4_2 : Int) (x5_2 : Int) (x20_2 : Int), v4 = .int .i64 x4_2 ∧ v5 = .int .i64 x5_2 ∧ v20 = .int .i64 x20_2 ∧ Aside0 (num_Parse.l0 kq a0 a1 x4_2 x5_2 (a0.size : Int) x20_2 = some (r1, r2)) ∧ Aside0 (kq ≤ kj2) ∧ Drawn0 w w')
    case atStart => exact ⟨(0), (0), (0), (by first | rfl | (simp; done) | (simp [*]; done)), (by first | rfl | (simp; done) | (simp [*]; done)), (by first | rfl | (simp; done) | (simp [*]; done)), H', ⟨Nat.le_refl _⟩, by repeat (first | exact Drawn0.refl _ | apply Drawn0.step)⟩
    case round =>
     clear H'
     try clear c1
     try clear c2
     try clear p2
     try clear c4
     try clear c4b0
     try clear c4b1
     try clear c5
     try clear c5b0
     try clear c5b1
     try clear c6
     try clear p2
     obtain ⟨x4_2, x5_2, x20_2, rfl, rfl, rfl, HA, HK2, ⟨m2, rfl⟩⟩ := hrel
     cases gk with
     | zero => exact absurd HA.out (by simp [num_Parse.l0])
     | succ k2 =>
      have H := HA.out
      clear HA
      simp only [num_Parse.l0] at H
      by_cases c7 : x20_2 < (a0.size : Int)
      ·rw [if_pos c7] at H
       have c7b0 : decide (x20_2 < (a0.size : Int)) = true := decide_eq_true c7
       clear c7
       by_cases c8 : 0 ≤ x20_2
       ·rw [if_pos c8] at H
        have c8b0 : decide (0 ≤ x20_2) = true := decide_eq_true c8
        clear c8
        by_cases c9 : x20_2 < (a0.size : Int)
        ·rw [if_pos c9] at H
         have c9b0 : decide (x20_2 < (a0.size : Int)) = true := decide_eq_true c9
         clear c9
         replace H := Option.bind_eq_some_iff.mp H
         obtain ⟨t532, A110, H⟩ := H
         replace H : (if t532 = (-1) then (some (0, 1)) else (if x5_2 = 0 then ((num_Fits.f (wrap64 ((wrap64 (x4_2 * a1)) + t532))).bind fun t533 => (if t533 = true then (num_Parse.l0 k2 a0 a1 (wrap64 ((wrap64 (x4_2 * a1)) + t532)) x5_2 (a0.size : Int) (wrap64 (x20_2 + 1))) else (num_Parse.l0 k2 a0 a1 0 3 (a0.size : Int) (wrap64 (x20_2 + 1))))) else ((num_Fits.f x4_2).bind fun t534 => (if t534 = true then (num_Parse.l0 k2 a0 a1 x4_2 x5_2 (a0.size : Int) (wrap64 (x20_2 + 1))) else (num_Parse.l0 k2 a0 a1 0 3 (a0.size : Int) (wrap64 (x20_2 + 1))))))) = some (r1, r2) := H
         have A11 := Aside0.mk A110
         clear A110
         by_cases c12 : t532 = (-1)
         ·rw [if_pos c12] at H
          have c12b0 : (t532 == (-1)) = true := beq_iff_eq.mpr c12
          have c12b1 : (t532 != (-1)) = false := bne_eq_false_iff_eq.mpr c12
          clear c12
          simp only [Option.some.injEq, Prod.mk.injEq] at H
          obtain ⟨rfl, rfl⟩ := H
          have p10 : 0 ≤ (x20_2 : Int) := of_decide_eq_true (by first | (with_reducible assumption) | assumption)
          have q10 : x20_2 < (a0.size : Int) := of_decide_eq_true (by first | (with_reducible assumption) | assumption)
          have hx10 := bt_at a0 x20_2
          replace p10 := eq_true p10
          replace q10 := eq_true q10
          go_wp2_with (first | ((with_reducible refine gate_callee (f := 206) rfl ?_); refine goesL_ (some 27) rfl rfl Tryz.func206 (by kernel_rfl) rfl #[.int .u8 (bt a0 x20_2), .int .i64 a1] rfl (by (try simp only [List.map_toArray, List.map_cons, List.map_nil]); first | done | rfl | (simp only [List.length_drop, List.length_take]; rfl)) ?_; (with_reducible refine (num_digit.calls k2 (bt a0 x20_2) a1 t532 _ A11.out).mono ?_); rintro e w' ⟨rfl, ⟨nd, rfl⟩⟩; refine ⟨_, rfl, ?_⟩))
          go_ret2
          exact ⟨by first | rfl | (simp; done) | (simp [*]; done), by repeat (first | exact Drawn0.refl _ | apply Drawn0.step)⟩
         ·rw [if_neg c12] at H
          have c12b0 : (t532 == (-1)) = false := beq_eq_false_iff_ne.mpr c12
          have c12b1 : (t532 != (-1)) = true := bne_iff_ne.mpr c12
          by_cases c13 : x5_2 = 0
          ·rw [if_pos c13] at H
           have c13b0 : (x5_2 == 0) = true := beq_iff_eq.mpr c13
           have c13b1 : (x5_2 != 0) = false := bne_eq_false_iff_eq.mpr c13
           clear c13
           replace H := Option.bind_eq_some_iff.mp H
           obtain ⟨t533, A140, H⟩ := H
           replace H : (if t533 = true then (num_Parse.l0 k2 a0 a1 (wrap64 ((wrap64 (x4_2 * a1)) + t532)) x5_2 (a0.size : Int) (wrap64 (x20_2 + 1))) else (num_Parse.l0 k2 a0 a1 0 3 (a0.size : Int) (wrap64 (x20_2 + 1)))) = some (r1, r2) := H
           have A14 := Aside0.mk A140
           clear A140
           by_cases c15 : t533 = true
           ·subst c15
            have H1 : (num_Parse.l0 k2 a0 a1 (wrap64 ((wrap64 (x4_2 * a1)) + t532)) x5_2 (a0.size : Int) (wrap64 (x20_2 + 1))) = some (r1, r2) := by rw [if_pos rfl] at H; exact H
            clear H
            have H := H1
            clear H1
            have H' := Aside0.mk H
            clear H
            have p10 : 0 ≤ (x20_2 : Int) := of_decide_eq_true (by first | (with_reducible assumption) | assumption)
            have q10 : x20_2 < (a0.size : Int) := of_decide_eq_true (by first | (with_reducible assumption) | assumption)
            have hx10 := bt_at a0 x20_2
            replace p10 := eq_true p10
            replace q10 := eq_true q10
            go_wp2_with (first | ((with_reducible refine gate_callee (f := 206) rfl ?_); refine goesL_ (some 27) rfl rfl Tryz.func206 (by kernel_rfl) rfl #[.int .u8 (bt a0 x20_2), .int .i64 a1] rfl (by (try simp only [List.map_toArray, List.map_cons, List.map_nil]); first | done | rfl | (simp only [List.length_drop, List.length_take]; rfl)) ?_; (with_reducible refine (num_digit.calls k2 (bt a0 x20_2) a1 t532 _ A11.out).mono ?_); rintro e w' ⟨rfl, ⟨nd, rfl⟩⟩; refine ⟨_, rfl, ?_⟩) | ((with_reducible refine gate_callee (f := 106) rfl ?_); refine goesL_ (some 38) rfl rfl Tryz.func106 (by kernel_rfl) rfl #[.int .i64 (wrap64 ((wrap64 (x4_2 * a1)) + t532))] rfl (by (try simp only [List.map_toArray, List.map_cons, List.map_nil]); first | done | rfl | (simp only [List.length_drop, List.length_take]; rfl)) ?_; (with_reducible refine (num_Fits.calls (wrap64 ((wrap64 (x4_2 * a1)) + t532)) true _ A14.out).mono ?_); rintro e w' ⟨rfl, ⟨nd, rfl⟩⟩; refine ⟨_, rfl, ?_⟩))
            go_roundg k2
            case measure => have := HJ2.out; have := HK2.out; omega
            case rel => exact ⟨(wrap64 ((wrap64 (x4_2 * a1)) + t532)), (x5_2), (wrap64 (x20_2 + 1)), (by first | rfl | (simp; done) | (simp [*]; done)), (by first | rfl | (simp; done) | (simp [*]; done)), (by first | rfl | (simp; done) | (simp [*]; done)), H', ⟨by have := HJ2.out; have := HK2.out; omega⟩, by repeat (first | exact Drawn0.refl _ | apply Drawn0.step)⟩
           ·replace c15 := Bool.eq_false_iff.mpr c15
            subst c15
            have H1 : (num_Parse.l0 k2 a0 a1 0 3 (a0.size : Int) (wrap64 (x20_2 + 1))) = some (r1, r2) := by rw [if_neg (show ¬ (false = true) by decide)] at H; exact H
            clear H
            have H := H1
            clear H1
            have H' := Aside0.mk H
            clear H
            have p10 : 0 ≤ (x20_2 : Int) := of_decide_eq_true (by first | (with_reducible assumption) | assumption)
            have q10 : x20_2 < (a0.size : Int) := of_decide_eq_true (by first | (with_reducible assumption) | assumption)
            have hx10 := bt_at a0 x20_2
            replace p10 := eq_true p10
            replace q10 := eq_true q10
            go_wp2_with (first | ((with_reducible refine gate_callee (f := 206) rfl ?_); refine goesL_ (some 27) rfl rfl Tryz.func206 (by kernel_rfl) rfl #[.int .u8 (bt a0 x20_2), .int .i64 a1] rfl (by (try simp only [List.map_toArray, List.map_cons, List.map_nil]); first | done | rfl | (simp only [List.length_drop, List.length_take]; rfl)) ?_; (with_reducible refine (num_digit.calls k2 (bt a0 x20_2) a1 t532 _ A11.out).mono ?_); rintro e w' ⟨rfl, ⟨nd, rfl⟩⟩; refine ⟨_, rfl, ?_⟩) | ((with_reducible refine gate_callee (f := 106) rfl ?_); refine goesL_ (some 38) rfl rfl Tryz.func106 (by kernel_rfl) rfl #[.int .i64 (wrap64 ((wrap64 (x4_2 * a1)) + t532))] rfl (by (try simp only [List.map_toArray, List.map_cons, List.map_nil]); first | done | rfl | (simp only [List.length_drop, List.length_take]; rfl)) ?_; (with_reducible refine (num_Fits.calls (wrap64 ((wrap64 (x4_2 * a1)) + t532)) false _ A14.out).mono ?_); rintro e w' ⟨rfl, ⟨nd, rfl⟩⟩; refine ⟨_, rfl, ?_⟩))
            go_roundg k2
            case measure => have := HJ2.out; have := HK2.out; omega
            case rel => exact ⟨(0), (3), (wrap64 (x20_2 + 1)), (by first | rfl | (simp; done) | (simp [*]; done)), (by first | rfl | (simp; done) | (simp [*]; done)), (by first | rfl | (simp; done) | (simp [*]; done)), H', ⟨by have := HJ2.out; have := HK2.out; omega⟩, by repeat (first | exact Drawn0.refl _ | apply Drawn0.step)⟩
          ·rw [if_neg c13] at H
           have c13b0 : (x5_2 == 0) = false := beq_eq_false_iff_ne.mpr c13
           have c13b1 : (x5_2 != 0) = true := bne_iff_ne.mpr c13
           replace H := Option.bind_eq_some_iff.mp H
           obtain ⟨t534, A160, H⟩ := H
           replace H : (if t534 = true then (num_Parse.l0 k2 a0 a1 x4_2 x5_2 (a0.size : Int) (wrap64 (x20_2 + 1))) else (num_Parse.l0 k2 a0 a1 0 3 (a0.size : Int) (wrap64 (x20_2 + 1)))) = some (r1, r2) := H
           have A16 := Aside0.mk A160
           clear A160
           by_cases c17 : t534 = true
           ·subst c17
            have H1 : (num_Parse.l0 k2 a0 a1 x4_2 x5_2 (a0.size : Int) (wrap64 (x20_2 + 1))) = some (r1, r2) := by rw [if_pos rfl] at H; exact H
            clear H
            have H := H1
            clear H1
            have H' := Aside0.mk H
            clear H
            have p10 : 0 ≤ (x20_2 : Int) := of_decide_eq_true (by first | (with_reducible assumption) | assumption)
            have q10 : x20_2 < (a0.size : Int) := of_decide_eq_true (by first | (with_reducible assumption) | assumption)
            have hx10 := bt_at a0 x20_2
            replace p10 := eq_true p10
            replace q10 := eq_true q10
            go_wp2_with (first | ((with_reducible refine gate_callee (f := 206) rfl ?_); refine goesL_ (some 27) rfl rfl Tryz.func206 (by kernel_rfl) rfl #[.int .u8 (bt a0 x20_2), .int .i64 a1] rfl (by (try simp only [List.map_toArray, List.map_cons, List.map_nil]); first | done | rfl | (simp only [List.length_drop, List.length_take]; rfl)) ?_; (with_reducible refine (num_digit.calls k2 (bt a0 x20_2) a1 t532 _ A11.out).mono ?_); rintro e w' ⟨rfl, ⟨nd, rfl⟩⟩; refine ⟨_, rfl, ?_⟩) | ((with_reducible refine gate_callee (f := 106) rfl ?_); refine goesL_ (some 38) rfl rfl Tryz.func106 (by kernel_rfl) rfl #[.int .i64 x4_2] rfl (by (try simp only [List.map_toArray, List.map_cons, List.map_nil]); first | done | rfl | (simp only [List.length_drop, List.length_take]; rfl)) ?_; (with_reducible refine (num_Fits.calls x4_2 true _ A16.out).mono ?_); rintro e w' ⟨rfl, ⟨nd, rfl⟩⟩; refine ⟨_, rfl, ?_⟩))
            go_roundg k2
            case measure => have := HJ2.out; have := HK2.out; omega
            case rel => exact ⟨(x4_2), (x5_2), (wrap64 (x20_2 + 1)), (by first | rfl | (simp; done) | (simp [*]; done)), (by first | rfl | (simp; done) | (simp [*]; done)), (by first | rfl | (simp; done) | (simp [*]; done)), H', ⟨by have := HJ2.out; have := HK2.out; omega⟩, by repeat (first | exact Drawn0.refl _ | apply Drawn0.step)⟩
           ·replace c17 := Bool.eq_false_iff.mpr c17
            subst c17
            have H1 : (num_Parse.l0 k2 a0 a1 0 3 (a0.size : Int) (wrap64 (x20_2 + 1))) = some (r1, r2) := by rw [if_neg (show ¬ (false = true) by decide)] at H; exact H
            clear H
            have H := H1
            clear H1
            have H' := Aside0.mk H
            clear H
            have p10 : 0 ≤ (x20_2 : Int) := of_decide_eq_true (by first | (with_reducible assumption) | assumption)
            have q10 : x20_2 < (a0.size : Int) := of_decide_eq_true (by first | (with_reducible assumption) | assumption)
            have hx10 := bt_at a0 x20_2
            replace p10 := eq_true p10
            replace q10 := eq_true q10
            go_wp2_with (first | ((with_reducible refine gate_callee (f := 206) rfl ?_); refine goesL_ (some 27) rfl rfl Tryz.func206 (by kernel_rfl) rfl #[.int .u8 (bt a0 x20_2), .int .i64 a1] rfl (by (try simp only [List.map_toArray, List.map_cons, List.map_nil]); first | done | rfl | (simp only [List.length_drop, List.length_take]; rfl)) ?_; (with_reducible refine (num_digit.calls k2 (bt a0 x20_2) a1 t532 _ A11.out).mono ?_); rintro e w' ⟨rfl, ⟨nd, rfl⟩⟩; refine ⟨_, rfl, ?_⟩) | ((with_reducible refine gate_callee (f := 106) rfl ?_); refine goesL_ (some 38) rfl rfl Tryz.func106 (by kernel_rfl) rfl #[.int .i64 x4_2] rfl (by (try simp only [List.map_toArray, List.map_cons, List.map_nil]); first | done | rfl | (simp only [List.length_drop, List.length_take]; rfl)) ?_; (with_reducible refine (num_Fits.calls x4_2 false _ A16.out).mono ?_); rintro e w' ⟨rfl, ⟨nd, rfl⟩⟩; refine ⟨_, rfl, ?_⟩))
            go_roundg k2
            case measure => have := HJ2.out; have := HK2.out; omega
            case rel => exact ⟨(0), (3), (wrap64 (x20_2 + 1)), (by first | rfl | (simp; done) | (simp [*]; done)), (by first | rfl | (simp; done) | (simp [*]; done)), (by first | rfl | (simp; done) | (simp [*]; done)), H', ⟨by have := HJ2.out; have := HK2.out; omega⟩, by repeat (first | exact Drawn0.refl _ | apply Drawn0.step)⟩
        ·rw [if_neg c9] at H
         exact absurd H (by simp)
       ·rw [if_neg c8] at H
        exact absurd H (by simp)
      ·rw [if_neg c7] at H
       have c7b0 : decide (x20_2 < (a0.size : Int)) = false := decide_eq_false c7
       clear c7
       simp only [Option.some.injEq, Prod.mk.injEq] at H
       obtain ⟨rfl, rfl⟩ := H
       go_wp2
       go_ret2
       exact ⟨by first | rfl | (simp; done) | (simp [*]; done), by repeat (first | exact Drawn0.refl _ | apply Drawn0.step)⟩
end Go.Proofs.YtalafpigfeiaiaaGreatDoor.Q
end
section
namespace Go.Proofs.YtalafpigfeiaiaaGreatDoor.Q
open Go.RowKit Go.Proofs.YtalafpigfeiaiaaGreatDoorW.PrintWords Go.Proofs.YtalafpigfeiaiaaGreatDoorW.PrintLast Go.Proofs.YtalafpigfeiaiaaGreatDoorW.PrintMore
attribute [local go_sem] max2_int min2_int max_two min_two max_three min_three max_four min_four
set_option linter.unusedVariables false
set_option linter.unusedSimpArgs false
def target_escape.f (k : Nat) (a0 : ByteArray) : Option (Int) := if (a0.size : Int) < 2 then (some 0) else (if 0 ≤ 2 then (if 2 ≤ (a0.size : Int) then ((num_Parse.f k (a0.extract 0 2) 16).bind fun bt535 => (if bt535.2 = 0 then (some ((bt535.1) % 256)) else (some 0))) else (none)) else (none))
theorem target_escape.mono : ∀ a0 k, LeO (target_escape.f k a0) (target_escape.f (k + 1) a0) := by
 intro a0 k
 unfold target_escape.f
 repeat' first
   | (with_reducible exact num_Parse.mono _ _ _)
   | (with_reducible exact LeO.refl _)
   | (with_reducible exact LeO.none _)
   | (with_reducible refine LeO.ite ?_ ?_)
   | (with_reducible refine LeO.bind ?_ (fun _ => ?_))
   | exact num_Parse.mono _ _ _
   | exact LeO.none _
   | refine LeO.ite ?_ ?_
   | refine LeO.bind ?_ (fun _ => ?_)
set_option maxHeartbeats 8000000 in
set_option maxRecDepth 100000 in
theorem target_escape.calls (k : Nat) (a0 : ByteArray) (r : Int) (w : World) (h : target_escape.f k a0 = some r) :
  Calls Tryz.prog 125 #[.string a0] w fun e w' => e = .returned (.int .u8 r) ∧ Drawn0 w w' := by
 have H : (if (a0.size : Int) < 2 then (some 0) else (if 0 ≤ 2 then (if 2 ≤ (a0.size : Int) then ((num_Parse.f k (a0.extract 0 2) 16).bind fun bt535 => (if bt535.2 = 0 then (some ((bt535.1) % 256)) else (some 0))) else (none)) else (none))) = some r := h
 clear h
 by_cases c2 : (a0.size : Int) < 2
 ·rw [if_pos c2] at H
  have c2b0 : decide ((a0.size : Int) < 2) = true := decide_eq_true c2
  have c2b1 : decide (a0.size < 2) = true := decide_eq_true (by omega)
  clear c2
  obtain rfl := Option.some.inj H
  go_enter Tryz.func125, Tryz.ntmps125
  go_wp2
  go_ret
  exact ⟨by first | rfl | (simp; done) | (simp [*]; done), by repeat (first | exact Drawn0.refl _ | apply Drawn0.step)⟩
 ·rw [if_neg c2] at H
  have c2b0 : decide ((a0.size : Int) < 2) = false := decide_eq_false c2
  have c2b1 : decide (a0.size < 2) = false := decide_eq_false (by omega)
  clear c2
  by_cases c3 : 0 ≤ 2
  ·rw [if_pos c3] at H
   have c3b0 := eq_true c3
   have c3b1 : decide (0 ≤ 2) = true := decide_eq_true c3
   clear c3
   by_cases c4 : 2 ≤ (a0.size : Int)
   ·rw [if_pos c4] at H
    have c4b0 := eq_true c4
    have c4b1 : decide (2 ≤ (a0.size : Int)) = true := decide_eq_true c4
    clear c4
    replace H := Option.bind_eq_some_iff.mp H
    obtain ⟨⟨t535, t536⟩, A50, H⟩ := H
    replace H : (if t536 = 0 then (some ((t535) % 256)) else (some 0)) = some r := H
    have A5 := Aside0.mk A50
    clear A50
    by_cases c6 : t536 = 0
    ·rw [if_pos c6] at H
     have c6b0 : (t536 == 0) = true := beq_iff_eq.mpr c6
     have c6b1 : (t536 != 0) = false := bne_eq_false_iff_eq.mpr c6
     clear c6
     obtain rfl := Option.some.inj H
     go_enter Tryz.func125, Tryz.ntmps125
     go_wp2_with (first | ((with_reducible refine gate_callee (f := 169) rfl ?_); refine goesL_ (some 11) rfl rfl Tryz.func169 (by kernel_rfl) rfl #[.string (a0.extract 0 2), .int .i64 16] rfl (by (try simp only [List.map_toArray, List.map_cons, List.map_nil]); first | done | rfl | (simp only [List.length_drop, List.length_take]; rfl)) ?_; (with_reducible refine (num_Parse.calls k (a0.extract 0 2) 16 t535 t536 _ A5.out).mono ?_); rintro e w' ⟨rfl, ⟨nd, rfl⟩⟩; refine ⟨_, rfl, ?_⟩))
     go_ret
     exact ⟨by first | rfl | (simp; done) | (simp [*]; done), by repeat (first | exact Drawn0.refl _ | apply Drawn0.step)⟩
    ·rw [if_neg c6] at H
     have c6b0 : (t536 == 0) = false := beq_eq_false_iff_ne.mpr c6
     have c6b1 : (t536 != 0) = true := bne_iff_ne.mpr c6
     obtain rfl := Option.some.inj H
     go_enter Tryz.func125, Tryz.ntmps125
     go_wp2_with (first | ((with_reducible refine gate_callee (f := 169) rfl ?_); refine goesL_ (some 11) rfl rfl Tryz.func169 (by kernel_rfl) rfl #[.string (a0.extract 0 2), .int .i64 16] rfl (by (try simp only [List.map_toArray, List.map_cons, List.map_nil]); first | done | rfl | (simp only [List.length_drop, List.length_take]; rfl)) ?_; (with_reducible refine (num_Parse.calls k (a0.extract 0 2) 16 t535 t536 _ A5.out).mono ?_); rintro e w' ⟨rfl, ⟨nd, rfl⟩⟩; refine ⟨_, rfl, ?_⟩))
     go_ret
     exact ⟨by first | rfl | (simp; done) | (simp [*]; done), by repeat (first | exact Drawn0.refl _ | apply Drawn0.step)⟩
   ·rw [if_neg c4] at H
    exact absurd H (by simp)
  ·rw [if_neg c3] at H
   exact absurd H (by simp)
end Go.Proofs.YtalafpigfeiaiaaGreatDoor.Q
end
section
namespace Go.Proofs.YtalafpigfeiaiaaGreatDoor.Q
open Go.RowKit Go.Proofs.YtalafpigfeiaiaaGreatDoorW.PrintWords Go.Proofs.YtalafpigfeiaiaaGreatDoorW.PrintLast Go.Proofs.YtalafpigfeiaiaaGreatDoorW.PrintMore
attribute [local go_sem] max2_int min2_int max_two min_two max_three min_three max_four min_four
set_option linter.unusedVariables false
set_option linter.unusedSimpArgs false
mutual
def lockageref03_value.j0 : Nat → Int → Int → Int → Bool → Option (Int)
 | 0, _, _, _, _ => none
 | k + 1, x0, x1, x5, x6 => if x6 = true then (if ((x0 - 48) % 256) ≥ x1 then (some (-1)) else (some ((x0 - 48) % 256))) else (if x0 ≥ 97 then (lockageref03_value.j1 k x0 x1 x5 (decide (x0 ≤ 102))) else (lockageref03_value.j1 k x0 x1 x5 false))
def lockageref03_value.j1 : Nat → Int → Int → Int → Bool → Option (Int)
 | 0, _, _, _, _ => none
 | k + 1, x0, x1, x5, x16 => if x16 = true then (if (((x0 - 97) % 256) + 10) ≥ x1 then (some (-1)) else (some (((x0 - 97) % 256) + 10))) else (if x0 ≥ 65 then (lockageref03_value.j2 k x0 x1 x5 (decide (x0 ≤ 70))) else (lockageref03_value.j2 k x0 x1 x5 false))
def lockageref03_value.j2 : Nat → Int → Int → Int → Bool → Option (Int)
 | 0, _, _, _, _ => none
 | k + 1, x0, x1, x5, x27 => if x27 = true then (if (((x0 - 65) % 256) + 10) ≥ x1 then (some (-1)) else (some (((x0 - 65) % 256) + 10))) else (if x5 ≥ x1 then (some (-1)) else (some x5))
end
def lockageref03_value.f (k : Nat) (a0 : Int) (a1 : Int) : Option (Int) := if a0 ≥ 48 then (lockageref03_value.j0 k a0 a1 (-1) (decide (a0 ≤ 57))) else (lockageref03_value.j0 k a0 a1 (-1) false)
theorem lockageref03_value.mono_l : ∀ k, (∀ y0 y1 y2 y3, LeO (lockageref03_value.j0 k y0 y1 y2 y3) (lockageref03_value.j0 (k + 1) y0 y1 y2 y3)) ∧ (∀ y0 y1 y2 y3, LeO (lockageref03_value.j1 k y0 y1 y2 y3) (lockageref03_value.j1 (k + 1) y0 y1 y2 y3)) ∧ (∀ y0 y1 y2 y3, LeO (lockageref03_value.j2 k y0 y1 y2 y3) (lockageref03_value.j2 (k + 1) y0 y1 y2 y3))
 | 0 => ⟨fun _ _ _ _ r h => by simp [lockageref03_value.j0] at h, fun _ _ _ _ r h => by simp [lockageref03_value.j1] at h, fun _ _ _ _ r h => by simp [lockageref03_value.j2] at h⟩
 | k + 1 => by
  obtain ⟨ih0, ih1, ih2⟩ := lockageref03_value.mono_l k
  refine ⟨?_, ?_, ?_⟩
  ·intro y0 y1 y2 y3
   unfold lockageref03_value.j0
   repeat' first
   | (with_reducible exact ih0 _ _ _ _)
   | (with_reducible exact ih1 _ _ _ _)
   | (with_reducible exact ih2 _ _ _ _)
   | (with_reducible exact LeO.refl _)
   | (with_reducible exact LeO.none _)
   | (with_reducible refine LeO.ite ?_ ?_)
   | (with_reducible refine LeO.bind ?_ (fun _ => ?_))
   | exact ih0 _ _ _ _
   | exact ih1 _ _ _ _
   | exact ih2 _ _ _ _
   | exact LeO.none _
   | refine LeO.ite ?_ ?_
   | refine LeO.bind ?_ (fun _ => ?_)
  ·intro y0 y1 y2 y3
   unfold lockageref03_value.j1
   repeat' first
   | (with_reducible exact ih0 _ _ _ _)
   | (with_reducible exact ih1 _ _ _ _)
   | (with_reducible exact ih2 _ _ _ _)
   | (with_reducible exact LeO.refl _)
   | (with_reducible exact LeO.none _)
   | (with_reducible refine LeO.ite ?_ ?_)
   | (with_reducible refine LeO.bind ?_ (fun _ => ?_))
   | exact ih0 _ _ _ _
   | exact ih1 _ _ _ _
   | exact ih2 _ _ _ _
   | exact LeO.none _
   | refine LeO.ite ?_ ?_
   | refine LeO.bind ?_ (fun _ => ?_)
  ·intro y0 y1 y2 y3
   unfold lockageref03_value.j2
   repeat' first
   | (with_reducible exact ih0 _ _ _ _)
   | (with_reducible exact ih1 _ _ _ _)
   | (with_reducible exact ih2 _ _ _ _)
   | (with_reducible exact LeO.refl _)
   | (with_reducible exact LeO.none _)
   | (with_reducible refine LeO.ite ?_ ?_)
   | (with_reducible refine LeO.bind ?_ (fun _ => ?_))
   | exact ih0 _ _ _ _
   | exact ih1 _ _ _ _
   | exact ih2 _ _ _ _
   | exact LeO.none _
   | refine LeO.ite ?_ ?_
   | refine LeO.bind ?_ (fun _ => ?_)
theorem lockageref03_value.mono : ∀ a0 a1 k, LeO (lockageref03_value.f k a0 a1) (lockageref03_value.f (k + 1) a0 a1) := by
 intro a0 a1 k
 obtain ⟨ih0, ih1, ih2⟩ := lockageref03_value.mono_l k
 unfold lockageref03_value.f
 repeat' first
   | (with_reducible exact ih0 _ _ _ _)
   | (with_reducible exact ih1 _ _ _ _)
   | (with_reducible exact ih2 _ _ _ _)
   | (with_reducible exact LeO.refl _)
   | (with_reducible exact LeO.none _)
   | (with_reducible refine LeO.ite ?_ ?_)
   | (with_reducible refine LeO.bind ?_ (fun _ => ?_))
   | exact ih0 _ _ _ _
   | exact ih1 _ _ _ _
   | exact ih2 _ _ _ _
   | exact LeO.none _
   | refine LeO.ite ?_ ?_
   | refine LeO.bind ?_ (fun _ => ?_)
set_option maxHeartbeats 8000000 in
set_option maxRecDepth 100000 in
theorem lockageref03_value.calls (k : Nat) (a0 : Int) (a1 : Int) (r : Int) (w : World) (h : lockageref03_value.f k a0 a1 = some r) :
  Calls Tryz.prog 195 #[.int .u8 a0, .int .i64 a1] w fun e w' => e = .returned (.int .i64 r) ∧ Drawn0 w w' := by
 have H : (if a0 ≥ 48 then (lockageref03_value.j0 k a0 a1 (-1) (decide (a0 ≤ 57))) else (lockageref03_value.j0 k a0 a1 (-1) false)) = some r := h
 clear h
 have HC3 := Aside0.mk H
 clear H
 go_enter Tryz.func195, Tryz.ntmps195
 go_upto_region 2 with (fail)
 go_cut [6] (fun v6 wc => ∃ (kq : Nat) (x6_2 : Bool), v6 = .bool x6_2 ∧ Aside0 (lockageref03_value.j0 kq a0 a1 (-1) x6_2 = some r) ∧ Aside0 (kq ≤ k) ∧ Drawn0 w wc)
 case first =>
  have H := HC3.out
  clear HC3
  by_cases c4 : a0 ≥ 48
  ·rw [if_pos c4] at H
   have c4b0 : decide (48 ≤ a0) = true := decide_eq_true c4
   clear c4
   (first | rw [c4b0] | (simp only [i64_w, i32_w]; rw [c4b0]) | skip)
   have H' := Aside0.mk H
   clear H
   go_wp2
   go_meet
   case rel => exact ⟨_, (decide (a0 ≤ 57)), (by first | rfl | (simp; done) | (simp [*]; done)), H', ⟨by first | omega | exact Nat.le_refl _⟩, by repeat (first | exact Drawn0.refl _ | apply Drawn0.step)⟩
  ·rw [if_neg c4] at H
   have c4b0 : decide (48 ≤ a0) = false := decide_eq_false c4
   clear c4
   (first | rw [c4b0] | (simp only [i64_w, i32_w]; rw [c4b0]) | skip)
   have H' := Aside0.mk H
   clear H
   go_wp2
   go_meet
   case rel => exact ⟨_, (false), (by first | rfl | (simp; done) | (simp [*]; done)), H', ⟨by first | omega | exact Nat.le_refl _⟩, by repeat (first | exact Drawn0.refl _ | apply Drawn0.step)⟩
 case rest =>
  clear HC3
  try clear c1
  try clear p2
  try clear c4
  try clear c4b0
  obtain ⟨kq, x6_2, rfl, HA, HJ2, ⟨mc2, rfl⟩⟩ := hcut
  cases kq with
  | zero => exact absurd HA.out (by simp [lockageref03_value.j0])
  | succ kj2 =>
   have H := HA.out
   clear HA
   simp only [lockageref03_value.j0] at H
   by_cases c5 : x6_2 = true
   ·subst c5
    have H1 : (if ((a0 - 48) % 256) ≥ a1 then (some (-1)) else (some ((a0 - 48) % 256))) = some r := by rw [if_pos rfl] at H; exact H
    clear H
    have H := H1
    clear H1
    by_cases c6 : ((a0 - 48) % 256) ≥ a1
    ·rw [if_pos c6] at H
     have c6b0 : decide (a1 ≤ ((a0 - 48) % 256)) = true := decide_eq_true c6
     clear c6
     obtain rfl := Option.some.inj H
     go_wp2
     go_ret
     exact ⟨by first | rfl | (simp; done) | (simp [*]; done), by repeat (first | exact Drawn0.refl _ | apply Drawn0.step)⟩
    ·rw [if_neg c6] at H
     have c6b0 : decide (a1 ≤ ((a0 - 48) % 256)) = false := decide_eq_false c6
     clear c6
     obtain rfl := Option.some.inj H
     go_wp2
     go_ret
     exact ⟨by first | rfl | (simp; done) | (simp [*]; done), by repeat (first | exact Drawn0.refl _ | apply Drawn0.step)⟩
   ·replace c5 := Bool.eq_false_iff.mpr c5
    subst c5
    have H1 : (if a0 ≥ 97 then (lockageref03_value.j1 kj2 a0 a1 (-1) (decide (a0 ≤ 102))) else (lockageref03_value.j1 kj2 a0 a1 (-1) false)) = some r := by rw [if_neg (show ¬ (false = true) by decide)] at H; exact H
    clear H
    have H := H1
    clear H1
    have HC7 := Aside0.mk H
    clear H
    go_upto_region 4 with (fail)
    go_cut [16] (fun v16 wc => ∃ (kq : Nat) (x16_6 : Bool), v16 = .bool x16_6 ∧ Aside0 (lockageref03_value.j1 kq a0 a1 (-1) x16_6 = some r) ∧ Aside0 (kq ≤ kj2) ∧ Drawn0 w wc)
    case first =>
     have H := HC7.out
     clear HC7
     by_cases c8 : a0 ≥ 97
     ·rw [if_pos c8] at H
      have c8b0 : decide (97 ≤ a0) = true := decide_eq_true c8
      clear c8
      (first | rw [c8b0] | (simp only [i64_w, i32_w]; rw [c8b0]) | skip)
      have H' := Aside0.mk H
      clear H
      go_wp2
      go_meet
      case rel => exact ⟨_, (decide (a0 ≤ 102)), (by first | rfl | (simp; done) | (simp [*]; done)), H', ⟨by have := HJ2.out; first | omega | exact Nat.le_refl _⟩, by repeat (first | exact Drawn0.refl _ | apply Drawn0.step)⟩
     ·rw [if_neg c8] at H
      have c8b0 : decide (97 ≤ a0) = false := decide_eq_false c8
      clear c8
      (first | rw [c8b0] | (simp only [i64_w, i32_w]; rw [c8b0]) | skip)
      have H' := Aside0.mk H
      clear H
      go_wp2
      go_meet
      case rel => exact ⟨_, (false), (by first | rfl | (simp; done) | (simp [*]; done)), H', ⟨by have := HJ2.out; first | omega | exact Nat.le_refl _⟩, by repeat (first | exact Drawn0.refl _ | apply Drawn0.step)⟩
    case rest =>
     clear HC7
     try clear c1
     try clear c2
     try clear p2
     try clear c4
     try clear c4b0
     try clear c5
     try clear c6
     try clear c6b0
     try clear c8
     try clear c8b0
     try clear p2
     obtain ⟨kq, x16_6, rfl, HA, HJ6, ⟨mc6, rfl⟩⟩ := hcut
     cases kq with
     | zero => exact absurd HA.out (by simp [lockageref03_value.j1])
     | succ kj6 =>
      have H := HA.out
      clear HA
      simp only [lockageref03_value.j1] at H
      by_cases c9 : x16_6 = true
      ·subst c9
       have H1 : (if (((a0 - 97) % 256) + 10) ≥ a1 then (some (-1)) else (some (((a0 - 97) % 256) + 10))) = some r := by rw [if_pos rfl] at H; exact H
       clear H
       have H := H1
       clear H1
       by_cases c10 : (((a0 - 97) % 256) + 10) ≥ a1
       ·rw [if_pos c10] at H
        have c10b0 : decide (a1 ≤ (((a0 - 97) % 256) + 10)) = true := decide_eq_true c10
        clear c10
        obtain rfl := Option.some.inj H
        go_wp2
        go_ret
        exact ⟨by first | rfl | (simp; done) | (simp [*]; done), by repeat (first | exact Drawn0.refl _ | apply Drawn0.step)⟩
       ·rw [if_neg c10] at H
        have c10b0 : decide (a1 ≤ (((a0 - 97) % 256) + 10)) = false := decide_eq_false c10
        clear c10
        obtain rfl := Option.some.inj H
        go_wp2
        go_ret
        exact ⟨by first | rfl | (simp; done) | (simp [*]; done), by repeat (first | exact Drawn0.refl _ | apply Drawn0.step)⟩
      ·replace c9 := Bool.eq_false_iff.mpr c9
       subst c9
       have H1 : (if a0 ≥ 65 then (lockageref03_value.j2 kj6 a0 a1 (-1) (decide (a0 ≤ 70))) else (lockageref03_value.j2 kj6 a0 a1 (-1) false)) = some r := by rw [if_neg (show ¬ (false = true) by decide)] at H; exact H
       clear H
       have H := H1
       clear H1
       have HC11 := Aside0.mk H
       clear H
       go_upto_region 6 with (fail)
       go_cut [27] (fun v27 wc => ∃ (kq : Nat) (x27_10 : Bool), v27 = .bool x27_10 ∧ Aside0 (lockageref03_value.j2 kq a0 a1 (-1) x27_10 = some r) ∧ Aside0 (kq ≤ kj6) ∧ Drawn0 w wc)
       case first =>
        have H := HC11.out
        clear HC11
        by_cases c12 : a0 ≥ 65
        ·rw [if_pos c12] at H
         have c12b0 : decide (65 ≤ a0) = true := decide_eq_true c12
         clear c12
         (first | rw [c12b0] | (simp only [i64_w, i32_w]; rw [c12b0]) | skip)
         have H' := Aside0.mk H
         clear H
         go_wp2
         go_meet
         case rel => exact ⟨_, (decide (a0 ≤ 70)), (by first | rfl | (simp; done) | (simp [*]; done)), H', ⟨by have := HJ2.out; have := HJ6.out; first | omega | exact Nat.le_refl _⟩, by repeat (first | exact Drawn0.refl _ | apply Drawn0.step)⟩
        ·rw [if_neg c12] at H
         have c12b0 : decide (65 ≤ a0) = false := decide_eq_false c12
         clear c12
         (first | rw [c12b0] | (simp only [i64_w, i32_w]; rw [c12b0]) | skip)
         have H' := Aside0.mk H
         clear H
         go_wp2
         go_meet
         case rel => exact ⟨_, (false), (by first | rfl | (simp; done) | (simp [*]; done)), H', ⟨by have := HJ2.out; have := HJ6.out; first | omega | exact Nat.le_refl _⟩, by repeat (first | exact Drawn0.refl _ | apply Drawn0.step)⟩
       case rest =>
        clear HC11
        try clear c1
        try clear c2
        try clear p2
        try clear c4
        try clear c4b0
        try clear c5
        try clear c6
        try clear c6b0
        try clear c8
        try clear c8b0
        try clear c9
        try clear c10
        try clear c10b0
        try clear c12
        try clear c12b0
        try clear p2
        obtain ⟨kq, x27_10, rfl, HA, HJ10, ⟨mc10, rfl⟩⟩ := hcut
        cases kq with
        | zero => exact absurd HA.out (by simp [lockageref03_value.j2])
        | succ kj10 =>
         have H := HA.out
         clear HA
         simp only [lockageref03_value.j2] at H
         by_cases c13 : x27_10 = true
         ·subst c13
          have H1 : (if (((a0 - 65) % 256) + 10) ≥ a1 then (some (-1)) else (some (((a0 - 65) % 256) + 10))) = some r := by rw [if_pos rfl] at H; exact H
          clear H
          have H := H1
          clear H1
          by_cases c14 : (((a0 - 65) % 256) + 10) ≥ a1
          ·rw [if_pos c14] at H
           have c14b0 : decide (a1 ≤ (((a0 - 65) % 256) + 10)) = true := decide_eq_true c14
           clear c14
           obtain rfl := Option.some.inj H
           go_wp2
           go_ret
           exact ⟨by first | rfl | (simp; done) | (simp [*]; done), by repeat (first | exact Drawn0.refl _ | apply Drawn0.step)⟩
          ·rw [if_neg c14] at H
           have c14b0 : decide (a1 ≤ (((a0 - 65) % 256) + 10)) = false := decide_eq_false c14
           clear c14
           obtain rfl := Option.some.inj H
           go_wp2
           go_ret
           exact ⟨by first | rfl | (simp; done) | (simp [*]; done), by repeat (first | exact Drawn0.refl _ | apply Drawn0.step)⟩
         ·replace c13 := Bool.eq_false_iff.mpr c13
          subst c13
          have H1 : (if (-1) ≥ a1 then (some (-1)) else (some (-1))) = some r := by rw [if_neg (show ¬ (false = true) by decide)] at H; exact H
          clear H
          have H := H1
          clear H1
          by_cases c15 : (-1) ≥ a1
          ·rw [if_pos c15] at H
           have c15b0 : decide (a1 ≤ (-1)) = true := decide_eq_true c15
           clear c15
           obtain rfl := Option.some.inj H
           go_wp2
           go_ret
           exact ⟨by first | rfl | (simp; done) | (simp [*]; done), by repeat (first | exact Drawn0.refl _ | apply Drawn0.step)⟩
          ·rw [if_neg c15] at H
           have c15b0 : decide (a1 ≤ (-1)) = false := decide_eq_false c15
           clear c15
           obtain rfl := Option.some.inj H
           go_wp2
           go_ret
           exact ⟨by first | rfl | (simp; done) | (simp [*]; done), by repeat (first | exact Drawn0.refl _ | apply Drawn0.step)⟩
end Go.Proofs.YtalafpigfeiaiaaGreatDoor.Q
end
section
namespace Go.Proofs.YtalafpigfeiaiaaGreatDoor.Q
open Go.RowKit Go.Proofs.YtalafpigfeiaiaaGreatDoorW.PrintWords Go.Proofs.YtalafpigfeiaiaaGreatDoorW.PrintLast Go.Proofs.YtalafpigfeiaiaaGreatDoorW.PrintMore
attribute [local go_sem] max2_int min2_int max_two min_two max_three min_three max_four min_four
set_option linter.unusedVariables false
set_option linter.unusedSimpArgs false
def lockageref03_Fits.f (a0 : Int) : Option (Bool) := if a0 ≥ 0 then (some (decide (a0 ≤ 9007199254740992))) else (some false)
set_option maxHeartbeats 8000000 in
set_option maxRecDepth 100000 in
theorem lockageref03_Fits.calls (a0 : Int) (r : Bool) (w : World) (h : lockageref03_Fits.f a0 = some r) :
  Calls Tryz.prog 108 #[.int .i64 a0] w fun e w' => e = .returned (.bool r) ∧ Drawn0 w w' := by
 have H : (if a0 ≥ 0 then (some (decide (a0 ≤ 9007199254740992))) else (some false)) = some r := h
 clear h
 by_cases c2 : a0 ≥ 0
 ·rw [if_pos c2] at H
  have c2b0 : decide (0 ≤ a0) = true := decide_eq_true c2
  clear c2
  obtain rfl := Option.some.inj H
  go_enter Tryz.func108, Tryz.ntmps108
  go_wp2
  go_ret
  exact ⟨by first | rfl | (simp; done) | (simp [*]; done), by repeat (first | exact Drawn0.refl _ | apply Drawn0.step)⟩
 ·rw [if_neg c2] at H
  have c2b0 : decide (0 ≤ a0) = false := decide_eq_false c2
  clear c2
  obtain rfl := Option.some.inj H
  go_enter Tryz.func108, Tryz.ntmps108
  go_wp2
  go_ret
  exact ⟨by first | rfl | (simp; done) | (simp [*]; done), by repeat (first | exact Drawn0.refl _ | apply Drawn0.step)⟩
end Go.Proofs.YtalafpigfeiaiaaGreatDoor.Q
end
section
namespace Go.Proofs.YtalafpigfeiaiaaGreatDoor.Q
open Go.RowKit Go.Proofs.YtalafpigfeiaiaaGreatDoorW.PrintWords Go.Proofs.YtalafpigfeiaiaaGreatDoorW.PrintLast Go.Proofs.YtalafpigfeiaiaaGreatDoorW.PrintMore
attribute [local go_sem] max2_int min2_int max_two min_two max_three min_three max_four min_four
set_option linter.unusedVariables false
set_option linter.unusedSimpArgs false
def lockageref03_Mul.j0 : Nat → Int → Int → Bool → Option (Int × Int)
 | 0, _, _, _ => none
 | k + 1, x0, x1, x13 => if x13 = true then (some (0, 1)) else (if x1 > 0 then (if x1 = 0 then (none) else (if x0 > (wrap64 ((9007199254740992 : Int) / x1)) then (some (0, 3)) else (some (wrap64 (x0 * x1), 0)))) else (some (wrap64 (x0 * x1), 0)))
def lockageref03_Mul.f (k : Nat) (a0 : Int) (a1 : Int) : Option (Int × Int) := (lockageref03_Fits.f a0).bind fun t158 => (if t158 = true then ((lockageref03_Fits.f a1).bind fun t159 => (lockageref03_Mul.j0 k a0 a1 (!t159))) else (lockageref03_Mul.j0 k a0 a1 true))
theorem lockageref03_Mul.mono_l : ∀ k, (∀ y0 y1 y2, LeO (lockageref03_Mul.j0 k y0 y1 y2) (lockageref03_Mul.j0 (k + 1) y0 y1 y2))
 | 0 => fun _ _ _ r h => by simp [lockageref03_Mul.j0] at h
 | k + 1 => by
  have ih0 := lockageref03_Mul.mono_l k
  ·intro y0 y1 y2
   unfold lockageref03_Mul.j0
   repeat' first
   | (with_reducible exact ih0 _ _ _)
   | (with_reducible exact LeO.refl _)
   | (with_reducible exact LeO.none _)
   | (with_reducible refine LeO.ite ?_ ?_)
   | (with_reducible refine LeO.bind ?_ (fun _ => ?_))
   | exact ih0 _ _ _
   | exact LeO.none _
   | refine LeO.ite ?_ ?_
   | refine LeO.bind ?_ (fun _ => ?_)
theorem lockageref03_Mul.mono : ∀ a0 a1 k, LeO (lockageref03_Mul.f k a0 a1) (lockageref03_Mul.f (k + 1) a0 a1) := by
 intro a0 a1 k
 have ih0 := lockageref03_Mul.mono_l k
 unfold lockageref03_Mul.f
 repeat' first
   | (with_reducible exact ih0 _ _ _)
   | (with_reducible exact LeO.refl _)
   | (with_reducible exact LeO.none _)
   | (with_reducible refine LeO.ite ?_ ?_)
   | (with_reducible refine LeO.bind ?_ (fun _ => ?_))
   | exact ih0 _ _ _
   | exact LeO.none _
   | refine LeO.ite ?_ ?_
   | refine LeO.bind ?_ (fun _ => ?_)
set_option maxHeartbeats 8000000 in
set_option maxRecDepth 100000 in
theorem lockageref03_Mul.calls (k : Nat) (a0 : Int) (a1 : Int) (r1 : Int) (r2 : Int) (w : World) (h : lockageref03_Mul.f k a0 a1 = some (r1, r2)) :
  Calls Tryz.prog 196 #[.int .i64 a0, .int .i64 a1] w fun e w' => e = .returned (.tuple #[.int .i64 r1, .int .i64 r2]) ∧ Drawn0 w w' := by
 have H : ((lockageref03_Fits.f a0).bind fun t158 => (if t158 = true then ((lockageref03_Fits.f a1).bind fun t159 => (lockageref03_Mul.j0 k a0 a1 (!t159))) else (lockageref03_Mul.j0 k a0 a1 true))) = some (r1, r2) := h
 clear h
 have HC3 := Aside0.mk H
 clear H
 go_enter Tryz.func196, Tryz.ntmps196
 go_upto_region 1 with (fail)
 go_cut [13] (fun v13 wc => ∃ (kq : Nat) (x13_2 : Bool), v13 = .bool x13_2 ∧ Aside0 (lockageref03_Mul.j0 kq a0 a1 x13_2 = some (r1, r2)) ∧ Aside0 (kq ≤ k) ∧ Drawn0 w wc)
 case first =>
  have H := HC3.out
  clear HC3
  replace H := Option.bind_eq_some_iff.mp H
  obtain ⟨t158, A40, H⟩ := H
  replace H : (if t158 = true then ((lockageref03_Fits.f a1).bind fun t159 => (lockageref03_Mul.j0 k a0 a1 (!t159))) else (lockageref03_Mul.j0 k a0 a1 true)) = some (r1, r2) := H
  have A4 := Aside0.mk A40
  clear A40
  by_cases c5 : t158 = true
  ·subst c5
   have H1 : ((lockageref03_Fits.f a1).bind fun t159 => (lockageref03_Mul.j0 k a0 a1 (!t159))) = some (r1, r2) := by rw [if_pos rfl] at H; exact H
   clear H
   have H := H1
   clear H1
   replace H := Option.bind_eq_some_iff.mp H
   obtain ⟨t159, A60, H⟩ := H
   replace H : (lockageref03_Mul.j0 k a0 a1 (!t159)) = some (r1, r2) := H
   have A6 := Aside0.mk A60
   clear A60
   have H' := Aside0.mk H
   clear H
   go_wp2_with (first | ((with_reducible refine gate_callee (f := 108) rfl ?_); refine goesL_ (some 7) rfl rfl Tryz.func108 (by kernel_rfl) rfl #[.int .i64 a0] rfl (by (try simp only [List.map_toArray, List.map_cons, List.map_nil]); first | done | rfl | (simp only [List.length_drop, List.length_take]; rfl)) ?_; (with_reducible refine (lockageref03_Fits.calls a0 true _ A4.out).mono ?_); rintro e w' ⟨rfl, ⟨nd, rfl⟩⟩; refine ⟨_, rfl, ?_⟩) | (go_at_call 108; (with_reducible refine (lockageref03_Fits.calls a1 t159 _ A6.out).mono ?_); rintro e w' ⟨rfl, ⟨nd, rfl⟩⟩))
   go_meet
   case rel => exact ⟨_, (!t159), (by first | rfl | (simp; done) | (simp [*]; done)), H', ⟨by first | omega | exact Nat.le_refl _⟩, by repeat (first | exact Drawn0.refl _ | apply Drawn0.step)⟩
  ·replace c5 := Bool.eq_false_iff.mpr c5
   subst c5
   have H1 : (lockageref03_Mul.j0 k a0 a1 true) = some (r1, r2) := by rw [if_neg (show ¬ (false = true) by decide)] at H; exact H
   clear H
   have H := H1
   clear H1
   have H' := Aside0.mk H
   clear H
   go_wp2_with (first | ((with_reducible refine gate_callee (f := 108) rfl ?_); refine goesL_ (some 7) rfl rfl Tryz.func108 (by kernel_rfl) rfl #[.int .i64 a0] rfl (by (try simp only [List.map_toArray, List.map_cons, List.map_nil]); first | done | rfl | (simp only [List.length_drop, List.length_take]; rfl)) ?_; (with_reducible refine (lockageref03_Fits.calls a0 false _ A4.out).mono ?_); rintro e w' ⟨rfl, ⟨nd, rfl⟩⟩; refine ⟨_, rfl, ?_⟩))
   go_meet
   case rel => exact ⟨_, (true), (by first | rfl | (simp; done) | (simp [*]; done)), H', ⟨by first | omega | exact Nat.le_refl _⟩, by repeat (first | exact Drawn0.refl _ | apply Drawn0.step)⟩
 case rest =>
  clear HC3
  try clear c1
  try clear p2
  try clear c5
  obtain ⟨kq, x13_2, rfl, HA, HJ2, ⟨mc2, rfl⟩⟩ := hcut
  cases kq with
  | zero => exact absurd HA.out (by simp [lockageref03_Mul.j0])
  | succ kj2 =>
   have H := HA.out
   clear HA
   simp only [lockageref03_Mul.j0] at H
   by_cases c7 : x13_2 = true
   ·subst c7
    have H1 : (some (0, 1)) = some (r1, r2) := by rw [if_pos rfl] at H; exact H
    clear H
    have H := H1
    clear H1
    simp only [Option.some.injEq, Prod.mk.injEq] at H
    obtain ⟨rfl, rfl⟩ := H
    go_wp2
    go_ret2
    exact ⟨by first | rfl | (simp; done) | (simp [*]; done), by repeat (first | exact Drawn0.refl _ | apply Drawn0.step)⟩
   ·replace c7 := Bool.eq_false_iff.mpr c7
    subst c7
    have H1 : (if a1 > 0 then (if a1 = 0 then (none) else (if a0 > (wrap64 ((9007199254740992 : Int) / a1)) then (some (0, 3)) else (some (wrap64 (a0 * a1), 0)))) else (some (wrap64 (a0 * a1), 0))) = some (r1, r2) := by rw [if_neg (show ¬ (false = true) by decide)] at H; exact H
    clear H
    have H := H1
    clear H1
    by_cases c8 : a1 > 0
    ·rw [if_pos c8] at H
     have c8b0 : decide (0 < a1) = true := decide_eq_true c8
     clear c8
     by_cases c9 : a1 = 0
     ·rw [if_pos c9] at H
      exact absurd H (by simp)
     ·rw [if_neg c9] at H
      have c9b0 : (a1 == 0) = false := beq_eq_false_iff_ne.mpr c9
      have c9b1 : (a1 != 0) = true := bne_iff_ne.mpr c9
      by_cases c10 : a0 > (wrap64 ((9007199254740992 : Int) / a1))
      ·rw [if_pos c10] at H
       have c10b0 : decide ((wrap64 ((9007199254740992 : Int) / a1)) < a0) = true := decide_eq_true c10
       rw [show (9007199254740992 : Int) / a1 = Int.tdiv 9007199254740992 a1 from (Int.tdiv_eq_ediv_of_nonneg (by decide)).symm] at c10b0
       clear c10
       simp only [Option.some.injEq, Prod.mk.injEq] at H
       obtain ⟨rfl, rfl⟩ := H
       go_wp2
       go_ret2
       exact ⟨by first | rfl | (simp; done) | (simp [*]; done), by repeat (first | exact Drawn0.refl _ | apply Drawn0.step)⟩
      ·rw [if_neg c10] at H
       have c10b0 : decide ((wrap64 ((9007199254740992 : Int) / a1)) < a0) = false := decide_eq_false c10
       rw [show (9007199254740992 : Int) / a1 = Int.tdiv 9007199254740992 a1 from (Int.tdiv_eq_ediv_of_nonneg (by decide)).symm] at c10b0
       clear c10
       simp only [Option.some.injEq, Prod.mk.injEq] at H
       obtain ⟨rfl, rfl⟩ := H
       go_wp2
       go_ret2
       exact ⟨by first | rfl | (simp; done) | (simp [*]; done), by repeat (first | exact Drawn0.refl _ | apply Drawn0.step)⟩
    ·rw [if_neg c8] at H
     have c8b0 : decide (0 < a1) = false := decide_eq_false c8
     clear c8
     simp only [Option.some.injEq, Prod.mk.injEq] at H
     obtain ⟨rfl, rfl⟩ := H
     go_wp2
     go_ret2
     exact ⟨by first | rfl | (simp; done) | (simp [*]; done), by repeat (first | exact Drawn0.refl _ | apply Drawn0.step)⟩
end Go.Proofs.YtalafpigfeiaiaaGreatDoor.Q
end
section
namespace Go.Proofs.YtalafpigfeiaiaaGreatDoor.Q
open Go.RowKit Go.Proofs.YtalafpigfeiaiaaGreatDoorW.PrintWords Go.Proofs.YtalafpigfeiaiaaGreatDoorW.PrintLast Go.Proofs.YtalafpigfeiaiaaGreatDoorW.PrintMore
attribute [local go_sem] max2_int min2_int max_two min_two max_three min_three max_four min_four
set_option linter.unusedVariables false
set_option linter.unusedSimpArgs false
def lockageref03_Add.j0 : Nat → Int → Int → Bool → Option (Int × Int)
 | 0, _, _, _ => none
 | k + 1, x0, x1, x13 => if x13 = true then (some (0, 1)) else (if x0 > (wrap64 (9007199254740992 - x1)) then (some (0, 3)) else (some (wrap64 (x0 + x1), 0)))
def lockageref03_Add.f (k : Nat) (a0 : Int) (a1 : Int) : Option (Int × Int) := (lockageref03_Fits.f a0).bind fun t548 => (if t548 = true then ((lockageref03_Fits.f a1).bind fun t549 => (lockageref03_Add.j0 k a0 a1 (!t549))) else (lockageref03_Add.j0 k a0 a1 true))
theorem lockageref03_Add.mono_l : ∀ k, (∀ y0 y1 y2, LeO (lockageref03_Add.j0 k y0 y1 y2) (lockageref03_Add.j0 (k + 1) y0 y1 y2))
 | 0 => fun _ _ _ r h => by simp [lockageref03_Add.j0] at h
 | k + 1 => by
  have ih0 := lockageref03_Add.mono_l k
  ·intro y0 y1 y2
   unfold lockageref03_Add.j0
   repeat' first
   | (with_reducible exact ih0 _ _ _)
   | (with_reducible exact LeO.refl _)
   | (with_reducible exact LeO.none _)
   | (with_reducible refine LeO.ite ?_ ?_)
   | (with_reducible refine LeO.bind ?_ (fun _ => ?_))
   | exact ih0 _ _ _
   | exact LeO.none _
   | refine LeO.ite ?_ ?_
   | refine LeO.bind ?_ (fun _ => ?_)
theorem lockageref03_Add.mono : ∀ a0 a1 k, LeO (lockageref03_Add.f k a0 a1) (lockageref03_Add.f (k + 1) a0 a1) := by
 intro a0 a1 k
 have ih0 := lockageref03_Add.mono_l k
 unfold lockageref03_Add.f
 repeat' first
   | (with_reducible exact ih0 _ _ _)
   | (with_reducible exact LeO.refl _)
   | (with_reducible exact LeO.none _)
   | (with_reducible refine LeO.ite ?_ ?_)
   | (with_reducible refine LeO.bind ?_ (fun _ => ?_))
   | exact ih0 _ _ _
   | exact LeO.none _
   | refine LeO.ite ?_ ?_
   | refine LeO.bind ?_ (fun _ => ?_)
set_option maxHeartbeats 8000000 in
set_option maxRecDepth 100000 in
theorem lockageref03_Add.calls (k : Nat) (a0 : Int) (a1 : Int) (r1 : Int) (r2 : Int) (w : World) (h : lockageref03_Add.f k a0 a1 = some (r1, r2)) :
  Calls Tryz.prog 197 #[.int .i64 a0, .int .i64 a1] w fun e w' => e = .returned (.tuple #[.int .i64 r1, .int .i64 r2]) ∧ Drawn0 w w' := by
 have H : ((lockageref03_Fits.f a0).bind fun t548 => (if t548 = true then ((lockageref03_Fits.f a1).bind fun t549 => (lockageref03_Add.j0 k a0 a1 (!t549))) else (lockageref03_Add.j0 k a0 a1 true))) = some (r1, r2) := h
 clear h
 have HC3 := Aside0.mk H
 clear H
 go_enter Tryz.func197, Tryz.ntmps197
 go_upto_region 1 with (fail)
 go_cut [13] (fun v13 wc => ∃ (kq : Nat) (x13_2 : Bool), v13 = .bool x13_2 ∧ Aside0 (lockageref03_Add.j0 kq a0 a1 x13_2 = some (r1, r2)) ∧ Aside0 (kq ≤ k) ∧ Drawn0 w wc)
 case first =>
  have H := HC3.out
  clear HC3
  replace H := Option.bind_eq_some_iff.mp H
  obtain ⟨t548, A40, H⟩ := H
  replace H : (if t548 = true then ((lockageref03_Fits.f a1).bind fun t549 => (lockageref03_Add.j0 k a0 a1 (!t549))) else (lockageref03_Add.j0 k a0 a1 true)) = some (r1, r2) := H
  have A4 := Aside0.mk A40
  clear A40
  by_cases c5 : t548 = true
  ·subst c5
   have H1 : ((lockageref03_Fits.f a1).bind fun t549 => (lockageref03_Add.j0 k a0 a1 (!t549))) = some (r1, r2) := by rw [if_pos rfl] at H; exact H
   clear H
   have H := H1
   clear H1
   replace H := Option.bind_eq_some_iff.mp H
   obtain ⟨t549, A60, H⟩ := H
   replace H : (lockageref03_Add.j0 k a0 a1 (!t549)) = some (r1, r2) := H
   have A6 := Aside0.mk A60
   clear A60
   have H' := Aside0.mk H
   clear H
   go_wp2_with (first | ((with_reducible refine gate_callee (f := 108) rfl ?_); refine goesL_ (some 7) rfl rfl Tryz.func108 (by kernel_rfl) rfl #[.int .i64 a0] rfl (by (try simp only [List.map_toArray, List.map_cons, List.map_nil]); first | done | rfl | (simp only [List.length_drop, List.length_take]; rfl)) ?_; (with_reducible refine (lockageref03_Fits.calls a0 true _ A4.out).mono ?_); rintro e w' ⟨rfl, ⟨nd, rfl⟩⟩; refine ⟨_, rfl, ?_⟩) | (go_at_call 108; (with_reducible refine (lockageref03_Fits.calls a1 t549 _ A6.out).mono ?_); rintro e w' ⟨rfl, ⟨nd, rfl⟩⟩))
   go_meet
   case rel => exact ⟨_, (!t549), (by first | rfl | (simp; done) | (simp [*]; done)), H', ⟨by first | omega | exact Nat.le_refl _⟩, by repeat (first | exact Drawn0.refl _ | apply Drawn0.step)⟩
  ·replace c5 := Bool.eq_false_iff.mpr c5
   subst c5
   have H1 : (lockageref03_Add.j0 k a0 a1 true) = some (r1, r2) := by rw [if_neg (show ¬ (false = true) by decide)] at H; exact H
   clear H
   have H := H1
   clear H1
   have H' := Aside0.mk H
   clear H
   go_wp2_with (first | ((with_reducible refine gate_callee (f := 108) rfl ?_); refine goesL_ (some 7) rfl rfl Tryz.func108 (by kernel_rfl) rfl #[.int .i64 a0] rfl (by (try simp only [List.map_toArray, List.map_cons, List.map_nil]); first | done | rfl | (simp only [List.length_drop, List.length_take]; rfl)) ?_; (with_reducible refine (lockageref03_Fits.calls a0 false _ A4.out).mono ?_); rintro e w' ⟨rfl, ⟨nd, rfl⟩⟩; refine ⟨_, rfl, ?_⟩))
   go_meet
   case rel => exact ⟨_, (true), (by first | rfl | (simp; done) | (simp [*]; done)), H', ⟨by first | omega | exact Nat.le_refl _⟩, by repeat (first | exact Drawn0.refl _ | apply Drawn0.step)⟩
 case rest =>
  clear HC3
  try clear c1
  try clear p2
  try clear c5
  obtain ⟨kq, x13_2, rfl, HA, HJ2, ⟨mc2, rfl⟩⟩ := hcut
  cases kq with
  | zero => exact absurd HA.out (by simp [lockageref03_Add.j0])
  | succ kj2 =>
   have H := HA.out
   clear HA
   simp only [lockageref03_Add.j0] at H
   by_cases c7 : x13_2 = true
   ·subst c7
    have H1 : (some (0, 1)) = some (r1, r2) := by rw [if_pos rfl] at H; exact H
    clear H
    have H := H1
    clear H1
    simp only [Option.some.injEq, Prod.mk.injEq] at H
    obtain ⟨rfl, rfl⟩ := H
    go_wp2
    go_ret2
    exact ⟨by first | rfl | (simp; done) | (simp [*]; done), by repeat (first | exact Drawn0.refl _ | apply Drawn0.step)⟩
   ·replace c7 := Bool.eq_false_iff.mpr c7
    subst c7
    have H1 : (if a0 > (wrap64 (9007199254740992 - a1)) then (some (0, 3)) else (some (wrap64 (a0 + a1), 0))) = some (r1, r2) := by rw [if_neg (show ¬ (false = true) by decide)] at H; exact H
    clear H
    have H := H1
    clear H1
    by_cases c8 : a0 > (wrap64 (9007199254740992 - a1))
    ·rw [if_pos c8] at H
     have c8b0 : decide ((wrap64 (9007199254740992 - a1)) < a0) = true := decide_eq_true c8
     clear c8
     simp only [Option.some.injEq, Prod.mk.injEq] at H
     obtain ⟨rfl, rfl⟩ := H
     go_wp2
     go_ret2
     exact ⟨by first | rfl | (simp; done) | (simp [*]; done), by repeat (first | exact Drawn0.refl _ | apply Drawn0.step)⟩
    ·rw [if_neg c8] at H
     have c8b0 : decide ((wrap64 (9007199254740992 - a1)) < a0) = false := decide_eq_false c8
     clear c8
     simp only [Option.some.injEq, Prod.mk.injEq] at H
     obtain ⟨rfl, rfl⟩ := H
     go_wp2
     go_ret2
     exact ⟨by first | rfl | (simp; done) | (simp [*]; done), by repeat (first | exact Drawn0.refl _ | apply Drawn0.step)⟩
end Go.Proofs.YtalafpigfeiaiaaGreatDoor.Q
end
section
namespace Go.Proofs.YtalafpigfeiaiaaGreatDoor.Q
open Go.RowKit Go.Proofs.YtalafpigfeiaiaaGreatDoorW.PrintWords Go.Proofs.YtalafpigfeiaiaaGreatDoorW.PrintLast Go.Proofs.YtalafpigfeiaiaaGreatDoorW.PrintMore
attribute [local go_sem] max2_int min2_int max_two min_two max_three min_three max_four min_four
set_option linter.unusedVariables false
set_option linter.unusedSimpArgs false
mutual
def lockageref03_Parse.j0 : Nat → ByteArray → Int → Bool → Option (Int × Int)
 | 0, _, _, _ => none
 | k + 1, x0, x1, x22 => if x22 = true then (some (0, 1)) else (lockageref03_Parse.l0 k x0 x1 0)
def lockageref03_Parse.l0 : Nat → ByteArray → Int → Int → Option (Int × Int)
 | 0, _, _, _ => none
 | k + 1, x0, x1, x6 => if x6 < (x0.size : Int) then (if 0 ≤ x6 then ((lockageref03_value.f k (bt x0 x6) x1).bind fun t550 => (if t550 < 0 then (some (0, 1)) else (lockageref03_Parse.l0 k x0 x1 (wrap64 (x6 + 1))))) else (none)) else (lockageref03_Parse.l1 k x0 x1 0 0)
def lockageref03_Parse.l1 : Nat → ByteArray → Int → Int → Int → Option (Int × Int)
 | 0, _, _, _, _ => none
 | k + 1, x0, x1, x7, x8 => if x8 < (x0.size : Int) then ((lockageref03_Mul.f k x7 x1).bind fun bt551 => (if 0 ≤ x8 then ((lockageref03_value.f k (bt x0 x8) x1).bind fun t553 => ((lockageref03_Add.f k bt551.1 t553).bind fun bt554 => (if bt551.2 = 0 then (if bt554.2 = 0 then (lockageref03_Parse.l1 k x0 x1 bt554.1 (wrap64 (x8 + 1))) else (some (0, 3))) else (some (0, 3))))) else (none))) else (some (x7, 0))
end
def lockageref03_Parse.f (k : Nat) (a0 : ByteArray) (a1 : Int) : Option (Int × Int) := if a0.toList = ([] : List UInt8) then (lockageref03_Parse.j0 k a0 a1 true) else (if a1 = 10 then (lockageref03_Parse.j0 k a0 a1 false) else (lockageref03_Parse.j0 k a0 a1 (a1 != 16)))
theorem lockageref03_Parse.mono_l : ∀ k, (∀ y0 y1 y2, LeO (lockageref03_Parse.j0 k y0 y1 y2) (lockageref03_Parse.j0 (k + 1) y0 y1 y2)) ∧ (∀ y0 y1 y2, LeO (lockageref03_Parse.l0 k y0 y1 y2) (lockageref03_Parse.l0 (k + 1) y0 y1 y2)) ∧ (∀ y0 y1 y2 y3, LeO (lockageref03_Parse.l1 k y0 y1 y2 y3) (lockageref03_Parse.l1 (k + 1) y0 y1 y2 y3))
 | 0 => ⟨fun _ _ _ r h => by simp [lockageref03_Parse.j0] at h, fun _ _ _ r h => by simp [lockageref03_Parse.l0] at h, fun _ _ _ _ r h => by simp [lockageref03_Parse.l1] at h⟩
 | k + 1 => by
  obtain ⟨ih0, ih1, ih2⟩ := lockageref03_Parse.mono_l k
  refine ⟨?_, ?_, ?_⟩
  ·intro y0 y1 y2
   unfold lockageref03_Parse.j0
   repeat' first
   | (with_reducible exact ih0 _ _ _)
   | (with_reducible exact ih1 _ _ _)
   | (with_reducible exact ih2 _ _ _ _)
   | (with_reducible exact lockageref03_Add.mono _ _ _)
   | (with_reducible exact lockageref03_Mul.mono _ _ _)
   | (with_reducible exact lockageref03_value.mono _ _ _)
   | (with_reducible exact LeO.refl _)
   | (with_reducible exact LeO.none _)
   | (with_reducible refine LeO.ite ?_ ?_)
   | (with_reducible refine LeO.bind ?_ (fun _ => ?_))
   | exact ih0 _ _ _
   | exact ih1 _ _ _
   | exact ih2 _ _ _ _
   | exact lockageref03_Add.mono _ _ _
   | exact lockageref03_Mul.mono _ _ _
   | exact lockageref03_value.mono _ _ _
   | exact LeO.none _
   | refine LeO.ite ?_ ?_
   | refine LeO.bind ?_ (fun _ => ?_)
  ·intro y0 y1 y2
   unfold lockageref03_Parse.l0
   repeat' first
   | (with_reducible exact ih0 _ _ _)
   | (with_reducible exact ih1 _ _ _)
   | (with_reducible exact ih2 _ _ _ _)
   | (with_reducible exact lockageref03_Add.mono _ _ _)
   | (with_reducible exact lockageref03_Mul.mono _ _ _)
   | (with_reducible exact lockageref03_value.mono _ _ _)
   | (with_reducible exact LeO.refl _)
   | (with_reducible exact LeO.none _)
   | (with_reducible refine LeO.ite ?_ ?_)
   | (with_reducible refine LeO.bind ?_ (fun _ => ?_))
   | exact ih0 _ _ _
   | exact ih1 _ _ _
   | exact ih2 _ _ _ _
   | exact lockageref03_Add.mono _ _ _
   | exact lockageref03_Mul.mono _ _ _
   | exact lockageref03_value.mono _ _ _
   | exact LeO.none _
   | refine LeO.ite ?_ ?_
   | refine LeO.bind ?_ (fun _ => ?_)
  ·intro y0 y1 y2 y3
   unfold lockageref03_Parse.l1
   repeat' first
   | (with_reducible exact ih0 _ _ _)
   | (with_reducible exact ih1 _ _ _)
   | (with_reducible exact ih2 _ _ _ _)
   | (with_reducible exact lockageref03_Add.mono _ _ _)
   | (with_reducible exact lockageref03_Mul.mono _ _ _)
   | (with_reducible exact lockageref03_value.mono _ _ _)
   | (with_reducible exact LeO.refl _)
   | (with_reducible exact LeO.none _)
   | (with_reducible refine LeO.ite ?_ ?_)
   | (with_reducible refine LeO.bind ?_ (fun _ => ?_))
   | exact ih0 _ _ _
   | exact ih1 _ _ _
   | exact ih2 _ _ _ _
   | exact lockageref03_Add.mono _ _ _
   | exact lockageref03_Mul.mono _ _ _
   | exact lockageref03_value.mono _ _ _
   | exact LeO.none _
   | refine LeO.ite ?_ ?_
   | refine LeO.bind ?_ (fun _ => ?_)
theorem lockageref03_Parse.mono : ∀ a0 a1 k, LeO (lockageref03_Parse.f k a0 a1) (lockageref03_Parse.f (k + 1) a0 a1) := by
 intro a0 a1 k
 obtain ⟨ih0, ih1, ih2⟩ := lockageref03_Parse.mono_l k
 unfold lockageref03_Parse.f
 repeat' first
   | (with_reducible exact ih0 _ _ _)
   | (with_reducible exact ih1 _ _ _)
   | (with_reducible exact ih2 _ _ _ _)
   | (with_reducible exact lockageref03_Add.mono _ _ _)
   | (with_reducible exact lockageref03_Mul.mono _ _ _)
   | (with_reducible exact lockageref03_value.mono _ _ _)
   | (with_reducible exact LeO.refl _)
   | (with_reducible exact LeO.none _)
   | (with_reducible refine LeO.ite ?_ ?_)
   | (with_reducible refine LeO.bind ?_ (fun _ => ?_))
   | exact ih0 _ _ _
   | exact ih1 _ _ _
   | exact ih2 _ _ _ _
   | exact lockageref03_Add.mono _ _ _
   | exact lockageref03_Mul.mono _ _ _
   | exact lockageref03_value.mono _ _ _
   | exact LeO.none _
   | refine LeO.ite ?_ ?_
   | refine LeO.bind ?_ (fun _ => ?_)
set_option maxHeartbeats 8000000 in
set_option maxRecDepth 100000 in
theorem lockageref03_Parse.calls (k : Nat) (a0 : ByteArray) (a1 : Int) (r1 : Int) (r2 : Int) (w : World) (h : lockageref03_Parse.f k a0 a1 = some (r1, r2)) :
  Calls Tryz.prog 151 #[.string a0, .int .i64 a1] w fun e w' => e = .returned (.tuple #[.int .i64 r1, .int .i64 r2]) ∧ Drawn0 w w' := by
 have H : (if a0.toList = ([] : List UInt8) then (lockageref03_Parse.j0 k a0 a1 true) else (if a1 = 10 then (lockageref03_Parse.j0 k a0 a1 false) else (lockageref03_Parse.j0 k a0 a1 (a1 != 16)))) = some (r1, r2) := h
 clear h
 have HC3 := Aside0.mk H
 clear H
 go_enter Tryz.func151, Tryz.ntmps151
 go_upto_region 1 with (fail)
 go_cut [22] (fun v22 wc => ∃ (kq : Nat) (x22_2 : Bool), v22 = .bool x22_2 ∧ Aside0 (lockageref03_Parse.j0 kq a0 a1 x22_2 = some (r1, r2)) ∧ Aside0 (kq ≤ k) ∧ Drawn0 w wc)
 case first =>
  have H := HC3.out
  clear HC3
  by_cases c4 : a0.toList = ([] : List UInt8)
  ·rw [if_pos c4] at H
   have c4b0 : (a0.toList == ([] : List UInt8)) = true := beq_iff_eq.mpr c4
   have c4b1 : (a0.toList != ([] : List UInt8)) = false := bne_eq_false_iff_eq.mpr c4
   clear c4
   (first | rw [c4b0] | (simp only [i64_w, i32_w]; rw [c4b0]) | skip)
   have H' := Aside0.mk H
   clear H
   go_wp2
   go_meet
   case rel => exact ⟨_, (true), (by first | rfl | (simp; done) | (simp [*]; done)), H', ⟨by first | omega | exact Nat.le_refl _⟩, by repeat (first | exact Drawn0.refl _ | apply Drawn0.step)⟩
  ·rw [if_neg c4] at H
   have c4b0 : (a0.toList == ([] : List UInt8)) = false := beq_eq_false_iff_ne.mpr c4
   have c4b1 : (a0.toList != ([] : List UInt8)) = true := bne_iff_ne.mpr c4
   (first | rw [c4b0] | (simp only [i64_w, i32_w]; rw [c4b0]) | skip)
   by_cases c5 : a1 = 10
   ·rw [if_pos c5] at H
    have c5b0 : (a1 == 10) = true := beq_iff_eq.mpr c5
    have c5b1 : (a1 != 10) = false := bne_eq_false_iff_eq.mpr c5
    clear c5
    have H' := Aside0.mk H
    clear H
    go_wp2
    go_meet
    case rel => exact ⟨_, (false), (by first | rfl | (simp; done) | (simp [*]; done)), H', ⟨by first | omega | exact Nat.le_refl _⟩, by repeat (first | exact Drawn0.refl _ | apply Drawn0.step)⟩
   ·rw [if_neg c5] at H
    have c5b0 : (a1 == 10) = false := beq_eq_false_iff_ne.mpr c5
    have c5b1 : (a1 != 10) = true := bne_iff_ne.mpr c5
    have H' := Aside0.mk H
    clear H
    go_wp2
    go_meet
    case rel => exact ⟨_, ((a1 != 16)), (by first | rfl | (simp; done) | (simp [*]; done)), H', ⟨by first | omega | exact Nat.le_refl _⟩, by repeat (first | exact Drawn0.refl _ | apply Drawn0.step)⟩
 case rest =>
  clear HC3
  try clear c1
  try clear p2
  try clear c4
  try clear c4b0
  try clear c4b1
  try clear c5
  try clear c5b0
  try clear c5b1
  obtain ⟨kq, x22_2, rfl, HA, HJ2, ⟨mc2, rfl⟩⟩ := hcut
  cases kq with
  | zero => exact absurd HA.out (by simp [lockageref03_Parse.j0])
  | succ kj2 =>
   have H := HA.out
   clear HA
   simp only [lockageref03_Parse.j0] at H
   by_cases c6 : x22_2 = true
   ·subst c6
    have H1 : (some (0, 1)) = some (r1, r2) := by rw [if_pos rfl] at H; exact H
    clear H
    have H := H1
    clear H1
    simp only [Option.some.injEq, Prod.mk.injEq] at H
    obtain ⟨rfl, rfl⟩ := H
    go_wp2
    go_ret2
    exact ⟨by first | rfl | (simp; done) | (simp [*]; done), by repeat (first | exact Drawn0.refl _ | apply Drawn0.step)⟩
   ·replace c6 := Bool.eq_false_iff.mpr c6
    subst c6
    have H1 : (lockageref03_Parse.l0 kj2 a0 a1 0) = some (r1, r2) := by rw [if_neg (show ¬ (false = true) by decide)] at H; exact H
    clear H
    have H := H1
    clear H1
    have H' := Aside0.mk H
    clear H
    go_wp2
    go_loopg [6] kj2 (fun kq v6 w' => ∃ (x6_2 : Int), v6 = .int .i64 x6_2 ∧ Aside0 (lockageref03_Parse.l0 kq a0 a1 x6_2 = some (r1, r2)) ∧ Aside0 (kq ≤ kj2) ∧ Drawn0 w w')
    case atStart => exact ⟨(0), (by first | rfl | (simp; done) | (simp [*]; done)), H', ⟨Nat.le_refl _⟩, by repeat (first | exact Drawn0.refl _ | apply Drawn0.step)⟩
    case round =>
     clear H'
     try clear c1
     try clear c2
     try clear p2
     try clear c4
     try clear c4b0
     try clear c4b1
     try clear c5
     try clear c5b0
     try clear c5b1
     try clear c6
     try clear p2
     obtain ⟨x6_2, rfl, HA, HK2, ⟨m2, rfl⟩⟩ := hrel
     cases gk with
     | zero => exact absurd HA.out (by simp [lockageref03_Parse.l0])
     | succ k2 =>
      have H := HA.out
      clear HA
      simp only [lockageref03_Parse.l0] at H
      by_cases c7 : x6_2 < (a0.size : Int)
      ·rw [if_pos c7] at H
       have c7b0 : decide (x6_2 < (a0.size : Int)) = true := decide_eq_true c7
       clear c7
       by_cases c8 : 0 ≤ x6_2
       ·rw [if_pos c8] at H
        have c8b0 : decide (0 ≤ x6_2) = true := decide_eq_true c8
        clear c8
        replace H := Option.bind_eq_some_iff.mp H
        obtain ⟨t550, A100, H⟩ := H
        replace H : (if t550 < 0 then (some (0, 1)) else (lockageref03_Parse.l0 k2 a0 a1 (wrap64 (x6_2 + 1)))) = some (r1, r2) := H
        have A10 := Aside0.mk A100
        clear A100
        by_cases c11 : t550 < 0
        ·rw [if_pos c11] at H
         have c11b0 : decide (t550 < 0) = true := decide_eq_true c11
         clear c11
         simp only [Option.some.injEq, Prod.mk.injEq] at H
         obtain ⟨rfl, rfl⟩ := H
         have p9 : 0 ≤ (x6_2 : Int) := of_decide_eq_true (by first | (with_reducible assumption) | assumption)
         have q9 : x6_2 < (a0.size : Int) := of_decide_eq_true (by first | (with_reducible assumption) | assumption)
         have hx9 := bt_at a0 x6_2
         replace p9 := eq_true p9
         replace q9 := eq_true q9
         go_wp2_with (first | ((with_reducible refine gate_callee (f := 195) rfl ?_); refine goesL_ (some 33) rfl rfl Tryz.func195 (by kernel_rfl) rfl #[.int .u8 (bt a0 x6_2), .int .i64 a1] rfl (by (try simp only [List.map_toArray, List.map_cons, List.map_nil]); first | done | rfl | (simp only [List.length_drop, List.length_take]; rfl)) ?_; (with_reducible refine (lockageref03_value.calls k2 (bt a0 x6_2) a1 t550 _ A10.out).mono ?_); rintro e w' ⟨rfl, ⟨nd, rfl⟩⟩; refine ⟨_, rfl, ?_⟩))
         go_ret2
         exact ⟨by first | rfl | (simp; done) | (simp [*]; done), by repeat (first | exact Drawn0.refl _ | apply Drawn0.step)⟩
        ·rw [if_neg c11] at H
         have c11b0 : decide (t550 < 0) = false := decide_eq_false c11
         clear c11
         have H' := Aside0.mk H
         clear H
         have p9 : 0 ≤ (x6_2 : Int) := of_decide_eq_true (by first | (with_reducible assumption) | assumption)
         have q9 : x6_2 < (a0.size : Int) := of_decide_eq_true (by first | (with_reducible assumption) | assumption)
         have hx9 := bt_at a0 x6_2
         replace p9 := eq_true p9
         replace q9 := eq_true q9
         go_wp2_with (first | ((with_reducible refine gate_callee (f := 195) rfl ?_); refine goesL_ (some 33) rfl rfl Tryz.func195 (by kernel_rfl) rfl #[.int .u8 (bt a0 x6_2), .int .i64 a1] rfl (by (try simp only [List.map_toArray, List.map_cons, List.map_nil]); first | done | rfl | (simp only [List.length_drop, List.length_take]; rfl)) ?_; (with_reducible refine (lockageref03_value.calls k2 (bt a0 x6_2) a1 t550 _ A10.out).mono ?_); rintro e w' ⟨rfl, ⟨nd, rfl⟩⟩; refine ⟨_, rfl, ?_⟩))
         go_roundg k2
         case measure => have := HJ2.out; have := HK2.out; omega
         case rel => exact ⟨(wrap64 (x6_2 + 1)), (by first | rfl | (simp; done) | (simp [*]; done)), H', ⟨by have := HJ2.out; have := HK2.out; omega⟩, by repeat (first | exact Drawn0.refl _ | apply Drawn0.step)⟩
       ·rw [if_neg c8] at H
        exact absurd H (by simp)
      ·rw [if_neg c7] at H
       have c7b0 : decide (x6_2 < (a0.size : Int)) = false := decide_eq_false c7
       clear c7
       have H' := Aside0.mk H
       clear H
       go_wp2
       go_loopg [7, 8] k2 (fun kq v7 v8 w' => ∃ (x7_3 : Int) (x8_3 : Int), v7 = .int .i64 x7_3 ∧ v8 = .int .i64 x8_3 ∧ Aside0 (lockageref03_Parse.l1 kq a0 a1 x7_3 x8_3 = some (r1, r2)) ∧ Aside0 (kq ≤ k2) ∧ Drawn0 w w')
       case atStart => exact ⟨(0), (0), (by first | rfl | (simp; done) | (simp [*]; done)), (by first | rfl | (simp; done) | (simp [*]; done)), H', ⟨Nat.le_refl _⟩, by repeat (first | exact Drawn0.refl _ | apply Drawn0.step)⟩
       case round =>
        clear H'
        try clear c1
        try clear c2
        try clear p2
        try clear c4
        try clear c4b0
        try clear c4b1
        try clear c5
        try clear c5b0
        try clear c5b1
        try clear c6
        try clear p6
        try clear c7
        try clear c7b0
        try clear c8
        try clear c8b0
        try clear p9
        try clear q9
        try clear hx9
        try clear c11
        try clear c11b0
        try clear p2
        try clear p9
        try clear q9
        obtain ⟨x7_3, x8_3, rfl, rfl, HA, HK3, ⟨m3, rfl⟩⟩ := hrel
        cases gk with
        | zero => exact absurd HA.out (by simp [lockageref03_Parse.l1])
        | succ k3 =>
         have H := HA.out
         clear HA
         simp only [lockageref03_Parse.l1] at H
         by_cases c12 : x8_3 < (a0.size : Int)
         ·rw [if_pos c12] at H
          have c12b0 : decide (x8_3 < (a0.size : Int)) = true := decide_eq_true c12
          clear c12
          replace H := Option.bind_eq_some_iff.mp H
          obtain ⟨⟨t551, t552⟩, A130, H⟩ := H
          replace H : (if 0 ≤ x8_3 then ((lockageref03_value.f k3 (bt a0 x8_3) a1).bind fun t553 => ((lockageref03_Add.f k3 t551 t553).bind fun bt554 => (if t552 = 0 then (if bt554.2 = 0 then (lockageref03_Parse.l1 k3 a0 a1 bt554.1 (wrap64 (x8_3 + 1))) else (some (0, 3))) else (some (0, 3))))) else (none)) = some (r1, r2) := H
          have A13 := Aside0.mk A130
          clear A130
          by_cases c14 : 0 ≤ x8_3
          ·rw [if_pos c14] at H
           have c14b0 : decide (0 ≤ x8_3) = true := decide_eq_true c14
           clear c14
           replace H := Option.bind_eq_some_iff.mp H
           obtain ⟨t553, A160, H⟩ := H
           replace H : ((lockageref03_Add.f k3 t551 t553).bind fun bt554 => (if t552 = 0 then (if bt554.2 = 0 then (lockageref03_Parse.l1 k3 a0 a1 bt554.1 (wrap64 (x8_3 + 1))) else (some (0, 3))) else (some (0, 3)))) = some (r1, r2) := H
           have A16 := Aside0.mk A160
           clear A160
           replace H := Option.bind_eq_some_iff.mp H
           obtain ⟨⟨t554, t555⟩, A170, H⟩ := H
           replace H : (if t552 = 0 then (if t555 = 0 then (lockageref03_Parse.l1 k3 a0 a1 t554 (wrap64 (x8_3 + 1))) else (some (0, 3))) else (some (0, 3))) = some (r1, r2) := H
           have A17 := Aside0.mk A170
           clear A170
           by_cases c18 : t552 = 0
           ·rw [if_pos c18] at H
            have c18b0 : (t552 == 0) = true := beq_iff_eq.mpr c18
            have c18b1 : (t552 != 0) = false := bne_eq_false_iff_eq.mpr c18
            clear c18
            by_cases c19 : t555 = 0
            ·rw [if_pos c19] at H
             have c19b0 : (t555 == 0) = true := beq_iff_eq.mpr c19
             have c19b1 : (t555 != 0) = false := bne_eq_false_iff_eq.mpr c19
             clear c19
             have H' := Aside0.mk H
             clear H
             go_wp2_with (first | ((with_reducible refine gate_callee (f := 196) rfl ?_); refine goesL_ (some 44) rfl rfl Tryz.func196 (by kernel_rfl) rfl #[.int .i64 x7_3, .int .i64 a1] rfl (by (try simp only [List.map_toArray, List.map_cons, List.map_nil]); first | done | rfl | (simp only [List.length_drop, List.length_take]; rfl)) ?_; (with_reducible refine (lockageref03_Mul.calls k3 x7_3 a1 t551 t552 _ A13.out).mono ?_); rintro e w' ⟨rfl, ⟨nd, rfl⟩⟩; refine ⟨_, rfl, ?_⟩; have p15 : 0 ≤ (x8_3 : Int) := of_decide_eq_true (by first | (with_reducible assumption) | assumption); have q15 : x8_3 < (a0.size : Int) := of_decide_eq_true (by first | (with_reducible assumption) | assumption); have hx15 := bt_at a0 x8_3; replace p15 := eq_true p15; replace q15 := eq_true q15) | ((with_reducible refine gate_callee (f := 195) rfl ?_); refine goesL_ (some 53) rfl rfl Tryz.func195 (by kernel_rfl) rfl #[.int .u8 (bt a0 x8_3), .int .i64 a1] rfl (by (try simp only [List.map_toArray, List.map_cons, List.map_nil]); first | done | rfl | (simp only [List.length_drop, List.length_take]; rfl)) ?_; (with_reducible refine (lockageref03_value.calls k3 (bt a0 x8_3) a1 t553 _ A16.out).mono ?_); rintro e w' ⟨rfl, ⟨nd, rfl⟩⟩; refine ⟨_, rfl, ?_⟩) | ((with_reducible refine gate_callee (f := 197) rfl ?_); refine goesL_ (some 54) rfl rfl Tryz.func197 (by kernel_rfl) rfl #[.int .i64 t551, .int .i64 t553] rfl (by (try simp only [List.map_toArray, List.map_cons, List.map_nil]); first | done | rfl | (simp only [List.length_drop, List.length_take]; rfl)) ?_; (with_reducible refine (lockageref03_Add.calls k3 t551 t553 t554 t555 _ A17.out).mono ?_); rintro e w' ⟨rfl, ⟨nd, rfl⟩⟩; refine ⟨_, rfl, ?_⟩))
             go_roundg k3
             case measure => have := HJ2.out; have := HK2.out; have := HK3.out; omega
             case rel => exact ⟨(t554), (wrap64 (x8_3 + 1)), (by first | rfl | (simp; done) | (simp [*]; done)), (by first | rfl | (simp; done) | (simp [*]; done)), H', ⟨by have := HJ2.out; have := HK2.out; have := HK3.out; omega⟩, by repeat (first | exact Drawn0.refl _ | apply Drawn0.step)⟩
            ·rw [if_neg c19] at H
             have c19b0 : (t555 == 0) = false := beq_eq_false_iff_ne.mpr c19
             have c19b1 : (t555 != 0) = true := bne_iff_ne.mpr c19
             simp only [Option.some.injEq, Prod.mk.injEq] at H
             obtain ⟨rfl, rfl⟩ := H
             go_wp2_with (first | ((with_reducible refine gate_callee (f := 196) rfl ?_); refine goesL_ (some 44) rfl rfl Tryz.func196 (by kernel_rfl) rfl #[.int .i64 x7_3, .int .i64 a1] rfl (by (try simp only [List.map_toArray, List.map_cons, List.map_nil]); first | done | rfl | (simp only [List.length_drop, List.length_take]; rfl)) ?_; (with_reducible refine (lockageref03_Mul.calls k3 x7_3 a1 t551 t552 _ A13.out).mono ?_); rintro e w' ⟨rfl, ⟨nd, rfl⟩⟩; refine ⟨_, rfl, ?_⟩; have p15 : 0 ≤ (x8_3 : Int) := of_decide_eq_true (by first | (with_reducible assumption) | assumption); have q15 : x8_3 < (a0.size : Int) := of_decide_eq_true (by first | (with_reducible assumption) | assumption); have hx15 := bt_at a0 x8_3; replace p15 := eq_true p15; replace q15 := eq_true q15) | ((with_reducible refine gate_callee (f := 195) rfl ?_); refine goesL_ (some 53) rfl rfl Tryz.func195 (by kernel_rfl) rfl #[.int .u8 (bt a0 x8_3), .int .i64 a1] rfl (by (try simp only [List.map_toArray, List.map_cons, List.map_nil]); first | done | rfl | (simp only [List.length_drop, List.length_take]; rfl)) ?_; (with_reducible refine (lockageref03_value.calls k3 (bt a0 x8_3) a1 t553 _ A16.out).mono ?_); rintro e w' ⟨rfl, ⟨nd, rfl⟩⟩; refine ⟨_, rfl, ?_⟩) | ((with_reducible refine gate_callee (f := 197) rfl ?_); refine goesL_ (some 54) rfl rfl Tryz.func197 (by kernel_rfl) rfl #[.int .i64 t551, .int .i64 t553] rfl (by (try simp only [List.map_toArray, List.map_cons, List.map_nil]); first | done | rfl | (simp only [List.length_drop, List.length_take]; rfl)) ?_; (with_reducible refine (lockageref03_Add.calls k3 t551 t553 t554 t555 _ A17.out).mono ?_); rintro e w' ⟨rfl, ⟨nd, rfl⟩⟩; refine ⟨_, rfl, ?_⟩))
             go_ret2
             exact ⟨by first | rfl | (simp; done) | (simp [*]; done), by repeat (first | exact Drawn0.refl _ | apply Drawn0.step)⟩
           ·rw [if_neg c18] at H
            have c18b0 : (t552 == 0) = false := beq_eq_false_iff_ne.mpr c18
            have c18b1 : (t552 != 0) = true := bne_iff_ne.mpr c18
            simp only [Option.some.injEq, Prod.mk.injEq] at H
            obtain ⟨rfl, rfl⟩ := H
            go_wp2_with (first | ((with_reducible refine gate_callee (f := 196) rfl ?_); refine goesL_ (some 44) rfl rfl Tryz.func196 (by kernel_rfl) rfl #[.int .i64 x7_3, .int .i64 a1] rfl (by (try simp only [List.map_toArray, List.map_cons, List.map_nil]); first | done | rfl | (simp only [List.length_drop, List.length_take]; rfl)) ?_; (with_reducible refine (lockageref03_Mul.calls k3 x7_3 a1 t551 t552 _ A13.out).mono ?_); rintro e w' ⟨rfl, ⟨nd, rfl⟩⟩; refine ⟨_, rfl, ?_⟩; have p15 : 0 ≤ (x8_3 : Int) := of_decide_eq_true (by first | (with_reducible assumption) | assumption); have q15 : x8_3 < (a0.size : Int) := of_decide_eq_true (by first | (with_reducible assumption) | assumption); have hx15 := bt_at a0 x8_3; replace p15 := eq_true p15; replace q15 := eq_true q15) | ((with_reducible refine gate_callee (f := 195) rfl ?_); refine goesL_ (some 53) rfl rfl Tryz.func195 (by kernel_rfl) rfl #[.int .u8 (bt a0 x8_3), .int .i64 a1] rfl (by (try simp only [List.map_toArray, List.map_cons, List.map_nil]); first | done | rfl | (simp only [List.length_drop, List.length_take]; rfl)) ?_; (with_reducible refine (lockageref03_value.calls k3 (bt a0 x8_3) a1 t553 _ A16.out).mono ?_); rintro e w' ⟨rfl, ⟨nd, rfl⟩⟩; refine ⟨_, rfl, ?_⟩) | ((with_reducible refine gate_callee (f := 197) rfl ?_); refine goesL_ (some 54) rfl rfl Tryz.func197 (by kernel_rfl) rfl #[.int .i64 t551, .int .i64 t553] rfl (by (try simp only [List.map_toArray, List.map_cons, List.map_nil]); first | done | rfl | (simp only [List.length_drop, List.length_take]; rfl)) ?_; (with_reducible refine (lockageref03_Add.calls k3 t551 t553 t554 t555 _ A17.out).mono ?_); rintro e w' ⟨rfl, ⟨nd, rfl⟩⟩; refine ⟨_, rfl, ?_⟩))
            go_ret2
            exact ⟨by first | rfl | (simp; done) | (simp [*]; done), by repeat (first | exact Drawn0.refl _ | apply Drawn0.step)⟩
          ·rw [if_neg c14] at H
           exact absurd H (by simp)
         ·rw [if_neg c12] at H
          have c12b0 : decide (x8_3 < (a0.size : Int)) = false := decide_eq_false c12
          clear c12
          simp only [Option.some.injEq, Prod.mk.injEq] at H
          obtain ⟨rfl, rfl⟩ := H
          go_wp2
          go_ret2
          exact ⟨by first | rfl | (simp; done) | (simp [*]; done), by repeat (first | exact Drawn0.refl _ | apply Drawn0.step)⟩
end Go.Proofs.YtalafpigfeiaiaaGreatDoor.Q
end
