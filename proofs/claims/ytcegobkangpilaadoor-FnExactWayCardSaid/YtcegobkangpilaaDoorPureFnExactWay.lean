/- The program's Way returns what the reference's Way returns, for every list of leaves and every place. No condition. -/
import Derived.Test.YtcegobkangpilaaDoorBoilFnExactWay
namespace Go.Proofs.YtcegobkangpilaaDoor.Pure
open Go.RowKit Go.Proofs.YtcegobkangpilaaDoor.PFnExactWay Go.Proofs.YtcegobkangpilaaDoorW.PrintWords Go.Proofs.YtcegobkangpilaaDoorW.PrintLast Go.Proofs.YtcegobkangpilaaDoorW.PrintMore
set_option maxRecDepth 100000
set_option linter.unusedVariables false
set_option linter.unusedSimpArgs false
theorem bound_i64 {x : Int} (h : okInt .i64 x) : -9223372036854775808 ≤ x ∧ x ≤ 9223372036854775807 := by
  have h : (Lit.int .i64 x).wf = true := h
  simp [Lit.wf, IntKind.min, IntKind.max, IntKind.bits, IntKind.signed] at h
  omega
def bs (l : List UInt8) : ByteArray := ⟨l.toArray⟩
theorem bs_data (l : List UInt8) : (bs l).data.toList = l := by simp [bs]
theorem bs_of (s : ByteArray) : bs s.data.toList = s := by cases s; simp [bs]
theorem bs_app (a b : List UInt8) : bs a ++ bs b = bs (a ++ b) := by
  apply bytes_inj
  simp [bs, ByteArray.toList_eq, ByteArray.data_append]
theorem bs_size (l : List UInt8) : (bs l).size = l.length := by simp [bs, ByteArray.size]
theorem size_data (s : ByteArray) : s.data.toList.length = s.size := by simp only [ByteArray.size, Array.length_toList]
theorem tm_nat (m : Nat) : Int.tmod (m : Int) 10 = ((m % 10 : Nat) : Int) := rfl
theorem td_nat (m : Nat) : Int.tdiv (m : Int) 10 = ((m / 10 : Nat) : Int) := rfl
theorem dig_bytes (m : Nat) (v : Int) (s : ByteArray) (h : v = 48 + ((m % 10 : Nat) : Int)) : strOfNums [v % 256] ++ s = bs (UInt8.ofNat (48 + m % 10) :: s.data.toList) := by
  have e : (v % 256).toNat = 48 + m % 10 := by omega
  have e2 : strOfNums [v % 256] = bs [UInt8.ofNat (48 + m % 10)] := by simp [strOfNums, bs, e]
  rw [e2]
  conv => lhs; rhs; rw [← bs_of s]
  rw [bs_app]; rfl
theorem j1_step (n : Int) (s : ByteArray) (neg : Bool) (r : ByteArray) (h0 : -9223372036854775808 ≤ n) (h1 : n ≤ 9223372036854775807) (hs : s.size ≤ 1000)
    (h : Ev (fun k => spec_l2Int.l0 k (Int.tdiv n 10) (bs (UInt8.ofNat (48 + n.natAbs % 10) :: s.data.toList)) neg) r) : Ev (fun k => spec_l2Int.j1 k n s neg true) r := by
  refine Ev.succ ?_
  simp only [spec_l2Int.j1, Option.bind_some]
  refine Ev.pos (by trivial) ?_
  have sz : ∀ v : Int, (strOfNums [v]).size = 1 := fun v => by simp [strOfNums, ByteArray.size]
  simp only [sz]
  obtain ⟨m, hm | hm⟩ := Int.eq_nat_or_neg n
  · subst hm
    rw [tm_nat, td_nat] at *
    rw [Int.natAbs_natCast] at h
    refine Ev.neg (by omega) (Ev.pos (by omega) ?_)
    rw [w64 (by omega) (by omega), w64 (by omega) (by omega), dig_bytes m _ s rfl]
    exact h
  · subst hm
    rw [Int.neg_tmod, Int.neg_tdiv, tm_nat, td_nat] at *
    rw [Int.natAbs_neg, Int.natAbs_natCast] at h
    by_cases hz : m % 10 = 0
    · refine Ev.neg (by omega) (Ev.pos (by omega) ?_)
      rw [w64 (x := -((m / 10 : Nat) : Int)) (by omega) (by omega), w64 (by omega) (by omega), dig_bytes m _ s (by omega)]
      exact h
    · refine Ev.pos (by omega) (Ev.pos (by omega) ?_)
      rw [w64 (x := -((m / 10 : Nat) : Int)) (by omega) (by omega), w64 (x := -(-((m % 10 : Nat) : Int))) (by omega) (by omega), w64 (by omega) (by omega), dig_bytes m _ s (by omega)]
      exact h
def fin (neg : Bool) (s : ByteArray) : ByteArray := if neg = true then (⟨#[45]⟩ : ByteArray) ++ s else s
theorem l0_end (s : ByteArray) (neg : Bool) (h : s.toList ≠ []) (hs : s.size ≤ 1002) : Ev (fun k => spec_l2Int.l0 k 0 s neg) (fin neg s) := by
  refine Ev.succ ?_
  simp only [spec_l2Int.l0]
  refine Ev.neg h (Ev.succ ?_)
  simp only [spec_l2Int.j1, fin]
  refine Ev.neg (by simp) ?_
  cases neg with
  | true => exact Ev.pos rfl (Ev.pos (by omega) (Ev.now _))
  | false => exact Ev.neg (by decide) (Ev.now _)
theorem int_l0 : ∀ (d : Nat) (n : Int) (s : ByteArray) (neg : Bool), n.natAbs < 10 ^ (d + 1) → -9223372036854775808 ≤ n → n ≤ 9223372036854775807 → (s.toList = [] ∨ n ≠ 0) → s.size + d ≤ 1000 → Ev (fun k => spec_l2Int.l0 k n s neg) (fin neg (bs (Lib.decDigits n.natAbs ++ s.data.toList))) := by
  intro d
  induction d with
  | zero =>
    intro n s neg hd h0 h1 hn hs
    have hd' : n.natAbs < 10 := by simpa using hd
    have go : Ev (fun k => spec_l2Int.j1 k n s neg true) (fin neg (bs (Lib.decDigits n.natAbs ++ s.data.toList))) := by
      refine j1_step n s neg _ h0 h1 (by omega) ?_
      have e : Int.tdiv n 10 = 0 := by
        obtain ⟨m, hm | hm⟩ := Int.eq_nat_or_neg n
        · subst hm; rw [td_nat]; rw [Int.natAbs_natCast] at hd'; omega
        · subst hm; rw [Int.neg_tdiv, td_nat]; rw [Int.natAbs_neg, Int.natAbs_natCast] at hd'; omega
      rw [e, Lib.decDigits, dif_pos hd', Nat.mod_eq_of_lt hd']
      exact l0_end _ neg (by simp [bs, ByteArray.toList_eq]) (by rw [bs_size]; simp only [List.length_cons, size_data]; omega)
    refine Ev.succ ?_
    simp only [spec_l2Int.l0]
    by_cases he : s.toList = []
    · exact Ev.pos he go
    · have hb : (n != 0) = true := by simpa using hn.resolve_left he
      rw [hb]
      exact Ev.neg he go
  | succ d ih =>
    intro n s neg hd h0 h1 hn hs
    have go : Ev (fun k => spec_l2Int.j1 k n s neg true) (fin neg (bs (Lib.decDigits n.natAbs ++ s.data.toList))) := by
      refine j1_step n s neg _ h0 h1 (by omega) ?_
      have e : (Int.tdiv n 10).natAbs = n.natAbs / 10 ∧ -9223372036854775808 ≤ Int.tdiv n 10 ∧ Int.tdiv n 10 ≤ 9223372036854775807 := by
        obtain ⟨m, hm | hm⟩ := Int.eq_nat_or_neg n
        · subst hm; rw [td_nat, Int.natAbs_natCast, Int.natAbs_natCast]; omega
        · subst hm; rw [Int.neg_tdiv, td_nat, Int.natAbs_neg, Int.natAbs_natCast, Int.natAbs_neg, Int.natAbs_natCast]; omega
      by_cases hlt : n.natAbs < 10
      · have e0 : Int.tdiv n 10 = 0 := by have := e.1; omega
        rw [e0, Lib.decDigits, dif_pos hlt, Nat.mod_eq_of_lt hlt]
        exact l0_end _ neg (by simp [bs, ByteArray.toList_eq]) (by rw [bs_size]; simp only [List.length_cons, size_data]; omega)
      · have := ih (Int.tdiv n 10) (bs (UInt8.ofNat (48 + n.natAbs % 10) :: s.data.toList)) neg (by rw [e.1]; rw [Nat.pow_succ] at hd; omega) e.2.1 e.2.2 (Or.inr (by have := e.1; omega)) (by rw [bs_size]; simp only [List.length_cons, size_data]; omega)
        rw [e.1, bs_data] at this
        rw [Lib.decDigits, dif_neg hlt, List.append_assoc]
        exact this
    refine Ev.succ ?_
    simp only [spec_l2Int.l0]
    by_cases he : s.toList = []
    · exact Ev.pos he go
    · have hb : (n != 0) = true := by simpa using hn.resolve_left he
      rw [hb]
      exact Ev.neg he go
theorem int_ev (n : Int) (h0 : -9223372036854775808 ≤ n) (h1 : n ≤ 9223372036854775807) : Ev (fun k => spec_l2Int.f k n) (bs (Lib.itoa n)) := by
  unfold spec_l2Int.f
  have := int_l0 20 n ⟨#[]⟩ (decide (n < 0)) (by omega) h0 h1 (Or.inl (by simp [ByteArray.toList_eq])) (by simp [ByteArray.size])
  refine cast (congrArg _ ?_) this
  unfold fin Lib.itoa
  by_cases h : n < 0
  · rw [if_pos (by simpa using h), if_pos h, show (⟨#[45]⟩ : ByteArray) = bs [45] from rfl, bs_app]
    simp
  · rw [if_neg (by simpa using h), if_neg h, show n.natAbs = n.toNat by omega]
    simp
theorem dec_some (n : Int) (h0 : -9223372036854775808 ≤ n) (h1 : n ≤ 9223372036854775807) : impl_decimal.f n = some (bs (Lib.itoa n)) := by
  unfold impl_decimal.f strconv_FormatInt.f
  rw [if_pos ⟨h0, h1, rfl⟩]
  rfl
theorem dig_len : ∀ (d m : Nat), m < 10 ^ (d + 1) → (Lib.decDigits m).length ≤ d + 1 := by
  intro d
  induction d with
  | zero => intro m h; rw [Lib.decDigits, dif_pos (by simpa using h)]; simp
  | succ d ih =>
    intro m h
    rw [Lib.decDigits]
    by_cases hm : m < 10
    · rw [dif_pos hm]; simp
    · rw [dif_neg hm, List.length_append]
      have := ih (m / 10) (by rw [Nat.pow_succ] at h; omega)
      simp; omega
theorem itoa_len (n : Int) (h0 : -9223372036854775808 ≤ n) (h1 : n ≤ 9223372036854775807) : (bs (Lib.itoa n)).size ≤ 22 := by
  rw [bs_size]
  unfold Lib.itoa
  split
  · have := dig_len 20 n.natAbs (by omega)
    simp; omega
  · have := dig_len 20 n.toNat (by omega)
    omega
def dstep (h : Int) (b : UInt8) : Int := Int.tmod (h * 1000003 + (b.toNat : Int) + 1) 2147483647
def dg (s : ByteArray) : Int := s.data.toList.foldl dstep 1
theorem dstep_in {h : Int} {b : UInt8} (h0 : 0 ≤ h) : 0 ≤ dstep h b ∧ dstep h b < 2147483647 := by
  unfold dstep
  have hb : (0 : Int) ≤ (b.toNat : Int) := by omega
  generalize (b.toNat : Int) = v at *
  rw [Int.tmod_eq_emod_of_nonneg (by omega)]
  omega
theorem dfold_in : ∀ (l : List UInt8) (h : Int), 0 ≤ h → h < 2147483647 → 0 ≤ l.foldl dstep h ∧ l.foldl dstep h < 2147483647
  | [], h, h0, h1 => ⟨h0, h1⟩
  | b :: l, h, h0, h1 => dfold_in l _ (dstep_in h0).1 (dstep_in h0).2
theorem dg_in (s : ByteArray) : 0 ≤ dg s ∧ dg s < 2147483647 := dfold_in _ 1 (by decide) (by decide)
theorem bt_data {s : ByteArray} {i : Nat} {b : UInt8} (h : s.data.toList[i]? = some b) : bt s (i : Int) = (b.toNat : Int) := by
  obtain ⟨hi, rfl⟩ := List.getElem?_eq_some_iff.1 h
  have hs : i < s.size := by rw [← size_data]; exact hi
  unfold bt
  rw [dif_pos (by simpa using hs)]
  simp [ByteArray.getElem_eq_getElem_data]
theorem dwrap {h v : Int} (h0 : 0 ≤ h) (h1 : h < 2147483647) (v0 : 0 ≤ v) (v1 : v ≤ 255) : wrap64 ((wrap64 ((wrap64 (h * 1000003)) + (wrap64 v))) + 1) = h * 1000003 + v + 1 := by
  rw [w64 (x := h * 1000003) (by omega) (by omega), w64 (x := v) (by omega) (by omega), w64 (x := h * 1000003 + v) (by omega) (by omega), w64 (by omega) (by omega)]
theorem sdig_l0 (s : ByteArray) (hs : s.size < 9223372036854775807) : ∀ (d i : Nat) (h : Int), i + d = s.size → 0 ≤ h → h < 2147483647 → Ev (fun k => spec_Digest.l0 k s h i) ((s.data.toList.drop i).foldl dstep h)
  | 0, i, h, hi, _, _ => by
    refine Ev.succ ?_
    simp only [spec_Digest.l0]
    refine Ev.neg (by omega) ?_
    rw [List.drop_of_length_le (by rw [size_data]; omega)]
    exact Ev.now _
  | d + 1, i, h, hi, h0, h1 => by
    obtain ⟨b, hb⟩ := get_some (l := s.data.toList) (i := i) (by rw [size_data]; omega)
    have hr := bt_range s i
    refine Ev.succ ?_
    simp only [spec_Digest.l0]
    refine Ev.pos (by omega) (Ev.pos (by omega) ?_)
    rw [dwrap h0 h1 hr.1 hr.2, bt_data hb, w64 (x := (i : Int) + 1) (by omega) (by omega), cast_succ]
    have := sdig_l0 s hs d (i + 1) (dstep h b) (by omega) (dstep_in h0).1 (dstep_in h0).2
    obtain ⟨hi', rfl⟩ := List.getElem?_eq_some_iff.1 hb
    rw [List.drop_eq_getElem_cons hi']
    exact this
theorem idig_l0 (s : ByteArray) (hs : s.size < 9223372036854775807) : ∀ (d i : Nat) (h : Int), i + d = s.size → 0 ≤ h → h < 2147483647 → Ev (fun k => impl_Digest.l0 k s h (s.size : Int) i) ((s.data.toList.drop i).foldl dstep h)
  | 0, i, h, hi, _, _ => by
    refine Ev.succ ?_
    simp only [impl_Digest.l0]
    refine Ev.neg (by omega) ?_
    rw [List.drop_of_length_le (by rw [size_data]; omega)]
    exact Ev.now _
  | d + 1, i, h, hi, h0, h1 => by
    obtain ⟨b, hb⟩ := get_some (l := s.data.toList) (i := i) (by rw [size_data]; omega)
    have hr := bt_range s i
    refine Ev.succ ?_
    simp only [impl_Digest.l0]
    refine Ev.pos (by omega) (Ev.pos (by omega) (Ev.pos (by omega) ?_))
    rw [dwrap h0 h1 hr.1 hr.2, bt_data hb, w64 (x := (i : Int) + 1) (by omega) (by omega), cast_succ]
    have := idig_l0 s hs d (i + 1) (dstep h b) (by omega) (dstep_in h0).1 (dstep_in h0).2
    obtain ⟨hi', rfl⟩ := List.getElem?_eq_some_iff.1 hb
    rw [List.drop_eq_getElem_cons hi']
    exact this
theorem sdig_ev (s : ByteArray) (hs : s.size < 9223372036854775807) : Ev (fun k => spec_Digest.f k s) (dg s) := sdig_l0 s hs s.size 0 1 (by omega) (by decide) (by decide)
theorem idig_ev (s : ByteArray) (hs : s.size < 9223372036854775807) : Ev (fun k => impl_Digest.f k s) (dg s) := idig_l0 s hs s.size 0 1 (by omega) (by decide) (by decide)
theorem l44 : (⟨#[44]⟩ : ByteArray).size = 1 := rfl
abbrev i64_ (x : Int) : Prop := -9223372036854775808 ≤ x ∧ x ≤ 9223372036854775807
def pr (a b : Int) : Int := dg ((bs (Lib.itoa a) ++ (⟨#[44]⟩ : ByteArray)) ++ bs (Lib.itoa b))
theorem pr_in (a b : Int) : 0 ≤ pr a b ∧ pr a b < 2147483647 := dg_in _
theorem pr_64 (a b : Int) : i64_ (pr a b) := by have := pr_in a b; exact ⟨by omega, by omega⟩
theorem spair (a b : Int) (ha : i64_ a) (hb : i64_ b) : Ev (fun k => spec_Pair.f k a b) (pr a b) := by
  unfold spec_Pair.f pr
  have z1 := itoa_len a ha.1 ha.2
  have z2 := itoa_len b hb.1 hb.2
  exact Ev.bind (int_ev a ha.1 ha.2) (Ev.pos (by omega) (Ev.bind (int_ev b hb.1 hb.2) (Ev.pos (by simp only [ByteArray.size_append, l44]; omega) (Ev.bind (sdig_ev _ (by simp only [ByteArray.size_append, l44]; omega)) (Ev.now _)))))
theorem ipair (a b : Int) (ha : i64_ a) (hb : i64_ b) : Ev (fun k => impl_Pair.f k a b) (pr a b) := by
  unfold impl_Pair.f pr
  have z1 := itoa_len a ha.1 ha.2
  have z2 := itoa_len b hb.1 hb.2
  exact Ev.bind (Ev.const (dec_some a ha.1 ha.2)) (Ev.pos (by omega) (Ev.bind (Ev.const (dec_some b hb.1 hb.2)) (Ev.pos (by simp only [ByteArray.size_append, l44]; omega) (Ev.bind (idig_ev _ (by simp only [ByteArray.size_append, l44]; omega)) (Ev.now _)))))
theorem within_eq (a b c : Int) : impl_within.f a b c = some (decide (b ≤ a ∧ a ≤ c)) := by
  unfold impl_within.f
  by_cases h : a ≥ b
  · rw [if_pos h]; congr 1; simp; omega
  · rw [if_neg h]; congr 1; simp; omega
theorem in_eq (a b c : Int) : spec_l1In.f a b c = some (decide (b ≤ a ∧ a ≤ c)) := within_eq a b c
def leafN (a v : Int) : Int := if v < 0 then 0 else pr a v
theorem leafN_64 (a v : Int) : i64_ (leafN a v) := by
  unfold leafN
  split
  · exact ⟨by decide, by decide⟩
  · exact pr_64 a v
theorem snum (a v : Int) (ha : i64_ a) (hv : i64_ v) : Ev (fun k => spec_l12Number.f k a v) (leafN a v) := by
  unfold spec_l12Number.f leafN
  by_cases h : v < 0
  · rw [if_pos h]; exact Ev.pos h (Ev.now _)
  · rw [if_neg h]; exact Ev.neg h (Ev.bind (spair a v ha hv) (Ev.now _))
theorem inum (a v : Int) (ha : i64_ a) (hv : i64_ v) : Ev (fun k => impl_leafNumber.f k a v) (leafN a v) := by
  unfold impl_leafNumber.f leafN
  by_cases h : v < 0
  · rw [if_pos h]; exact Ev.pos h (Ev.now _)
  · rw [if_neg h]; exact Ev.neg h (Ev.bind (ipair a v ha hv) (Ev.now _))
/-! leaves -/
theorem rd_nat (x : List S113) (j : Nat) : rd_T113 x (j : Int) = x.getD j z113 := rfl
theorem g_get {x : List S113} {i : Nat} (hi : i < x.length) : x.getD i z113 = x[i] := by
  rw [List.getD_eq_getElem?_getD, List.getElem?_eq_getElem hi]; rfl
def LOk (l : List S113) : Prop := ∀ j, j < l.length → (0 ≤ (l.getD j z113).f0 ∧ (l.getD j z113).f0 ≤ 255) ∧ (0 ≤ (l.getD j z113).f1 ∧ (l.getD j z113).f1 ≤ 1000000000) ∧ (0 < j → (l.getD (j - 1) z113).f0 < (l.getD j z113).f0)
theorem leaves_l0 (l : List S113) (hl : l.length ≤ 4611686018427387904) : ∀ (d i : Nat), i + d = l.length → ∃ r, Ev (fun k => spec_LeavesOk.l0 k l i) r ∧ Ev (fun k => impl_LeavesOk.l0 k l l (l.length : Int) i) r ∧
    (r = true ↔ ∀ j, i ≤ j → j < l.length → (0 ≤ (l.getD j z113).f0 ∧ (l.getD j z113).f0 ≤ 255) ∧ (0 ≤ (l.getD j z113).f1 ∧ (l.getD j z113).f1 ≤ 1000000000) ∧ (0 < j → (l.getD (j - 1) z113).f0 < (l.getD j z113).f0))
  | 0, i, hi => by
    refine ⟨true, Ev.succ ?_, Ev.succ ?_, ⟨fun _ j a b => absurd b (by omega), fun _ => rfl⟩⟩
    · simp only [spec_LeavesOk.l0]
      exact Ev.neg (by omega) (Ev.now _)
    · simp only [impl_LeavesOk.l0]
      exact Ev.neg (by omega) (Ev.now _)
  | d + 1, i, hi => by
    obtain ⟨r, h1, h2, h3⟩ := leaves_l0 l hl d (i + 1) (by omega)
    have key : ∃ r, Ev (fun k => spec_LeavesOk.l0 (k + 1) l i) r ∧ Ev (fun k => impl_LeavesOk.l0 (k + 1) l l (l.length : Int) i) r ∧
        (r = true ↔ ∀ j, i ≤ j → j < l.length → (0 ≤ (l.getD j z113).f0 ∧ (l.getD j z113).f0 ≤ 255) ∧ (0 ≤ (l.getD j z113).f1 ∧ (l.getD j z113).f1 ≤ 1000000000) ∧ (0 < j → (l.getD (j - 1) z113).f0 < (l.getD j z113).f0)) := by
      simp only [spec_LeavesOk.l0, impl_LeavesOk.l0, rd_nat, in_eq, within_eq, spec_l12Value.f, impl_isPlace.f, Option.bind_some]
      rw [w64 (x := (i : Int) + 1) (by omega) (by omega), cast_succ]
      by_cases c1 : 0 ≤ (l.getD i z113).f0 ∧ (l.getD i z113).f0 ≤ 255
      · by_cases c2 : 0 ≤ (l.getD i z113).f1 ∧ (l.getD i z113).f1 ≤ 1000000000
        · rw [decide_eq_true c1, decide_eq_true c2]
          by_cases h0 : (i : Int) > 0
          · have w : wrap64 ((i : Int) - 1) = ((i - 1 : Nat) : Int) := by rw [w64 (by omega) (by omega)]; omega
            rw [w]
            simp only [rd_nat]
            by_cases c3 : (l.getD i z113).f0 ≤ (l.getD (i - 1) z113).f0
            · refine ⟨false, Ev.pos (by omega) (Ev.pos (by omega) (Ev.pos (by simp) (Ev.pos (by simp) (Ev.pos h0 (Ev.pos (by omega) (Ev.pos (by omega) (Ev.pos c3 (Ev.now _)))))))), Ev.pos (by omega) (Ev.pos (by omega) (Ev.pos (by omega) (Ev.pos (by simp) (Ev.pos (by simp) (Ev.pos h0 (Ev.pos (by omega) (Ev.pos (by omega) (Ev.pos c3 (Ev.now _))))))))), ⟨fun z => by simp at z, fun z => ?_⟩⟩
              have := (z i (by omega) (by omega)).2.2 (by omega)
              omega
            · refine ⟨r, Ev.pos (by omega) (Ev.pos (by omega) (Ev.pos (by simp) (Ev.pos (by simp) (Ev.pos h0 (Ev.pos (by omega) (Ev.pos (by omega) (Ev.neg c3 h1))))))), Ev.pos (by omega) (Ev.pos (by omega) (Ev.pos (by omega) (Ev.pos (by simp) (Ev.pos (by simp) (Ev.pos h0 (Ev.pos (by omega) (Ev.pos (by omega) (Ev.neg c3 h2)))))))), h3.trans ⟨fun z j j1 j2 => ?_, fun z j j1 j2 => z j (by omega) j2⟩⟩
              by_cases e : j = i
              · subst e; exact ⟨c1, c2, fun _ => by omega⟩
              · exact z j (by omega) j2
          · refine ⟨r, Ev.pos (by omega) (Ev.pos (by omega) (Ev.pos (by simp) (Ev.pos (by simp) (Ev.neg h0 h1)))), Ev.pos (by omega) (Ev.pos (by omega) (Ev.pos (by omega) (Ev.pos (by simp) (Ev.pos (by simp) (Ev.neg h0 h2))))), h3.trans ⟨fun z j j1 j2 => ?_, fun z j j1 j2 => z j (by omega) j2⟩⟩
            by_cases e : j = i
            · subst e; exact ⟨c1, c2, fun h => absurd h (by omega)⟩
            · exact z j (by omega) j2
        · rw [decide_eq_true c1, decide_eq_false c2]
          exact ⟨false, Ev.pos (by omega) (Ev.pos (by omega) (Ev.pos (by simp) (Ev.neg (by simp) (Ev.now _)))), Ev.pos (by omega) (Ev.pos (by omega) (Ev.pos (by omega) (Ev.pos (by simp) (Ev.neg (by simp) (Ev.now _))))), ⟨fun z => by simp at z, fun z => absurd (z i (by omega) (by omega)).2.1 c2⟩⟩
      · rw [decide_eq_false c1]
        exact ⟨false, Ev.pos (by omega) (Ev.pos (by omega) (Ev.neg (by simp) (Ev.now _))), Ev.pos (by omega) (Ev.pos (by omega) (Ev.pos (by omega) (Ev.neg (by simp) (Ev.now _)))), ⟨fun z => by simp at z, fun z => absurd (z i (by omega) (by omega)).1 c1⟩⟩
    obtain ⟨r, k1, k2, k3⟩ := key
    exact ⟨r, Ev.succ k1, Ev.succ k2, k3⟩
theorem leaves_iff (l : List S113) (hl : l.length ≤ 4611686018427387904) : ∃ r, Ev (fun k => spec_LeavesOk.f k l) r ∧ Ev (fun k => impl_LeavesOk.f k l) r ∧ (r = true ↔ LOk l) := by
  obtain ⟨r, h1, h2, h3⟩ := leaves_l0 l hl l.length 0 (by omega)
  exact ⟨r, h1, h2, h3.trans ⟨fun z j jl => z j (by omega) jl, fun z j _ jl => z j jl⟩⟩
/-! the numbers of all places, of all groups of two, and so on -/
def all64 (x : List Int) : Prop := ∀ j, j < x.length → i64_ (rd x (j : Int))
theorem rdn (x : List Int) (j : Nat) : rd x (j : Int) = x.getD j 0 := rfl
theorem rdn_lt {x : List Int} {j : Nat} (h : j < x.length) : x.getD j 0 = x[j] := by
  rw [List.getD_eq_getElem?_getD, List.getElem?_eq_getElem h]; rfl
theorem all64_iff {x : List Int} : all64 x ↔ ∀ y, y ∈ x → i64_ y := by
  constructor
  · intro h y hy
    obtain ⟨j, hj, e⟩ := List.getElem_of_mem hy
    have := h j hj
    rw [rdn, rdn_lt hj, e] at this
    exact this
  · intro h j hj
    rw [rdn, rdn_lt hj]
    exact h _ (List.getElem_mem _)
def putLeaf (y : List Int) (x : S113) : List Int := y.set x.f0.toNat (leafN x.f0 x.f1)
def rowF (l : List S113) : List Int := l.foldl putLeaf (List.replicate 256 0)
theorem put_fold_len : ∀ (l : List S113) (y : List Int), (l.foldl putLeaf y).length = y.length
  | [], y => rfl
  | x :: l, y => by rw [List.foldl_cons, put_fold_len l]; simp [putLeaf]
theorem put_fold_64 : ∀ (l : List S113) (y : List Int), (∀ v, v ∈ y → i64_ v) → ∀ v, v ∈ l.foldl putLeaf y → i64_ v
  | [], y, h => h
  | x :: l, y, h => put_fold_64 l _ (fun v hv => by
    rcases List.mem_or_eq_of_mem_set hv with h' | h'
    · exact h v h'
    · rw [h']; exact leafN_64 _ _)
theorem rowF_len (l : List S113) : (rowF l).length = 256 := by unfold rowF; rw [put_fold_len]; simp
theorem rowF_64 (l : List S113) : all64 (rowF l) := all64_iff.2 (put_fold_64 l _ (fun v hv => by
  rw [(List.mem_replicate.1 hv).2]; exact ⟨by decide, by decide⟩))
theorem leaf_drop {l : List S113} {i : Nat} (hi : i < l.length) (y : List Int) : (l.drop i).foldl putLeaf y = (l.drop (i + 1)).foldl putLeaf (putLeaf y (l.getD i z113)) := by
  rw [List.drop_eq_getElem_cons hi, List.foldl_cons, g_get hi]
theorem srow_l0 (l : List S113) (h : LOk l) (hl : l.length ≤ 1048576) : ∀ (d i : Nat) (y : List Int), i + d = l.length → y.length = 256 → Ev (fun k => spec_l12Row.l0 k l y i) ((l.drop i).foldl putLeaf y)
  | 0, i, y, hi, hy => by
    rw [List.drop_eq_nil_of_le (by omega)]
    refine Ev.succ ?_
    simp only [spec_l12Row.l0]
    exact Ev.neg (by omega) (Ev.now _)
  | d + 1, i, y, hi, hy => by
    obtain ⟨a, b, _⟩ := h i (by omega)
    rw [leaf_drop (by omega)]
    have e := snum (l.getD i z113).f0 (l.getD i z113).f1 ⟨by omega, by omega⟩ ⟨by omega, by omega⟩
    refine Ev.succ ?_
    simp only [spec_l12Row.l0, rd_nat]
    rw [w64 (x := (i : Int) + 1) (by omega) (by omega), cast_succ]
    exact Ev.pos (by omega) (Ev.pos (by omega) (Ev.bind e (Ev.pos (by omega) (Ev.pos (by omega) (srow_l0 l h hl d (i + 1) (putLeaf y (l.getD i z113)) (by omega) (by simpa [putLeaf] using hy))))))
theorem srow (l : List S113) (h : LOk l) (hl : l.length ≤ 1048576) : Ev (fun k => spec_l12Row.f k l) (rowF l) := by
  unfold spec_l12Row.f
  exact Ev.pos (by omega) (srow_l0 l h hl l.length 0 _ (by omega) (by simp))
theorem lev_l0 (l : List S113) (h : LOk l) (hl : l.length ≤ 1048576) (R : List (List Int)) : ∀ (d i : Nat) (y : List Int), i + d = l.length → y.length = 256 →
    Ev (fun k => impl_levels.l1 k ((l.drop i).foldl putLeaf y) [(l.drop i).foldl putLeaf y]) R → Ev (fun k => impl_levels.l0 k y l (l.length : Int) i) R
  | 0, i, y, hi, hy, he => by
    rw [List.drop_eq_nil_of_le (by omega)] at he
    refine Ev.succ ?_
    simp only [impl_levels.l0]
    exact Ev.neg (by omega) he
  | d + 1, i, y, hi, hy, he => by
    obtain ⟨a, b, _⟩ := h i (by omega)
    rw [leaf_drop (by omega)] at he
    have e := inum (l.getD i z113).f0 (l.getD i z113).f1 ⟨by omega, by omega⟩ ⟨by omega, by omega⟩
    refine Ev.succ ?_
    simp only [impl_levels.l0, rd_nat]
    rw [w64 (x := (i : Int) + 1) (by omega) (by omega), cast_succ]
    exact Ev.pos (by omega) (Ev.pos (by omega) (Ev.pos (by omega) (Ev.bind e (Ev.pos (by omega) (Ev.pos (by omega) (lev_l0 l h hl R d (i + 1) (putLeaf y (l.getD i z113)) (by omega) (by simpa [putLeaf] using hy) he))))))
def ups : List Int → List Int
  | a :: b :: r => pr a b :: ups r
  | _ => []
theorem ups_len : ∀ (n : Nat) (x : List Int), x.length = 2 * n → (ups x).length = n
  | 0, x, h => by
    obtain rfl : x = [] := List.length_eq_zero_iff.1 (by omega)
    rfl
  | n + 1, x, h => by
    match x, h with
    | a :: b :: r, h => simp only [ups, List.length_cons]; rw [ups_len n r (by simp at h; omega)]
    | [_], h => simp at h; omega
    | [], h => simp at h
theorem ups_64 : ∀ (n : Nat) (x : List Int), x.length ≤ n → ∀ v, v ∈ ups x → i64_ v
  | n, [], _, v, hv => by simp [ups] at hv
  | n, [_], _, v, hv => by simp [ups] at hv
  | 0, _ :: _ :: _, h, _, _ => by simp at h
  | n + 1, a :: b :: r, h, v, hv => by
    simp only [ups, List.mem_cons] at hv
    rcases hv with e | hv
    · rw [e]; exact pr_64 _ _
    · exact ups_64 n r (by simp at h; omega) v hv
theorem ups_drop {x : List Int} {i : Nat} (hi : i + 1 < x.length) : ups (x.drop i) = pr (rd x (i : Int)) (rd x ((i + 1 : Nat) : Int)) :: ups (x.drop (i + 2)) := by
  rw [List.drop_eq_getElem_cons (by omega), List.drop_eq_getElem_cons hi, rdn, rdn, rdn_lt (by omega), rdn_lt hi]
  rfl
theorem sup_l0 (x : List Int) (h : all64 x) (hx : x.length ≤ 1000) : ∀ (d i : Nat) (acc : List Int), i + 2 * d = x.length → acc.length + d ≤ 1000 → Ev (fun k => spec_l12Up.l0 k x acc i) (acc ++ ups (x.drop i))
  | 0, i, acc, hi, ha => by
    rw [List.drop_eq_nil_of_le (by omega)]
    simp only [ups, List.append_nil]
    refine Ev.succ ?_
    simp only [spec_l12Up.l0]
    exact Ev.neg (by omega) (Ev.now _)
  | d + 1, i, acc, hi, ha => by
    rw [ups_drop (by omega)]
    have e := spair (rd x (i : Int)) (rd x ((i + 1 : Nat) : Int)) (h i (by omega)) (h (i + 1) (by omega))
    have ih := sup_l0 x h hx d (i + 2) (acc ++ [pr (rd x (i : Int)) (rd x ((i + 1 : Nat) : Int))]) (by omega) (by simp; omega)
    rw [List.append_assoc] at ih
    refine Ev.succ ?_
    simp only [spec_l12Up.l0]
    rw [w64 (x := (i : Int) + 1) (by omega) (by omega), w64 (x := (i : Int) + 2) (by omega) (by omega), cast_succ, show (i : Int) + 2 = ((i + 2 : Nat) : Int) by omega]
    exact Ev.pos (by omega) (Ev.pos (by omega) (Ev.pos (by omega) (Ev.pos (by omega) (Ev.bind e (Ev.pos (by omega) ih)))))
theorem sup (x : List Int) (h : all64 x) (n : Nat) (hx : x.length = 2 * n) (hn : n ≤ 500) : Ev (fun k => spec_l12Up.f k x) (ups x) := by
  unfold spec_l12Up.f
  exact sup_l0 x h (by omega) n 0 [] (by omega) (by simp; omega)
theorem iup_l2 (x : List Int) (out R : List (List Int)) (h : all64 x) (hx : x.length ≤ 1000) (ho : out.length ≤ 1000) : ∀ (d i : Nat) (acc : List Int), i + 2 * d = x.length → acc.length + d ≤ 1000 →
    Ev (fun k => impl_levels.l1 k (acc ++ ups (x.drop i)) (out ++ [acc ++ ups (x.drop i)])) R → Ev (fun k => impl_levels.l2 k x out acc i) R
  | 0, i, acc, hi, ha, he => by
    rw [List.drop_eq_nil_of_le (by omega)] at he
    simp only [ups, List.append_nil] at he
    refine Ev.succ ?_
    simp only [impl_levels.l2]
    exact Ev.neg (by omega) (Ev.pos (by omega) he)
  | d + 1, i, acc, hi, ha, he => by
    rw [ups_drop (by omega)] at he
    have e := ipair (rd x (i : Int)) (rd x ((i + 1 : Nat) : Int)) (h i (by omega)) (h (i + 1) (by omega))
    have ih := iup_l2 x out R h hx ho d (i + 2) (acc ++ [pr (rd x (i : Int)) (rd x ((i + 1 : Nat) : Int))]) (by omega) (by simp; omega) (by rw [List.append_assoc]; exact he)
    refine Ev.succ ?_
    simp only [impl_levels.l2]
    rw [w64 (x := (i : Int) + 1) (by omega) (by omega), w64 (x := (i : Int) + 2) (by omega) (by omega), cast_succ, show (i : Int) + 2 = ((i + 2 : Nat) : Int) by omega]
    exact Ev.pos (by omega) (Ev.pos (by omega) (Ev.pos (by omega) (Ev.pos (by omega) (Ev.bind e (Ev.pos (by omega) ih)))))
def upn : Nat → List Int → List Int
  | 0, x => x
  | n + 1, x => upn n (ups x)
theorem upn_succ : ∀ (n : Nat) (x : List Int), upn (n + 1) x = ups (upn n x)
  | 0, x => rfl
  | n + 1, x => by rw [upn, upn_succ n (ups x)]; rfl
def lvt : Nat → List Int → List (List Int)
  | 0, _ => []
  | n + 1, x => ups x :: lvt n (ups x)
theorem lvt_get : ∀ (n j : Nat) (x : List Int), j < n → (lvt n x)[j]? = some (upn (j + 1) x)
  | 0, j, x, h => absurd h (by omega)
  | n + 1, 0, x, h => rfl
  | n + 1, j + 1, x, h => by rw [lvt, List.getElem?_cons_succ, lvt_get n j (ups x) (by omega)]; rfl
theorem lvt_len : ∀ (n : Nat) (x : List Int), (lvt n x).length = n
  | 0, x => rfl
  | n + 1, x => by simp [lvt, lvt_len n]
theorem lev_l1 : ∀ (n : Nat) (x : List Int) (out : List (List Int)), x.length = 2 ^ n → n ≤ 8 → all64 x → out.length + n ≤ 1000 → Ev (fun k => impl_levels.l1 k x out) (out ++ lvt n x)
  | 0, x, out, hx, hn, h, ho => by
    simp only [lvt, List.append_nil]
    refine Ev.succ ?_
    simp only [impl_levels.l1]
    exact Ev.neg (by rw [hx]; decide) (Ev.now _)
  | n + 1, x, out, hx, hn, h, ho => by
    have hp : 2 ^ (n + 1) = 2 * 2 ^ n := by rw [Nat.pow_succ]; omega
    have hb : 2 ^ n ≤ 2 ^ 7 := Nat.pow_le_pow_right (by omega) (by omega)
    have h1 : 1 ≤ 2 ^ n := Nat.one_le_two_pow
    have hl := ups_len (2 ^ n) x (by omega)
    have ih := lev_l1 n (ups x) (out ++ [ups x]) hl (by omega) (all64_iff.2 (ups_64 _ x (Nat.le_refl _))) (by simp; omega)
    rw [List.append_assoc] at ih
    refine Ev.succ ?_
    simp only [impl_levels.l1]
    exact Ev.pos (by omega) (iup_l2 x out _ h (by omega) (by omega) (2 ^ n) 0 [] (by omega) (by simp; omega) ih)
def levs (l : List S113) : List (List Int) := rowF l :: lvt 8 (rowF l)
theorem levs_get (l : List S113) (j : Nat) (h : j ≤ 8) : (levs l)[j]? = some (upn j (rowF l)) := by
  unfold levs
  cases j with
  | zero => rfl
  | succ j => rw [List.getElem?_cons_succ, lvt_get 8 j _ (by omega)]
theorem levs_len (l : List S113) : (levs l).length = 9 := by simp [levs, lvt_len]
theorem ilevels (l : List S113) (h : LOk l) (hl : l.length ≤ 1048576) : Ev (fun k => impl_levels.f k l) (levs l) := by
  unfold impl_levels.f
  exact Ev.pos (by omega) (lev_l0 l h hl _ l.length 0 _ (by omega) (by simp) (lev_l1 8 (rowF l) [rowF l] (rowF_len l) (by omega) (rowF_64 l) (by simp)))
theorem upn_len : ∀ (n m : Nat) (x : List Int), x.length = 2 ^ (n + m) → (upn n x).length = 2 ^ m
  | 0, m, x, h => by simpa [upn] using h
  | n + 1, m, x, h => upn_len n m (ups x) (ups_len _ x (by rw [h, show n + 1 + m = (n + m) + 1 by omega, Nat.pow_succ]; omega))
theorem upn_64 : ∀ (n : Nat) (x : List Int), all64 x → all64 (upn n x)
  | 0, x, h => h
  | n + 1, x, h => upn_64 n (ups x) (all64_iff.2 (ups_64 _ x (Nat.le_refl _)))
theorem row_len (l : List S113) (i d : Nat) (h : i + d = 8) : (upn i (rowF l)).length = 2 ^ d := upn_len i d (rowF l) (by rw [rowF_len, h])
theorem rdL {y : List (List Int)} {j : Nat} {x : List Int} (h : y[j]? = some x) : rd_L4 y (j : Int) = x := getD_lt h
theorem xor_all : ∀ a : Fin 256, Go.bits .xor .i64 ((a.val : Nat) : Int) 1 = ((a.val ^^^ 1 : Nat) : Int) := by decide +kernel
theorem xor_at (a : Nat) (h : a ≤ 255) : Go.bits .xor .i64 (a : Int) 1 = ((a ^^^ 1 : Nat) : Int) := xor_all ⟨a, by omega⟩
theorem shr_all : ∀ a : Fin 256, ∀ i : Fin 8, shr .i64 ((a.val : Nat) : Int) ((i.val : Nat) : Int) = ((a.val / 2 ^ i.val : Nat) : Int) := by decide +kernel
theorem shr_at (a i : Nat) (h : a ≤ 255) (hi : i < 8) : shr .i64 (a : Int) (i : Int) = ((a / 2 ^ i : Nat) : Int) := shr_all ⟨a, by omega⟩ ⟨i, hi⟩
theorem half (a i : Nat) : Int.tdiv ((a / 2 ^ i : Nat) : Int) 2 = ((a / 2 ^ (i + 1) : Nat) : Int) := by
  rw [Nat.pow_succ, ← Nat.div_div_eq_div_mul]; rfl
theorem div_le (a i : Nat) (h : a ≤ 255) : a / 2 ^ i ≤ 255 := Nat.le_trans (Nat.div_le_self _ _) h
theorem small {n : Nat} (h : n ≤ 255) : wrap64 (n : Int) = n := w64 (by omega) (by omega)
theorem beside_lt (a i d : Nat) (h : a ≤ 255) (hd : i + (d + 1) = 8) : (a / 2 ^ i) ^^^ 1 < 2 ^ (d + 1) := by
  have h1 : a / 2 ^ i < 2 ^ (d + 1) := Nat.div_lt_of_lt_mul (by rw [← Nat.pow_add, hd]; omega)
  exact Nat.xor_lt_two_pow h1 (by have : 1 ≤ 2 ^ d := Nat.one_le_two_pow; rw [Nat.pow_succ]; omega)
/-- The numbers beside a place on its way up, from step i on. -/
def wayF (R : List Int) (a : Nat) : Nat → Nat → List Int
  | 0, _ => []
  | d + 1, i => rd (upn i R) (((a / 2 ^ i) ^^^ 1 : Nat) : Int) :: wayF R a d (i + 1)
theorem wayF_len (R : List Int) (a : Nat) : ∀ d i, (wayF R a d i).length = d
  | 0, i => rfl
  | d + 1, i => by simp [wayF, wayF_len R a d]
theorem way_l0 (l : List S113) (a : Nat) (ha : a ≤ 255) : ∀ (d i : Nat) (acc : List Int), i + d = 8 → acc.length ≤ i →
    Ev (fun k => spec_Way.l0 k ((a / 2 ^ i : Nat) : Int) acc (upn i (rowF l))) (acc ++ wayF (rowF l) a d i) ∧ Ev (fun k => impl_Way.l0 k (a : Int) acc ((levs l).take 8) 8 i) (acc ++ wayF (rowF l) a d i)
  | 0, i, acc, hi, hc => by
    have hn := row_len l i 0 hi
    simp only [wayF, List.append_nil]
    refine ⟨Ev.succ ?_, Ev.succ ?_⟩
    · simp only [spec_Way.l0]
      exact Ev.neg (by rw [hn]; decide) (Ev.now _)
    · simp only [impl_Way.l0]
      exact Ev.neg (by omega) (Ev.now _)
  | d + 1, i, acc, hi, hc => by
    have hn := row_len l i (d + 1) hi
    have hp : 2 ^ (d + 1) = 2 * 2 ^ d := by rw [Nat.pow_succ]; omega
    have h1 : 1 ≤ 2 ^ d := Nat.one_le_two_pow
    have hb : 2 ^ d ≤ 2 ^ 7 := Nat.pow_le_pow_right (by omega) (by omega)
    have hx := xor_at (a / 2 ^ i) (div_le a i ha)
    have hlt := beside_lt a i d ha hi
    have hy : ((levs l).take 8)[i]? = some (upn i (rowF l)) := by rw [List.getElem?_take, if_pos (by omega), levs_get l i (by omega)]
    have hl8 : ((levs l).take 8).length = 8 := by rw [List.length_take, levs_len]; omega
    obtain ⟨j1, j2⟩ := way_l0 l a ha d (i + 1) (acc ++ [rd (upn i (rowF l)) (((a / 2 ^ i) ^^^ 1 : Nat) : Int)]) (by omega) (by simp; omega)
    rw [List.append_assoc] at j1 j2
    refine ⟨Ev.succ ?_, Ev.succ ?_⟩
    · simp only [spec_Way.l0, hx]
      rw [half, small (div_le a (i + 1) ha)]
      rw [upn_succ] at j1
      exact Ev.pos (by omega) (Ev.pos (by omega) (Ev.pos (by omega) (Ev.pos (by omega) (Ev.bind (sup (upn i (rowF l)) (upn_64 i _ (rowF_64 l)) (2 ^ d) (by omega) (by omega)) j1))))
    · simp only [impl_Way.l0]
      rw [shr_at a i ha (by omega), hx, rdL hy, w64 (x := (i : Int) + 1) (by omega) (by omega), cast_succ]
      exact Ev.pos (by omega) (Ev.pos (by omega) (Ev.pos (by omega) (Ev.pos (by omega) (Ev.pos (by omega) (Ev.pos (by omega) j2)))))
theorem way_ev (l : List S113) (a : Int) (hl : l.length ≤ 1048576) : ∃ out, out.length ≤ 8 ∧ Ev (fun k => spec_Way.f k l a) out ∧ Ev (fun k => impl_Way.f k l a) out ∧ (LOk l → 0 ≤ a → a ≤ 255 → out = wayF (rowF l) a.toNat 8 0) := by
  obtain ⟨r, e1, e2, e3⟩ := leaves_iff l (by omega)
  unfold spec_Way.f impl_Way.f impl_isPlace.f
  simp only [in_eq, within_eq, Option.bind_some]
  have no1 : Ev (fun k => spec_Way.j0 k l a [] true) [] := Ev.succ (by simp only [spec_Way.j0]; exact Ev.pos (by simp) (Ev.now _))
  have no2 : Ev (fun k => impl_Way.j0 k l a true) [] := Ev.succ (by simp only [impl_Way.j0]; exact Ev.pos (by simp) (Ev.now _))
  cases r with
  | false => exact ⟨[], by simp, Ev.bind e1 (Ev.neg (by simp) no1), Ev.bind e2 (Ev.neg (by simp) no2), fun h => absurd (e3.2 h) (by simp)⟩
  | true =>
    have h := e3.1 rfl
    by_cases c : 0 ≤ a ∧ a ≤ 255
    · rw [decide_eq_true c]
      obtain ⟨n, rfl⟩ := Int.eq_ofNat_of_zero_le c.1
      obtain ⟨j1, j2⟩ := way_l0 l n (by omega) 8 0 [] rfl (by simp)
      refine ⟨wayF (rowF l) n 8 0, by rw [wayF_len]; exact Nat.le_refl _, Ev.bind e1 (Ev.pos rfl (Ev.succ ?_)), Ev.bind e2 (Ev.pos rfl (Ev.succ ?_)), fun _ _ _ => rfl⟩
      · simp only [spec_Way.j0]
        exact Ev.neg (by simp) (Ev.bind (srow l h hl) (by simpa [upn] using j1))
      · have hl8 : ((levs l).take 8).length = 8 := by rw [List.length_take, levs_len]; omega
        simp only [impl_Way.j0]
        refine Ev.neg (by simp) (Ev.bind (ilevels l h hl) (Ev.pos (by rw [levs_len]; decide) ?_))
        simp only [Option.bind_some]
        rw [hl8]
        exact j2
    · rw [decide_eq_false c]
      exact ⟨[], by simp, Ev.bind e1 (Ev.pos rfl no1), Ev.bind e2 (Ev.pos rfl no2), fun _ x y => absurd ⟨x, y⟩ c⟩
theorem ct_one : ∀ y : List Int, (ctList ctOne) y = y.length
  | [] => by simp [ctList]
  | x :: y => by
    have := ct_one y
    simp only [ctList, ctOne, List.map_cons, List.sum_cons, List.length_cons] at this ⊢
    omega
theorem ct_le : ∀ y : List S113, (ctList ctS113) y ≤ 2 * y.length
  | [] => by simp [ctList]
  | x :: y => by
    have := ct_le y
    simp only [ctList, ctS113, ctOne, List.map_cons, List.sum_cons, List.length_cons] at this ⊢
    omega
theorem FnExactWay : laws_FnExactWay.Pure := by
  intro l a hok _
  refine Ev.rounds (g := fun k => laws_FnExactWay.f k l a) ?_
  unfold laws_FnExactWay.f
  obtain ⟨u, hu, _, hu1, hp⟩ := laws_szLeafS_ev l 1048576 (by omega) (by omega) hok
  refine Ev.bind hu (Ev.ite (fun _ => Ev.now _) (fun h => ?_))
  have hsm := hp (by omega)
  have hl1 := hsm.1
  have ht := laws_toLeafS_ev l hsm
  have hm : (l.map cv115).length ≤ 1048576 := by simpa using hl1
  generalize l.map cv115 = x at ht hm
  obtain ⟨out, ho, h1, h2, _⟩ := way_ev x a hm
  have hc := ct_le x
  have hd := ct_one out
  obtain ⟨r1, z1, q1, m1, _, _⟩ := laws_markLeafS_ev x 1 (by omega) (by omega) ⟨by omega, fun _ _ => ⟨trivial, trivial⟩⟩
  obtain ⟨r2, z2, q2, m2, g2, _⟩ := laws_markInt64S_ev out 1 (by omega) (by omega) ⟨by omega, fun _ _ => trivial⟩
  have p1 : ¬ r1 < 0 := by omega
  have p2 : ¬ r2 < 0 := by omega
  have ex := laws_eqLeafS_ev x ⟨by omega, fun _ _ => ⟨trivial, trivial⟩⟩
  have eo := laws_eqInt64S_ev out ⟨by omega, fun _ _ => trivial⟩
  exact Ev.bind ht (Ev.bind h1 (Ev.bind ht (Ev.bind h2 (Ev.bind eo (Ev.pos rfl (Ev.bind ht (Ev.bind ex (Ev.pos rfl (Ev.bind m1 (Ev.neg p1 (Ev.bind eo (Ev.pos rfl (Ev.bind m2 (Ev.bind g2 (Ev.neg p2 (Ev.pos rfl (Ev.bind ht (Ev.bind h2 (Ev.bind eo (Ev.pos rfl (Ev.bind g2 (Ev.neg p2 (Ev.pos rfl (Ev.now _))))))))))))))))))))))))

end Go.Proofs.YtcegobkangpilaaDoor.Pure
