/- The program's Parted returns what the reference's returns, for all arguments. No condition. -/
import Derived.Test.YtcegobkangpilaaDoorBoilFnExactParted
namespace Go.Proofs.YtcegobkangpilaaDoor.Pure
open Go.RowKit Go.Proofs.YtcegobkangpilaaDoor.PFnExactParted Go.Proofs.YtcegobkangpilaaDoorW.PrintWords Go.Proofs.YtcegobkangpilaaDoorW.PrintLast Go.Proofs.YtcegobkangpilaaDoorW.PrintMore
set_option maxRecDepth 100000
set_option linter.unusedVariables false
set_option linter.unusedSimpArgs false
theorem bound_i64 {x : Int} (h : okInt .i64 x) : -9223372036854775808 ≤ x ∧ x ≤ 9223372036854775807 := by
  have h : (Lit.int .i64 x).wf = true := h
  simp [Lit.wf, IntKind.min, IntKind.max, IntKind.bits, IntKind.signed] at h
  omega
def bs (l : List UInt8) : ByteArray := ⟨l.toArray⟩
theorem bs_data (l : List UInt8) : (bs l).data.toList = l := by simp [bs]
theorem bs_of (s : ByteArray) : bs s.data.toList = s := by cases s; simp [bs]
theorem bs_app (a b : List UInt8) : bs a ++ bs b = bs (a ++ b) := by
  apply bytes_inj
  simp [bs, ByteArray.toList_eq, ByteArray.data_append]
theorem bs_size (l : List UInt8) : (bs l).size = l.length := by simp [bs, ByteArray.size]
theorem size_data (s : ByteArray) : s.data.toList.length = s.size := by simp only [ByteArray.size, Array.length_toList]
theorem tm_nat (m : Nat) : Int.tmod (m : Int) 10 = ((m % 10 : Nat) : Int) := rfl
theorem td_nat (m : Nat) : Int.tdiv (m : Int) 10 = ((m / 10 : Nat) : Int) := rfl
theorem dig_bytes (m : Nat) (v : Int) (s : ByteArray) (h : v = 48 + ((m % 10 : Nat) : Int)) : strOfNums [v % 256] ++ s = bs (UInt8.ofNat (48 + m % 10) :: s.data.toList) := by
  have e : (v % 256).toNat = 48 + m % 10 := by omega
  have e2 : strOfNums [v % 256] = bs [UInt8.ofNat (48 + m % 10)] := by simp [strOfNums, bs, e]
  rw [e2]
  conv => lhs; rhs; rw [← bs_of s]
  rw [bs_app]; rfl
theorem j1_step (n : Int) (s : ByteArray) (neg : Bool) (r : ByteArray) (h0 : -9223372036854775808 ≤ n) (h1 : n ≤ 9223372036854775807) (hs : s.size ≤ 1000)
    (h : Ev (fun k => spec_l2Int.l0 k (Int.tdiv n 10) (bs (UInt8.ofNat (48 + n.natAbs % 10) :: s.data.toList)) neg) r) : Ev (fun k => spec_l2Int.j1 k n s neg true) r := by
  refine Ev.succ ?_
  simp only [spec_l2Int.j1, Option.bind_some]
  refine Ev.pos (by trivial) ?_
  have sz : ∀ v : Int, (strOfNums [v]).size = 1 := fun v => by simp [strOfNums, ByteArray.size]
  simp only [sz]
  obtain ⟨m, hm | hm⟩ := Int.eq_nat_or_neg n
  · subst hm
    rw [tm_nat, td_nat] at *
    rw [Int.natAbs_natCast] at h
    refine Ev.neg (by omega) (Ev.pos (by omega) ?_)
    rw [w64 (by omega) (by omega), w64 (by omega) (by omega), dig_bytes m _ s rfl]
    exact h
  · subst hm
    rw [Int.neg_tmod, Int.neg_tdiv, tm_nat, td_nat] at *
    rw [Int.natAbs_neg, Int.natAbs_natCast] at h
    by_cases hz : m % 10 = 0
    · refine Ev.neg (by omega) (Ev.pos (by omega) ?_)
      rw [w64 (x := -((m / 10 : Nat) : Int)) (by omega) (by omega), w64 (by omega) (by omega), dig_bytes m _ s (by omega)]
      exact h
    · refine Ev.pos (by omega) (Ev.pos (by omega) ?_)
      rw [w64 (x := -((m / 10 : Nat) : Int)) (by omega) (by omega), w64 (x := -(-((m % 10 : Nat) : Int))) (by omega) (by omega), w64 (by omega) (by omega), dig_bytes m _ s (by omega)]
      exact h
def fin (neg : Bool) (s : ByteArray) : ByteArray := if neg = true then (⟨#[45]⟩ : ByteArray) ++ s else s
theorem l0_end (s : ByteArray) (neg : Bool) (h : s.toList ≠ []) (hs : s.size ≤ 1002) : Ev (fun k => spec_l2Int.l0 k 0 s neg) (fin neg s) := by
  refine Ev.succ ?_
  simp only [spec_l2Int.l0]
  refine Ev.neg h (Ev.succ ?_)
  simp only [spec_l2Int.j1, fin]
  refine Ev.neg (by simp) ?_
  cases neg with
  | true => exact Ev.pos rfl (Ev.pos (by omega) (Ev.now _))
  | false => exact Ev.neg (by decide) (Ev.now _)
theorem int_l0 : ∀ (d : Nat) (n : Int) (s : ByteArray) (neg : Bool), n.natAbs < 10 ^ (d + 1) → -9223372036854775808 ≤ n → n ≤ 9223372036854775807 → (s.toList = [] ∨ n ≠ 0) → s.size + d ≤ 1000 → Ev (fun k => spec_l2Int.l0 k n s neg) (fin neg (bs (Lib.decDigits n.natAbs ++ s.data.toList))) := by
  intro d
  induction d with
  | zero =>
    intro n s neg hd h0 h1 hn hs
    have hd' : n.natAbs < 10 := by simpa using hd
    have go : Ev (fun k => spec_l2Int.j1 k n s neg true) (fin neg (bs (Lib.decDigits n.natAbs ++ s.data.toList))) := by
      refine j1_step n s neg _ h0 h1 (by omega) ?_
      have e : Int.tdiv n 10 = 0 := by
        obtain ⟨m, hm | hm⟩ := Int.eq_nat_or_neg n
        · subst hm; rw [td_nat]; rw [Int.natAbs_natCast] at hd'; omega
        · subst hm; rw [Int.neg_tdiv, td_nat]; rw [Int.natAbs_neg, Int.natAbs_natCast] at hd'; omega
      rw [e, Lib.decDigits, dif_pos hd', Nat.mod_eq_of_lt hd']
      exact l0_end _ neg (by simp [bs, ByteArray.toList_eq]) (by rw [bs_size]; simp only [List.length_cons, size_data]; omega)
    refine Ev.succ ?_
    simp only [spec_l2Int.l0]
    by_cases he : s.toList = []
    · exact Ev.pos he go
    · have hb : (n != 0) = true := by simpa using hn.resolve_left he
      rw [hb]
      exact Ev.neg he go
  | succ d ih =>
    intro n s neg hd h0 h1 hn hs
    have go : Ev (fun k => spec_l2Int.j1 k n s neg true) (fin neg (bs (Lib.decDigits n.natAbs ++ s.data.toList))) := by
      refine j1_step n s neg _ h0 h1 (by omega) ?_
      have e : (Int.tdiv n 10).natAbs = n.natAbs / 10 ∧ -9223372036854775808 ≤ Int.tdiv n 10 ∧ Int.tdiv n 10 ≤ 9223372036854775807 := by
        obtain ⟨m, hm | hm⟩ := Int.eq_nat_or_neg n
        · subst hm; rw [td_nat, Int.natAbs_natCast, Int.natAbs_natCast]; omega
        · subst hm; rw [Int.neg_tdiv, td_nat, Int.natAbs_neg, Int.natAbs_natCast, Int.natAbs_neg, Int.natAbs_natCast]; omega
      by_cases hlt : n.natAbs < 10
      · have e0 : Int.tdiv n 10 = 0 := by have := e.1; omega
        rw [e0, Lib.decDigits, dif_pos hlt, Nat.mod_eq_of_lt hlt]
        exact l0_end _ neg (by simp [bs, ByteArray.toList_eq]) (by rw [bs_size]; simp only [List.length_cons, size_data]; omega)
      · have := ih (Int.tdiv n 10) (bs (UInt8.ofNat (48 + n.natAbs % 10) :: s.data.toList)) neg (by rw [e.1]; rw [Nat.pow_succ] at hd; omega) e.2.1 e.2.2 (Or.inr (by have := e.1; omega)) (by rw [bs_size]; simp only [List.length_cons, size_data]; omega)
        rw [e.1, bs_data] at this
        rw [Lib.decDigits, dif_neg hlt, List.append_assoc]
        exact this
    refine Ev.succ ?_
    simp only [spec_l2Int.l0]
    by_cases he : s.toList = []
    · exact Ev.pos he go
    · have hb : (n != 0) = true := by simpa using hn.resolve_left he
      rw [hb]
      exact Ev.neg he go
theorem int_ev (n : Int) (h0 : -9223372036854775808 ≤ n) (h1 : n ≤ 9223372036854775807) : Ev (fun k => spec_l2Int.f k n) (bs (Lib.itoa n)) := by
  unfold spec_l2Int.f
  have := int_l0 20 n ⟨#[]⟩ (decide (n < 0)) (by omega) h0 h1 (Or.inl (by simp [ByteArray.toList_eq])) (by simp [ByteArray.size])
  refine cast (congrArg _ ?_) this
  unfold fin Lib.itoa
  by_cases h : n < 0
  · rw [if_pos (by simpa using h), if_pos h, show (⟨#[45]⟩ : ByteArray) = bs [45] from rfl, bs_app]
    simp
  · rw [if_neg (by simpa using h), if_neg h, show n.natAbs = n.toNat by omega]
    simp
theorem dec_some (n : Int) (h0 : -9223372036854775808 ≤ n) (h1 : n ≤ 9223372036854775807) : impl_decimal.f n = some (bs (Lib.itoa n)) := by
  unfold impl_decimal.f strconv_FormatInt.f
  rw [if_pos ⟨h0, h1, rfl⟩]
  rfl
theorem dig_len : ∀ (d m : Nat), m < 10 ^ (d + 1) → (Lib.decDigits m).length ≤ d + 1 := by
  intro d
  induction d with
  | zero => intro m h; rw [Lib.decDigits, dif_pos (by simpa using h)]; simp
  | succ d ih =>
    intro m h
    rw [Lib.decDigits]
    by_cases hm : m < 10
    · rw [dif_pos hm]; simp
    · rw [dif_neg hm, List.length_append]
      have := ih (m / 10) (by rw [Nat.pow_succ] at h; omega)
      simp; omega
theorem itoa_len (n : Int) (h0 : -9223372036854775808 ≤ n) (h1 : n ≤ 9223372036854775807) : (bs (Lib.itoa n)).size ≤ 22 := by
  rw [bs_size]
  unfold Lib.itoa
  split
  · have := dig_len 20 n.natAbs (by omega)
    simp; omega
  · have := dig_len 20 n.toNat (by omega)
    omega
def dstep (h : Int) (b : UInt8) : Int := Int.tmod (h * 1000003 + (b.toNat : Int) + 1) 2147483647
def dg (s : ByteArray) : Int := s.data.toList.foldl dstep 1
theorem dstep_in {h : Int} {b : UInt8} (h0 : 0 ≤ h) : 0 ≤ dstep h b ∧ dstep h b < 2147483647 := by
  unfold dstep
  have hb : (0 : Int) ≤ (b.toNat : Int) := by omega
  generalize (b.toNat : Int) = v at *
  rw [Int.tmod_eq_emod_of_nonneg (by omega)]
  omega
theorem dfold_in : ∀ (l : List UInt8) (h : Int), 0 ≤ h → h < 2147483647 → 0 ≤ l.foldl dstep h ∧ l.foldl dstep h < 2147483647
  | [], h, h0, h1 => ⟨h0, h1⟩
  | b :: l, h, h0, h1 => dfold_in l _ (dstep_in h0).1 (dstep_in h0).2
theorem dg_in (s : ByteArray) : 0 ≤ dg s ∧ dg s < 2147483647 := dfold_in _ 1 (by decide) (by decide)
theorem bt_data {s : ByteArray} {i : Nat} {b : UInt8} (h : s.data.toList[i]? = some b) : bt s (i : Int) = (b.toNat : Int) := by
  obtain ⟨hi, rfl⟩ := List.getElem?_eq_some_iff.1 h
  have hs : i < s.size := by rw [← size_data]; exact hi
  unfold bt
  rw [dif_pos (by simpa using hs)]
  simp [ByteArray.getElem_eq_getElem_data]
theorem dwrap {h v : Int} (h0 : 0 ≤ h) (h1 : h < 2147483647) (v0 : 0 ≤ v) (v1 : v ≤ 255) : wrap64 ((wrap64 ((wrap64 (h * 1000003)) + (wrap64 v))) + 1) = h * 1000003 + v + 1 := by
  rw [w64 (x := h * 1000003) (by omega) (by omega), w64 (x := v) (by omega) (by omega), w64 (x := h * 1000003 + v) (by omega) (by omega), w64 (by omega) (by omega)]
theorem sdig_l0 (s : ByteArray) (hs : s.size < 9223372036854775807) : ∀ (d i : Nat) (h : Int), i + d = s.size → 0 ≤ h → h < 2147483647 → Ev (fun k => spec_Digest.l0 k s h i) ((s.data.toList.drop i).foldl dstep h)
  | 0, i, h, hi, _, _ => by
    refine Ev.succ ?_
    simp only [spec_Digest.l0]
    refine Ev.neg (by omega) ?_
    rw [List.drop_of_length_le (by rw [size_data]; omega)]
    exact Ev.now _
  | d + 1, i, h, hi, h0, h1 => by
    obtain ⟨b, hb⟩ := get_some (l := s.data.toList) (i := i) (by rw [size_data]; omega)
    have hr := bt_range s i
    refine Ev.succ ?_
    simp only [spec_Digest.l0]
    refine Ev.pos (by omega) (Ev.pos (by omega) ?_)
    rw [dwrap h0 h1 hr.1 hr.2, bt_data hb, w64 (x := (i : Int) + 1) (by omega) (by omega), cast_succ]
    have := sdig_l0 s hs d (i + 1) (dstep h b) (by omega) (dstep_in h0).1 (dstep_in h0).2
    obtain ⟨hi', rfl⟩ := List.getElem?_eq_some_iff.1 hb
    rw [List.drop_eq_getElem_cons hi']
    exact this
theorem idig_l0 (s : ByteArray) (hs : s.size < 9223372036854775807) : ∀ (d i : Nat) (h : Int), i + d = s.size → 0 ≤ h → h < 2147483647 → Ev (fun k => impl_Digest.l0 k s h (s.size : Int) i) ((s.data.toList.drop i).foldl dstep h)
  | 0, i, h, hi, _, _ => by
    refine Ev.succ ?_
    simp only [impl_Digest.l0]
    refine Ev.neg (by omega) ?_
    rw [List.drop_of_length_le (by rw [size_data]; omega)]
    exact Ev.now _
  | d + 1, i, h, hi, h0, h1 => by
    obtain ⟨b, hb⟩ := get_some (l := s.data.toList) (i := i) (by rw [size_data]; omega)
    have hr := bt_range s i
    refine Ev.succ ?_
    simp only [impl_Digest.l0]
    refine Ev.pos (by omega) (Ev.pos (by omega) (Ev.pos (by omega) ?_))
    rw [dwrap h0 h1 hr.1 hr.2, bt_data hb, w64 (x := (i : Int) + 1) (by omega) (by omega), cast_succ]
    have := idig_l0 s hs d (i + 1) (dstep h b) (by omega) (dstep_in h0).1 (dstep_in h0).2
    obtain ⟨hi', rfl⟩ := List.getElem?_eq_some_iff.1 hb
    rw [List.drop_eq_getElem_cons hi']
    exact this
theorem sdig_ev (s : ByteArray) (hs : s.size < 9223372036854775807) : Ev (fun k => spec_Digest.f k s) (dg s) := sdig_l0 s hs s.size 0 1 (by omega) (by decide) (by decide)
theorem idig_ev (s : ByteArray) (hs : s.size < 9223372036854775807) : Ev (fun k => impl_Digest.f k s) (dg s) := idig_l0 s hs s.size 0 1 (by omega) (by decide) (by decide)

theorem l44 : (⟨#[44]⟩ : ByteArray).size = 1 := rfl
abbrev i64_ (x : Int) : Prop := -9223372036854775808 ≤ x ∧ x ≤ 9223372036854775807
def pr (a b : Int) : Int := dg ((bs (Lib.itoa a) ++ (⟨#[44]⟩ : ByteArray)) ++ bs (Lib.itoa b))
theorem pr_in (a b : Int) : 0 ≤ pr a b ∧ pr a b < 2147483647 := dg_in _
theorem pr_64 (a b : Int) : i64_ (pr a b) := by have := pr_in a b; exact ⟨by omega, by omega⟩
theorem spair (a b : Int) (ha : i64_ a) (hb : i64_ b) : Ev (fun k => spec_Pair.f k a b) (pr a b) := by
  unfold spec_Pair.f pr
  have z1 := itoa_len a ha.1 ha.2
  have z2 := itoa_len b hb.1 hb.2
  exact Ev.bind (int_ev a ha.1 ha.2) (Ev.pos (by omega) (Ev.bind (int_ev b hb.1 hb.2) (Ev.pos (by simp only [ByteArray.size_append, l44]; omega) (Ev.bind (sdig_ev _ (by simp only [ByteArray.size_append, l44]; omega)) (Ev.now _)))))
theorem ipair (a b : Int) (ha : i64_ a) (hb : i64_ b) : Ev (fun k => impl_Pair.f k a b) (pr a b) := by
  unfold impl_Pair.f pr
  have z1 := itoa_len a ha.1 ha.2
  have z2 := itoa_len b hb.1 hb.2
  exact Ev.bind (Ev.const (dec_some a ha.1 ha.2)) (Ev.pos (by omega) (Ev.bind (Ev.const (dec_some b hb.1 hb.2)) (Ev.pos (by simp only [ByteArray.size_append, l44]; omega) (Ev.bind (idig_ev _ (by simp only [ByteArray.size_append, l44]; omega)) (Ev.now _)))))

theorem within_eq (a b c : Int) : impl_within.f a b c = some (decide (b ≤ a ∧ a ≤ c)) := by
  unfold impl_within.f
  by_cases h : a ≥ b
  · rw [if_pos h]; congr 1; simp; omega
  · rw [if_neg h]; congr 1; simp; omega
theorem in_eq (a b c : Int) : spec_l1In.f a b c = some (decide (b ≤ a ∧ a ≤ c)) := within_eq a b c

def told (at_ v : Int) (way : List Int) : Bool := if (0 ≤ at_ ∧ at_ ≤ 255) ∧ (-1 ≤ v ∧ v ≤ 1000000000) then ((way.length : Int) == 8) else false
theorem stold (at_ v : Int) (way : List Int) : spec_l12Told.f at_ v way = some (told at_ v way) := by
  unfold spec_l12Told.f spec_l12Value.f told
  simp only [in_eq, Option.bind_some]
  by_cases c1 : 0 ≤ at_ ∧ at_ ≤ 255
  · rw [if_pos (by simpa using c1)]
    by_cases c2 : v = -1
    · rw [if_pos c2, if_pos ⟨c1, by omega, by omega⟩]
    · rw [if_neg c2]
      by_cases c3 : 0 ≤ v ∧ v ≤ 1000000000
      · rw [if_pos (by simpa using c3), if_pos ⟨c1, by omega, by omega⟩]
      · rw [if_neg (by simpa using c3), if_neg (by omega)]
  · rw [if_neg (by simpa using c1), if_neg (fun h => c1 h.1)]
theorem itold (at_ v : Int) (way : List Int) : impl_climbs.f at_ v way = some (told at_ v way) := by
  unfold impl_climbs.f impl_isPlace.f told
  simp only [within_eq, Option.bind_some]
  by_cases c1 : 0 ≤ at_ ∧ at_ ≤ 255
  · rw [if_pos (by simpa using c1)]
    by_cases c3 : -1 ≤ v ∧ v ≤ 1000000000
    · rw [if_pos (by simpa using c3), if_pos ⟨c1, c3⟩]
    · rw [if_neg (by simpa using c3), if_neg (fun h => c3 h.2)]
  · rw [if_neg (by simpa using c1), if_neg (fun h => c1 h.1)]
theorem told_true {at_ v : Int} {way : List Int} (h : told at_ v way = true) : (0 ≤ at_ ∧ at_ ≤ 255) ∧ (-1 ≤ v ∧ v ≤ 1000000000) ∧ way.length = 8 := by
  unfold told at h
  split at h
  · rename_i c
    simp at h
    exact ⟨c.1, c.2, by omega⟩
  · cases h
def leafN (a v : Int) : Int := if v < 0 then 0 else pr a v
theorem leafN_64 (a v : Int) : i64_ (leafN a v) := by
  unfold leafN
  split
  · exact ⟨by decide, by decide⟩
  · exact pr_64 a v
theorem snum (a v : Int) (ha : i64_ a) (hv : i64_ v) : Ev (fun k => spec_l12Number.f k a v) (leafN a v) := by
  unfold spec_l12Number.f leafN
  by_cases h : v < 0
  · rw [if_pos h]; exact Ev.pos h (Ev.now _)
  · rw [if_neg h]; exact Ev.neg h (Ev.bind (spair a v ha hv) (Ev.now _))
theorem inum (a v : Int) (ha : i64_ a) (hv : i64_ v) : Ev (fun k => impl_leafNumber.f k a v) (leafN a v) := by
  unfold impl_leafNumber.f leafN
  by_cases h : v < 0
  · rw [if_pos h]; exact Ev.pos h (Ev.now _)
  · rw [if_neg h]; exact Ev.neg h (Ev.bind (ipair a v ha hv) (Ev.now _))
theorem bits_all : ∀ a : Fin 256, ∀ i : Fin 8, (decide (Go.bits .and .i64 (shr .i64 ((a.val : Nat) : Int) ((i.val : Nat) : Int)) 1 = 1)) = !(decide ((a.val / 2 ^ i.val) % 2 = 0)) := by decide +kernel
theorem bit_at (a i : Nat) (ha : a ≤ 255) (hi : i < 8) : (Go.bits .and .i64 (shr .i64 (a : Int) (i : Int)) 1 = 1) ↔ ¬ ((a / 2 ^ i) % 2 = 0) := by
  have h := bits_all ⟨a, by omega⟩ ⟨i, hi⟩
  simp only at h
  constructor
  · intro h1 h2
    rw [decide_eq_true h1, decide_eq_true h2] at h
    cases h
  · intro h2
    rw [decide_eq_false h2] at h
    exact of_decide_eq_true h
theorem half (a i : Nat) : Int.tdiv ((a / 2 ^ i : Nat) : Int) 2 = ((a / 2 ^ (i + 1) : Nat) : Int) := by
  rw [show Int.tdiv ((a / 2 ^ i : Nat) : Int) 2 = ((a / 2 ^ i / 2 : Nat) : Int) from rfl, Nat.div_div_eq_div_mul, Nat.pow_succ]
theorem odd (a i : Nat) : Int.tmod ((a / 2 ^ i : Nat) : Int) 2 = ((a / 2 ^ i % 2 : Nat) : Int) := rfl
def fst_ (a i : Nat) (n w : Int) : Int := if (a / 2 ^ i) % 2 = 0 then n else w
def snd_ (a i : Nat) (n w : Int) : Int := if (a / 2 ^ i) % 2 = 0 then w else n
theorem two_ev (a i : Nat) (n w : Int) : spec_l12Two.f ((a / 2 ^ i : Nat) : Int) n w = some (fst_ a i n w, snd_ a i n w) := by
  unfold spec_l12Two.f fst_ snd_
  rw [odd]
  by_cases h : (a / 2 ^ i) % 2 = 0
  · rw [if_pos (by omega), if_pos h, if_pos h]
  · rw [if_neg (by omega), if_neg h, if_neg h]
def climb (a : Nat) (way : List Int) : Nat → Nat → Int → Int
  | 0, _, n => n
  | d + 1, i, n => climb a way d (i + 1) (pr (fst_ a i n (rd way i)) (snd_ a i n (rd way i)))
theorem f64 (a i : Nat) (n w : Int) (hn : i64_ n) (hw : i64_ w) : i64_ (fst_ a i n w) ∧ i64_ (snd_ a i n w) := by
  unfold fst_ snd_
  split
  · exact ⟨hn, hw⟩
  · exact ⟨hw, hn⟩
theorem way_64 {way : List Int} (hw : okList (okInt .i64) way) {i : Nat} (hi : i < way.length) : i64_ (rd way i) := by
  obtain ⟨x, hx⟩ := get_some hi
  rw [rd_get hx]
  exact bound_i64 (all_get hw.2 hx)

theorem Ev.rpos {α : Type} {c : Prop} [Decidable c] {g : Nat → Option α} {x y : α} (h : c) (k : Ev g x) : Ev g (if c then x else y) := by rw [if_pos h]; exact k
theorem Ev.rneg {α : Type} {c : Prop} [Decidable c] {g : Nat → Option α} {x y : α} (h : ¬ c) (k : Ev g y) : Ev g (if c then x else y) := by rw [if_neg h]; exact k
def prs (a : Nat) (way : List Int) : Nat → Nat → Int → List (List Int)
  | 0, _, _ => []
  | d + 1, i, n => [fst_ a i n (rd way i), snd_ a i n (rd way i)] :: prs a way d (i + 1) (pr (fst_ a i n (rd way i)) (snd_ a i n (rd way i)))
theorem prs_len (a : Nat) (way : List Int) : ∀ (d i : Nat) (n : Int), (prs a way d i n).length = d
  | 0, _, _ => rfl
  | d + 1, i, n => by simp [prs, prs_len a way d]
theorem ipairs (a : Nat) (way : List Int) (ha : a ≤ 255) (h8 : way.length = 8) (hw : okList (okInt .i64) way) : ∀ (d i : Nat) (n : Int) (L : List (List Int)), i + d = 8 → L.length = i + 1 → i64_ n → Ev (fun k => impl_pairs.l0 k a L n way (way.length : Int) i) (L ++ prs a way d i n)
  | 0, i, n, L, hi, hL, hn => by
    obtain rfl : i = 8 := by omega
    refine Ev.succ ?_
    simp only [impl_pairs.l0, prs, List.append_nil]
    exact Ev.neg (by omega) (Ev.now _)
  | d + 1, i, n, L, hi, hL, hn => by
    have hv := f64 a i n _ hn (way_64 hw (i := i) (by omega))
    have e := ipairs a way ha h8 hw d (i + 1) (pr (fst_ a i n (rd way i)) (snd_ a i n (rd way i))) (L ++ [[fst_ a i n (rd way i), snd_ a i n (rd way i)]]) (by omega) (by simp; omega) (pr_64 _ _)
    rw [List.append_assoc, List.singleton_append] at e
    refine Ev.succ ?_
    simp only [impl_pairs.l0, prs, Option.bind_some, List.length_cons, List.length_nil]
    refine Ev.pos (by omega) (Ev.pos (by omega) (Ev.pos (by omega) ?_))
    have hi8 : i < 8 := by clear e hv; omega
    have hL9 : L.length < 5864062014805 := Nat.lt_of_le_of_lt (show L.length ≤ 8 by clear e hv; omega) (by decide)
    have e1 : wrap64 ((i : Int) + 1) = ((i + 1 : Nat) : Int) := by rw [w64 (by omega) (by omega), cast_succ]
    rw [e1]
    by_cases hb : (a / 2 ^ i) % 2 = 0
    · refine Ev.neg (fun h => (bit_at a i ha hi8).1 h hb) (Ev.pos hL9 (Ev.pos (by decide) (Ev.pos (by decide) ?_)))
      simp only [fst_, snd_, if_pos hb] at e hv ⊢
      exact Ev.bind (ipair _ _ hv.1 hv.2) e
    · refine Ev.pos ((bit_at a i ha hi8).2 hb) (Ev.pos hL9 (Ev.pos (by decide) (Ev.pos (by decide) ?_)))
      simp only [fst_, snd_, if_neg hb] at e hv ⊢
      exact Ev.bind (ipair _ _ hv.1 hv.2) e
def own (a v : Int) : List Int := if v < 0 then [0, -1] else [a, v]
theorem ipairs_ev (a : Nat) (v : Int) (way : List Int) (ha : a ≤ 255) (hv : i64_ v) (h8 : way.length = 8) (hw : okList (okInt .i64) way) : Ev (fun k => impl_pairs.f k a v way) (own a v :: prs a way 8 0 (leafN a v)) := by
  have ha' : i64_ (a : Int) := ⟨by omega, by omega⟩
  have go : ∀ x, Ev (fun k => impl_pairs.j0 k a v way x) (x :: prs a way 8 0 (leafN a v)) := by
    intro x
    have e := ipairs a way ha h8 hw 8 0 (leafN a v) [x] (by omega) rfl (leafN_64 _ _)
    refine Ev.succ ?_
    simp only [impl_pairs.j0]
    exact Ev.bind (inum _ _ ha' hv) e
  unfold impl_pairs.f own
  by_cases h : v < 0
  · rw [if_pos h]; exact Ev.pos h (go _)
  · rw [if_neg h]; exact Ev.neg h (go _)
def srch (a : Nat) (way wi : List Int) : Nat → Nat → Int → Int → Option (List Int)
  | 0, _, _, _ => none
  | d + 1, i, m, n => if pr (fst_ a i m (rd way i)) (snd_ a i m (rd way i)) = pr (fst_ a i n (rd wi i)) (snd_ a i n (rd wi i)) then some [fst_ a i m (rd way i), snd_ a i m (rd way i), fst_ a i n (rd wi i), snd_ a i n (rd wi i)] else srch a way wi d (i + 1) (pr (fst_ a i m (rd way i)) (snd_ a i m (rd way i))) (pr (fst_ a i n (rd wi i)) (snd_ a i n (rd wi i)))
def told_ : Option (List Int) → List Int × Bool
  | some f => (f, true)
  | none => ([], false)
theorem concat_ev (p q r s : Int) : Ev (fun k => slices_Concat_int64_int64.f k [[p, q], [r, s]]) [p, q, r, s] := by
  unfold slices_Concat_int64_int64.f
  have r0 : rd_L2 [[p, q], [r, s]] 0 = [p, q] := rfl
  have r1 : rd_L2 [[p, q], [r, s]] 1 = [r, s] := rfl
  have w2 : wrap64 (0 + (([p, q] : List Int).length : Int)) = 2 := by rw [w64 (by simp) (by simp)]; rfl
  have w4 : wrap64 (2 + (([r, s] : List Int).length : Int)) = 4 := by rw [w64 (by simp) (by simp)]; rfl
  have v1 : wrap64 (0 + 1) = 1 := w64 (by omega) (by omega)
  have v2 : wrap64 (1 + 1) = 2 := w64 (by omega) (by omega)
  refine Ev.succ ?_
  simp only [slices_Concat_int64_int64.l0, r0, w2, v1]
  refine Ev.pos (by first | decide | simp) (Ev.pos (by first | decide | simp) (Ev.pos (by first | decide | simp) (Ev.neg (by first | decide | simp) (Ev.succ ?_))))
  simp only [slices_Concat_int64_int64.l0, r1, w4, v2]
  refine Ev.pos (by first | decide | simp) (Ev.pos (by first | decide | simp) (Ev.pos (by first | decide | simp) (Ev.neg (by first | decide | simp) (Ev.succ ?_))))
  simp only [slices_Concat_int64_int64.l0]
  refine Ev.neg (by first | decide | simp) (Ev.bind (Ev.const (show slices_Grow_int64_int64.f [] 4 = some [] from rfl)) (Ev.succ ?_))
  simp only [slices_Concat_int64_int64.l1, r0, v1]
  refine Ev.pos (by first | decide | simp) (Ev.pos (by first | decide | simp) (Ev.pos (by first | decide | simp) (Ev.pos (by simp) (Ev.succ ?_))))
  simp only [slices_Concat_int64_int64.l1, r1, v2]
  refine Ev.pos (by first | decide | simp) (Ev.pos (by first | decide | simp) (Ev.pos (by first | decide | simp) (Ev.pos (by simp) (Ev.succ ?_))))
  simp only [slices_Concat_int64_int64.l1]
  exact Ev.neg (by first | decide | simp) (Ev.now _)
theorem num_ev (x : Int) (hx : x ≠ 0) (p q : Int) (hp : i64_ p) (hq : i64_ q) : Ev (fun k => impl_pairNumber.f k x [p, q]) (pr p q) := by
  unfold impl_pairNumber.f
  exact Ev.neg hx (Ev.pos (by simp) (Ev.pos (by simp) (Ev.bind (ipair p q hp hq) (Ev.now _))))
theorem num0_ev (a : Nat) (ha : a ≤ 255) (v : Int) (hv : i64_ v) : Ev (fun k => impl_pairNumber.f k 0 (own a v)) (leafN a v) := by
  have ha' : i64_ (a : Int) := ⟨by omega, by omega⟩
  unfold impl_pairNumber.f own
  by_cases h : v < 0
  · simp only [if_pos h]
    refine Ev.pos (by first | rfl | trivial) (Ev.pos (by simp) (Ev.pos (by simp) (Ev.bind (inum 0 (-1) ⟨by decide, by decide⟩ ⟨by decide, by decide⟩) ?_)))
    unfold leafN
    rw [if_pos (by decide), if_pos h]
    exact Ev.now _
  · simp only [if_neg h]
    exact Ev.pos (by first | rfl | trivial) (Ev.pos (by simp) (Ev.pos (by simp) (Ev.bind (inum a v ha' hv) (Ev.now _))))
theorem drop_at {α : Type} {l : List α} {i : Nat} {x : α} {r : List α} (h : l.drop i = x :: r) : l[i]? = some x ∧ l.drop (i + 1) = r := by
  constructor
  · have := congrArg (·[0]?) h
    simpa using this
  · have := congrArg (List.drop 1) h
    simpa [List.drop_drop] using this
theorem iloop (a : Nat) (way wi : List Int) (ha : a ≤ 255) (h8 : way.length = 8) (g8 : wi.length = 8) (hw : okList (okInt .i64) way) (gw : okList (okInt .i64) wi) (A B : List (List Int)) (hA : A.length = 9) (hB : B.length = 9) : ∀ (d i : Nat) (m n : Int), i + d = 8 → i64_ m → i64_ n → A.drop (i + 1) = prs a way d i m → B.drop (i + 1) = prs a wi d i n → Ev (fun k => impl_Parted.l0 k A B (A.length : Int) ((i + 1 : Nat) : Int)) (told_ (srch a way wi d i m n))
  | 0, i, m, n, hi, hm, hn, ea, eb => by
    refine Ev.succ ?_
    simp only [impl_Parted.l0, srch, told_]
    exact Ev.neg (by omega) (Ev.now _)
  | d + 1, i, m, n, hi, hm, hn, ea, eb => by
    obtain ⟨xa, ea'⟩ := drop_at ea
    obtain ⟨xb, eb'⟩ := drop_at eb
    have fa := f64 a i m _ hm (way_64 hw (i := i) (by omega))
    have fb := f64 a i n _ hn (way_64 gw (i := i) (by omega))
    have ra : rd_L2 A ((i + 1 : Nat) : Int) = _ := getD_lt xa
    have rb : rd_L2 B ((i + 1 : Nat) : Int) = _ := getD_lt xb
    have rec_ := iloop a way wi ha h8 g8 hw gw A B hA hB d (i + 1) _ _ (by omega) (pr_64 _ _) (pr_64 _ _) ea' eb'
    have n1 := num_ev ((i + 1 : Nat) : Int) (by omega) _ _ fa.1 fa.2
    have n2 := num_ev ((i + 1 : Nat) : Int) (by omega) _ _ fb.1 fb.2
    refine Ev.succ ?_
    simp only [impl_Parted.l0, ra, rb]
    refine Ev.pos (by omega) (Ev.pos (by omega) (Ev.pos (by omega) (Ev.bind n1 (Ev.pos (by omega) (Ev.bind n2 ?_)))))
    unfold srch
    by_cases h : pr (fst_ a i m (rd way i)) (snd_ a i m (rd way i)) = pr (fst_ a i n (rd wi i)) (snd_ a i n (rd wi i))
    · rw [if_pos h]
      exact Ev.pos h (Ev.bind (concat_ev _ _ _ _) (Ev.now _))
    · rw [if_neg h]
      refine Ev.neg h ?_
      have e1 : wrap64 (((i + 1 : Nat) : Int) + 1) = ((i + 1 + 1 : Nat) : Int) := by rw [w64 (by omega) (by omega), cast_succ]
      rw [e1]
      exact rec_
def fin_ (a : Nat) (way wi : List Int) (d i : Nat) (m n : Int) (found : List Int) : List Int × Bool := if climb a way d i m = climb a wi d i n then (if found.length = 0 then told_ (srch a way wi d i m n) else (found, true)) else ([], false)
theorem sloop (a : Nat) (way wi : List Int) (ha : a ≤ 255) (h8 : way.length = 8) (g8 : wi.length = 8) (hw : okList (okInt .i64) way) (gw : okList (okInt .i64) wi) : ∀ (d i : Nat) (m n : Int) (found : List Int), i + d = 8 → i64_ m → i64_ n → Ev (fun k => spec_Parted.l0 k ((a / 2 ^ i : Nat) : Int) way wi m n found i) (fin_ a way wi d i m n found)
  | 0, i, m, n, found, hi, hm, hn => by
    refine Ev.succ ?_
    simp only [spec_Parted.l0, fin_, climb, srch, told_]
    refine Ev.neg (by omega) ?_
    by_cases h : m = n
    · refine Ev.pos h (Ev.rpos h ?_)
      by_cases hf : found.length = 0
      · exact Ev.pos (by omega) (Ev.rpos hf (Ev.now _))
      · exact Ev.neg (by omega) (Ev.rneg hf (Ev.now _))
    · exact Ev.neg h (Ev.rneg h (Ev.now _))
  | d + 1, i, m, n, found, hi, hm, hn => by
    have fa := f64 a i m _ hm (way_64 hw (i := i) (by omega))
    have fb := f64 a i n _ hn (way_64 gw (i := i) (by omega))
    have rec_ := fun f => sloop a way wi ha h8 g8 hw gw d (i + 1) (pr (fst_ a i m (rd way i)) (snd_ a i m (rd way i))) (pr (fst_ a i n (rd wi i)) (snd_ a i n (rd wi i))) f (by omega) (pr_64 _ _) (pr_64 _ _)
    have hlt : a / 2 ^ (i + 1) ≤ a := Nat.div_le_self _ _
    have wn : wrap64 ((a / 2 ^ (i + 1) : Nat) : Int) = ((a / 2 ^ (i + 1) : Nat) : Int) := by
      clear rec_ fa fb
      generalize a / 2 ^ (i + 1) = b at hlt ⊢
      exact w64 (by omega) (by omega)
    have e1 : wrap64 ((i : Int) + 1) = ((i + 1 : Nat) : Int) := by rw [w64 (by omega) (by omega), cast_succ]
    have hi0 : (i : Int) < 8 := by clear rec_ fa fb wn e1; omega
    have hi1 : (0 : Int) ≤ (i : Int) := by clear rec_ fa fb wn e1; omega
    have hi2 : (i : Int) < (way.length : Int) := by clear rec_ fa fb wn e1; omega
    have hi3 : (i : Int) < (wi.length : Int) := by clear rec_ fa fb wn e1; omega
    refine Ev.succ ?_
    simp only [spec_Parted.l0, two_ev, Option.bind_some, half, wn, e1]
    refine Ev.pos hi0 (Ev.pos hi1 (Ev.pos hi2 (Ev.pos hi3 (Ev.bind (spair _ _ fa.1 fa.2) (Ev.bind (spair _ _ fb.1 fb.2) ?_)))))
    by_cases h : pr (fst_ a i m (rd way i)) (snd_ a i m (rd way i)) = pr (fst_ a i n (rd wi i)) (snd_ a i n (rd wi i))
    · refine Ev.pos h ?_
      by_cases hf : found.length = 0
      · refine Ev.pos (by clear rec_ wn e1; omega) ?_
        have e : fin_ a way wi (d + 1) i m n found = fin_ a way wi d (i + 1) (pr (fst_ a i m (rd way i)) (snd_ a i m (rd way i))) (pr (fst_ a i n (rd wi i)) (snd_ a i n (rd wi i))) [fst_ a i m (rd way i), snd_ a i m (rd way i), fst_ a i n (rd wi i), snd_ a i n (rd wi i)] := by
          unfold fin_
          simp only [climb, srch, if_pos h, if_pos hf, told_, List.length_cons, List.length_nil]
          simp
        rw [e]
        exact rec_ _
      · refine Ev.neg (by clear rec_ wn e1; omega) ?_
        have e : fin_ a way wi (d + 1) i m n found = fin_ a way wi d (i + 1) (pr (fst_ a i m (rd way i)) (snd_ a i m (rd way i))) (pr (fst_ a i n (rd wi i)) (snd_ a i n (rd wi i))) found := by
          unfold fin_
          simp only [climb, if_neg hf]
        rw [e]
        exact rec_ _
    · refine Ev.neg h ?_
      have e : fin_ a way wi (d + 1) i m n found = fin_ a way wi d (i + 1) (pr (fst_ a i m (rd way i)) (snd_ a i m (rd way i))) (pr (fst_ a i n (rd wi i)) (snd_ a i n (rd wi i))) found := by
        unfold fin_
        simp only [climb, srch, if_neg h]
      rw [e]
      exact rec_ _
theorem climb_prs (a : Nat) (way : List Int) (hw : okList (okInt .i64) way) (h8 : way.length = 8) : ∀ (d i : Nat) (n : Int), i + (d + 1) = 8 → i64_ n → ∃ p q, (prs a way (d + 1) i n)[d]? = some [p, q] ∧ i64_ p ∧ i64_ q ∧ pr p q = climb a way (d + 1) i n
  | 0, i, n, hi, hn => by
    have hv := f64 a i n _ hn (way_64 hw (i := i) (by omega))
    exact ⟨_, _, rfl, hv.1, hv.2, rfl⟩
  | d + 1, i, n, hi, hn => by
    obtain ⟨p, q, h⟩ := climb_prs a way hw h8 d (i + 1) (pr (fst_ a i n (rd way i)) (snd_ a i n (rd way i))) (by omega) (pr_64 _ _)
    refine ⟨p, q, ?_, h.2.1, h.2.2.1, h.2.2.2⟩
    show (_ :: prs a way (d + 1) (i + 1) _)[d + 1]? = _
    rw [List.getElem?_cons_succ]
    exact h.1
theorem parted_ev (at_ v o : Int) (way wi : List Int) (hv : i64_ v) (ho : i64_ o) (hw : okList (okInt .i64) way) (gw : okList (okInt .i64) wi) : ∃ r, Ev (fun k => spec_Parted.f k at_ v way o wi) r ∧ Ev (fun k => impl_Parted.f k at_ v way o wi) r ∧ r.1.length ≤ 4 := by
  have sbad : ∀ b, b = true → Ev (fun k => spec_Parted.j0 k at_ v way o wi b) ([], false) := by
    intro b hb
    refine Ev.succ ?_
    simp only [spec_Parted.j0]
    exact Ev.pos hb (Ev.now _)
  have ibad : ∀ b, b = true → Ev (fun k => impl_Parted.j0 k at_ v way o wi b) ([], false) := by
    intro b hb
    refine Ev.succ ?_
    simp only [impl_Parted.j0]
    exact Ev.pos hb (Ev.now _)
  unfold spec_Parted.f impl_Parted.f
  simp only [stold, itold, Option.bind_some]
  cases ht : told at_ v way with
  | false => exact ⟨_, Ev.neg (by decide) (sbad _ rfl), Ev.neg (by decide) (ibad _ rfl), by simp⟩
  | true =>
    cases gt : told at_ o wi with
    | false => exact ⟨_, Ev.pos rfl (Ev.neg (by decide) (sbad _ rfl)), Ev.pos rfl (Ev.neg (by decide) (ibad _ rfl)), by simp⟩
    | true =>
      by_cases hvo : v = o
      · exact ⟨_, Ev.pos rfl (Ev.pos rfl (sbad _ (by simpa using hvo))), Ev.pos rfl (Ev.pos rfl (ibad _ (by simpa using hvo))), by simp⟩
      · obtain ⟨c1, c2, h8⟩ := told_true ht
        obtain ⟨_, _, g8⟩ := told_true gt
        obtain ⟨a, rfl⟩ : ∃ a : Nat, at_ = a := ⟨at_.toNat, by omega⟩
        have ha : a ≤ 255 := by omega
        have ha' : i64_ (a : Int) := ⟨by omega, by omega⟩
        have nb : (v == o) = false := by simpa using hvo
        rw [nb]
        have l1 := ipairs_ev a v way ha hv h8 hw
        have l2 := ipairs_ev a o wi ha ho g8 gw
        have p1 := prs_len a way 8 0 (leafN a v)
        have p2 := prs_len a wi 8 0 (leafN a o)
        obtain ⟨p, q, x1, x2, x3, x4⟩ := climb_prs a way hw h8 7 0 (leafN a v) (by omega) (leafN_64 _ _)
        obtain ⟨r, s, y1, y2, y3, y4⟩ := climb_prs a wi gw g8 7 0 (leafN a o) (by omega) (leafN_64 _ _)
        have ra : rd_L2 (own a v :: prs a way 8 0 (leafN a v)) 8 = [p, q] := getD_lt (i := 8) (by rw [List.getElem?_cons_succ]; exact x1)
        have rb : rd_L2 (own a o :: prs a wi 8 0 (leafN a o)) 8 = [r, s] := getD_lt (i := 8) (by rw [List.getElem?_cons_succ]; exact y1)
        have nA := num_ev 8 (by decide) p q x2 x3
        have nB := num_ev 8 (by decide) r s y2 y3
        rw [x4] at nA
        rw [y4] at nB
        have r0a : rd_L2 (own a v :: prs a way 8 0 (leafN a v)) 0 = own a v := rfl
        have r0b : rd_L2 (own a o :: prs a wi 8 0 (leafN a o)) 0 = own a o := rfl
        have lp := iloop a way wi ha h8 g8 hw gw (own a v :: prs a way 8 0 (leafN a v)) (own a o :: prs a wi 8 0 (leafN a o)) (by simp [p1]) (by simp [p2]) 8 0 (leafN a v) (leafN a o) (by omega) (leafN_64 _ _) (leafN_64 _ _) rfl rfl
        have e1 : wrap64 ((0 : Int) + 1) = ((0 + 1 : Nat) : Int) := by rw [w64 (by omega) (by omega)]; rfl
        have hown : ∀ x, own a x = [if x < 0 then 0 else (a : Int), if x < 0 then -1 else x] := by
          intro x; unfold own; by_cases h : x < 0 <;> simp [h]
        have hleaf : ∀ x, spec_l12Leaf.f a x = some (if x < 0 then 0 else (a : Int), if x < 0 then -1 else x) := by
          intro x; unfold spec_l12Leaf.f; by_cases h : x < 0 <;> simp [h]
        have cc : Ev (fun k => slices_Concat_int64_int64.f k [own a v, own a o]) (own a v ++ own a o) := by
          rw [hown v, hown o]; exact concat_ev _ _ _ _
        let found0 : List Int := if leafN a v = leafN a o then own a v ++ own a o else []
        refine ⟨fin_ a way wi 8 0 (leafN a v) (leafN a o) found0, Ev.pos rfl (Ev.pos rfl (Ev.succ ?_)), Ev.pos rfl (Ev.pos rfl (Ev.succ ?_)), ?_⟩
        · have sl := fun f => sloop a way wi ha h8 g8 hw gw 8 0 (leafN a v) (leafN a o) f (by omega) (leafN_64 _ _) (leafN_64 _ _)
          simp only [Nat.pow_zero, Nat.div_one] at sl
          simp only [spec_Parted.j0, hleaf, Option.bind_some]
          refine Ev.neg (by decide) (Ev.bind (snum _ _ ha' hv) (Ev.bind (snum _ _ ha' ho) ?_))
          by_cases h0 : leafN a v = leafN a o
          · refine Ev.pos h0 (Ev.succ ?_)
            simp only [spec_Parted.j1]
            have := sl found0
            simp only [found0, if_pos h0, hown, List.cons_append, List.nil_append] at this ⊢
            exact this
          · refine Ev.neg h0 (Ev.succ ?_)
            simp only [spec_Parted.j1]
            have := sl found0
            simp only [found0, if_neg h0] at this ⊢
            exact this
        · simp only [impl_Parted.j0]
          refine Ev.neg (by decide) (Ev.bind l1 (Ev.bind l2 (Ev.pos (by simp [p1]) ?_)))
          rw [ra]
          refine Ev.bind nA (Ev.pos (by simp [p2]) ?_)
          rw [rb]
          refine Ev.bind nB ?_
          unfold fin_
          by_cases hc : climb a way 8 0 (leafN a v) = climb a wi 8 0 (leafN a o)
          · rw [if_pos hc]
            refine Ev.pos hc (Ev.succ ?_)
            simp only [impl_Parted.l0, r0a, r0b, e1]
            refine Ev.pos (by simp [p1]) (Ev.pos (by decide) (Ev.pos (by simp [p1]) (Ev.bind (num0_ev a ha v hv) (Ev.pos (by simp [p2]) (Ev.bind (num0_ev a ha o ho) ?_)))))
            by_cases h0 : leafN a v = leafN a o
            · simp only [found0, if_pos h0]
              rw [if_neg (by rw [hown, hown]; simp)]
              first | exact Ev.bind cc (Ev.now _) | exact Ev.pos h0 (Ev.bind cc (Ev.now _))
            · simp only [found0, if_neg h0, List.length_nil, if_true]
              first | exact lp | exact Ev.neg h0 lp
          · rw [if_neg hc]
            exact Ev.neg hc (Ev.now _)
        · have slen : ∀ (d i : Nat) (m n : Int), (told_ (srch a way wi d i m n)).1.length ≤ 4 := by
            intro d
            induction d with
            | zero => intro i m n; simp [srch, told_]
            | succ d ih =>
              intro i m n
              unfold srch
              by_cases h : pr (fst_ a i m (rd way i)) (snd_ a i m (rd way i)) = pr (fst_ a i n (rd wi i)) (snd_ a i n (rd wi i))
              · rw [if_pos h]; simp [told_]
              · rw [if_neg h]; exact ih _ _ _
          unfold fin_
          by_cases hc : climb a way 8 0 (leafN a v) = climb a wi 8 0 (leafN a o)
          · rw [if_pos hc]
            by_cases hf : found0.length = 0
            · rw [if_pos hf]; exact slen _ _ _ _
            · rw [if_neg hf]
              by_cases h0 : leafN a v = leafN a o
              · simp only [found0, if_pos h0, hown]; simp
              · simp only [found0, if_neg h0]; simp
          · rw [if_neg hc]; simp
theorem FnExactParted : laws_FnExactParted.Pure := by
  intro at_ v way o wi hat hv hw ho gw
  refine Ev.rounds (g := fun k => laws_FnExactParted.f k at_ v way o wi) ?_
  unfold laws_FnExactParted.f
  by_cases h : (way.length : Int) > 1048576
  · exact Ev.pos h (Ev.now _)
  · by_cases g : (wi.length : Int) > 1048576
    · exact Ev.neg h (Ev.pos g (Ev.now _))
    · have t1 := laws_toInt64S_ev way ⟨by omega, fun _ _ => trivial⟩
      have t2 := laws_toInt64S_ev wi ⟨by omega, fun _ _ => trivial⟩
      have q1 := laws_eqInt64S_ev way ⟨by omega, fun _ _ => trivial⟩
      have q2 := laws_eqInt64S_ev wi ⟨by omega, fun _ _ => trivial⟩
      obtain ⟨r, e1, e2, hr⟩ := parted_ev at_ v o way wi (bound_i64 hv) (bound_i64 ho) hw gw
      have q3 := laws_eqInt64S_ev r.1 ⟨by omega, fun _ _ => trivial⟩
      have cl : ∀ l : List Int, ctList ctOne l = l.length := by
        intro l; induction l with
        | nil => rfl
        | cons x l ih => simp [ctList, ctOne] at ih ⊢; omega
      obtain ⟨m1, z1, k1, k2, -, -⟩ := laws_markInt64S_ev way 1 (by omega) (by rw [cl]; omega) ⟨by omega, fun _ _ => trivial⟩
      rw [cl] at k1
      obtain ⟨m2, z2, j1, j2, -, -⟩ := laws_markInt64S_ev wi m1 (by omega) (by rw [cl]; omega) ⟨by omega, fun _ _ => trivial⟩
      rw [cl] at j1
      obtain ⟨m3, z3, i1, i2, i3, -⟩ := laws_markInt64S_ev r.1 1 (by omega) (by rw [cl]; omega) ⟨by omega, fun _ _ => trivial⟩
      rw [cl] at i1
      refine Ev.neg h (Ev.neg g (Ev.bind t1 (Ev.bind t2 (Ev.bind e1 (Ev.bind t1 (Ev.bind t2 (Ev.bind e2 (Ev.bind q3 (Ev.pos rfl (Ev.neg (by simp) (Ev.bind t1 (Ev.bind q1 (Ev.pos rfl (Ev.bind t2 (Ev.bind q2 (Ev.pos rfl (Ev.bind k2 (Ev.bind j2 (Ev.neg (by simp only []; omega) (Ev.bind q3 (Ev.pos rfl (Ev.bind i2 (Ev.bind i3 (Ev.neg (by omega) (Ev.pos rfl (Ev.bind t1 (Ev.bind t2 (Ev.bind e2 (Ev.bind q3 (Ev.pos rfl (Ev.neg (by simp) (Ev.bind i3 (Ev.neg (by omega) (Ev.pos rfl (Ev.now _)))))))))))))))))))))))))))))))))))

end Go.Proofs.YtcegobkangpilaaDoor.Pure
