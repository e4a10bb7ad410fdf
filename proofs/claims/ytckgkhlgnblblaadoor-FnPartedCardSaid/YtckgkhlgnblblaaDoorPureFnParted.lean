/- Where two values lead at one place to one number, two unlike pairs with one number are told, or a leaf whose number is that of none. No condition. -/
import Derived.Test.YtckgkhlgnblblaaDoorBoilFnParted
namespace Go.Proofs.YtckgkhlgnblblaaDoor.Pure
open Go.RowKit Go.Proofs.YtckgkhlgnblblaaDoor.PFnParted Go.Proofs.YtckgkhlgnblblaaDoorW.PrintWords Go.Proofs.YtckgkhlgnblblaaDoorW.PrintLast Go.Proofs.YtckgkhlgnblblaaDoorW.PrintMore
set_option maxRecDepth 100000
set_option linter.unusedVariables false
set_option linter.unusedSimpArgs false
theorem bound_i64 {x : Int} (h : okInt .i64 x) : -9223372036854775808 ≤ x ∧ x ≤ 9223372036854775807 := by
  have h : (Lit.int .i64 x).wf = true := h
  simp [Lit.wf, IntKind.min, IntKind.max, IntKind.bits, IntKind.signed] at h
  omega
def bs (l : List UInt8) : ByteArray := ⟨l.toArray⟩
theorem bs_data (l : List UInt8) : (bs l).data.toList = l := by simp [bs]
theorem bs_of (s : ByteArray) : bs s.data.toList = s := by cases s; simp [bs]
theorem bs_app (a b : List UInt8) : bs a ++ bs b = bs (a ++ b) := by
  apply bytes_inj
  simp [bs, ByteArray.toList_eq, ByteArray.data_append]
theorem bs_size (l : List UInt8) : (bs l).size = l.length := by simp [bs, ByteArray.size]
theorem size_data (s : ByteArray) : s.data.toList.length = s.size := by simp only [ByteArray.size, Array.length_toList]
theorem tm_nat (m : Nat) : Int.tmod (m : Int) 10 = ((m % 10 : Nat) : Int) := rfl
theorem td_nat (m : Nat) : Int.tdiv (m : Int) 10 = ((m / 10 : Nat) : Int) := rfl
theorem dig_bytes (m : Nat) (v : Int) (s : ByteArray) (h : v = 48 + ((m % 10 : Nat) : Int)) : strOfNums [v % 256] ++ s = bs (UInt8.ofNat (48 + m % 10) :: s.data.toList) := by
  have e : (v % 256).toNat = 48 + m % 10 := by omega
  have e2 : strOfNums [v % 256] = bs [UInt8.ofNat (48 + m % 10)] := by simp [strOfNums, bs, e]
  rw [e2]
  conv => lhs; rhs; rw [← bs_of s]
  rw [bs_app]; rfl
theorem j1_step (n : Int) (s : ByteArray) (neg : Bool) (r : ByteArray) (h0 : -9223372036854775808 ≤ n) (h1 : n ≤ 9223372036854775807) (hs : s.size ≤ 1000)
    (h : Ev (fun k => spec_l2Int.l0 k (Int.tdiv n 10) (bs (UInt8.ofNat (48 + n.natAbs % 10) :: s.data.toList)) neg) r) : Ev (fun k => spec_l2Int.j1 k n s neg true) r := by
  refine Ev.succ ?_
  simp only [spec_l2Int.j1, Option.bind_some]
  refine Ev.pos (by trivial) ?_
  have sz : ∀ v : Int, (strOfNums [v]).size = 1 := fun v => by simp [strOfNums, ByteArray.size]
  simp only [sz]
  obtain ⟨m, hm | hm⟩ := Int.eq_nat_or_neg n
  · subst hm
    rw [tm_nat, td_nat] at *
    rw [Int.natAbs_natCast] at h
    refine Ev.neg (by omega) (Ev.pos (by omega) ?_)
    rw [w64 (by omega) (by omega), w64 (by omega) (by omega), dig_bytes m _ s rfl]
    exact h
  · subst hm
    rw [Int.neg_tmod, Int.neg_tdiv, tm_nat, td_nat] at *
    rw [Int.natAbs_neg, Int.natAbs_natCast] at h
    by_cases hz : m % 10 = 0
    · refine Ev.neg (by omega) (Ev.pos (by omega) ?_)
      rw [w64 (x := -((m / 10 : Nat) : Int)) (by omega) (by omega), w64 (by omega) (by omega), dig_bytes m _ s (by omega)]
      exact h
    · refine Ev.pos (by omega) (Ev.pos (by omega) ?_)
      rw [w64 (x := -((m / 10 : Nat) : Int)) (by omega) (by omega), w64 (x := -(-((m % 10 : Nat) : Int))) (by omega) (by omega), w64 (by omega) (by omega), dig_bytes m _ s (by omega)]
      exact h
def fin (neg : Bool) (s : ByteArray) : ByteArray := if neg = true then (⟨#[45]⟩ : ByteArray) ++ s else s
theorem l0_end (s : ByteArray) (neg : Bool) (h : s.toList ≠ []) (hs : s.size ≤ 1002) : Ev (fun k => spec_l2Int.l0 k 0 s neg) (fin neg s) := by
  refine Ev.succ ?_
  simp only [spec_l2Int.l0]
  refine Ev.neg h (Ev.succ ?_)
  simp only [spec_l2Int.j1, fin]
  refine Ev.neg (by simp) ?_
  cases neg with
  | true => exact Ev.pos rfl (Ev.pos (by omega) (Ev.now _))
  | false => exact Ev.neg (by decide) (Ev.now _)
theorem int_l0 : ∀ (d : Nat) (n : Int) (s : ByteArray) (neg : Bool), n.natAbs < 10 ^ (d + 1) → -9223372036854775808 ≤ n → n ≤ 9223372036854775807 → (s.toList = [] ∨ n ≠ 0) → s.size + d ≤ 1000 → Ev (fun k => spec_l2Int.l0 k n s neg) (fin neg (bs (Lib.decDigits n.natAbs ++ s.data.toList))) := by
  intro d
  induction d with
  | zero =>
    intro n s neg hd h0 h1 hn hs
    have hd' : n.natAbs < 10 := by simpa using hd
    have go : Ev (fun k => spec_l2Int.j1 k n s neg true) (fin neg (bs (Lib.decDigits n.natAbs ++ s.data.toList))) := by
      refine j1_step n s neg _ h0 h1 (by omega) ?_
      have e : Int.tdiv n 10 = 0 := by
        obtain ⟨m, hm | hm⟩ := Int.eq_nat_or_neg n
        · subst hm; rw [td_nat]; rw [Int.natAbs_natCast] at hd'; omega
        · subst hm; rw [Int.neg_tdiv, td_nat]; rw [Int.natAbs_neg, Int.natAbs_natCast] at hd'; omega
      rw [e, Lib.decDigits, dif_pos hd', Nat.mod_eq_of_lt hd']
      exact l0_end _ neg (by simp [bs, ByteArray.toList_eq]) (by rw [bs_size]; simp only [List.length_cons, size_data]; omega)
    refine Ev.succ ?_
    simp only [spec_l2Int.l0]
    by_cases he : s.toList = []
    · exact Ev.pos he go
    · have hb : (n != 0) = true := by simpa using hn.resolve_left he
      rw [hb]
      exact Ev.neg he go
  | succ d ih =>
    intro n s neg hd h0 h1 hn hs
    have go : Ev (fun k => spec_l2Int.j1 k n s neg true) (fin neg (bs (Lib.decDigits n.natAbs ++ s.data.toList))) := by
      refine j1_step n s neg _ h0 h1 (by omega) ?_
      have e : (Int.tdiv n 10).natAbs = n.natAbs / 10 ∧ -9223372036854775808 ≤ Int.tdiv n 10 ∧ Int.tdiv n 10 ≤ 9223372036854775807 := by
        obtain ⟨m, hm | hm⟩ := Int.eq_nat_or_neg n
        · subst hm; rw [td_nat, Int.natAbs_natCast, Int.natAbs_natCast]; omega
        · subst hm; rw [Int.neg_tdiv, td_nat, Int.natAbs_neg, Int.natAbs_natCast, Int.natAbs_neg, Int.natAbs_natCast]; omega
      by_cases hlt : n.natAbs < 10
      · have e0 : Int.tdiv n 10 = 0 := by have := e.1; omega
        rw [e0, Lib.decDigits, dif_pos hlt, Nat.mod_eq_of_lt hlt]
        exact l0_end _ neg (by simp [bs, ByteArray.toList_eq]) (by rw [bs_size]; simp only [List.length_cons, size_data]; omega)
      · have := ih (Int.tdiv n 10) (bs (UInt8.ofNat (48 + n.natAbs % 10) :: s.data.toList)) neg (by rw [e.1]; rw [Nat.pow_succ] at hd; omega) e.2.1 e.2.2 (Or.inr (by have := e.1; omega)) (by rw [bs_size]; simp only [List.length_cons, size_data]; omega)
        rw [e.1, bs_data] at this
        rw [Lib.decDigits, dif_neg hlt, List.append_assoc]
        exact this
    refine Ev.succ ?_
    simp only [spec_l2Int.l0]
    by_cases he : s.toList = []
    · exact Ev.pos he go
    · have hb : (n != 0) = true := by simpa using hn.resolve_left he
      rw [hb]
      exact Ev.neg he go
theorem int_ev (n : Int) (h0 : -9223372036854775808 ≤ n) (h1 : n ≤ 9223372036854775807) : Ev (fun k => spec_l2Int.f k n) (bs (Lib.itoa n)) := by
  unfold spec_l2Int.f
  have := int_l0 20 n ⟨#[]⟩ (decide (n < 0)) (by omega) h0 h1 (Or.inl (by simp [ByteArray.toList_eq])) (by simp [ByteArray.size])
  refine cast (congrArg _ ?_) this
  unfold fin Lib.itoa
  by_cases h : n < 0
  · rw [if_pos (by simpa using h), if_pos h, show (⟨#[45]⟩ : ByteArray) = bs [45] from rfl, bs_app]
    simp
  · rw [if_neg (by simpa using h), if_neg h, show n.natAbs = n.toNat by omega]
    simp
theorem dec_some (n : Int) (h0 : -9223372036854775808 ≤ n) (h1 : n ≤ 9223372036854775807) : impl_decimal.f n = some (bs (Lib.itoa n)) := by
  unfold impl_decimal.f strconv_FormatInt.f
  rw [if_pos ⟨h0, h1, rfl⟩]
  rfl
theorem dig_len : ∀ (d m : Nat), m < 10 ^ (d + 1) → (Lib.decDigits m).length ≤ d + 1 := by
  intro d
  induction d with
  | zero => intro m h; rw [Lib.decDigits, dif_pos (by simpa using h)]; simp
  | succ d ih =>
    intro m h
    rw [Lib.decDigits]
    by_cases hm : m < 10
    · rw [dif_pos hm]; simp
    · rw [dif_neg hm, List.length_append]
      have := ih (m / 10) (by rw [Nat.pow_succ] at h; omega)
      simp; omega
theorem itoa_len (n : Int) (h0 : -9223372036854775808 ≤ n) (h1 : n ≤ 9223372036854775807) : (bs (Lib.itoa n)).size ≤ 22 := by
  rw [bs_size]
  unfold Lib.itoa
  split
  · have := dig_len 20 n.natAbs (by omega)
    simp; omega
  · have := dig_len 20 n.toNat (by omega)
    omega
def dstep (h : Int) (b : UInt8) : Int := Int.tmod (h * 1000003 + (b.toNat : Int) + 1) 2147483647
def dg (s : ByteArray) : Int := s.data.toList.foldl dstep 1
theorem dstep_in {h : Int} {b : UInt8} (h0 : 0 ≤ h) : 0 ≤ dstep h b ∧ dstep h b < 2147483647 := by
  unfold dstep
  have hb : (0 : Int) ≤ (b.toNat : Int) := by omega
  generalize (b.toNat : Int) = v at *
  rw [Int.tmod_eq_emod_of_nonneg (by omega)]
  omega
theorem dfold_in : ∀ (l : List UInt8) (h : Int), 0 ≤ h → h < 2147483647 → 0 ≤ l.foldl dstep h ∧ l.foldl dstep h < 2147483647
  | [], h, h0, h1 => ⟨h0, h1⟩
  | b :: l, h, h0, h1 => dfold_in l _ (dstep_in h0).1 (dstep_in h0).2
theorem dg_in (s : ByteArray) : 0 ≤ dg s ∧ dg s < 2147483647 := dfold_in _ 1 (by decide) (by decide)
theorem bt_data {s : ByteArray} {i : Nat} {b : UInt8} (h : s.data.toList[i]? = some b) : bt s (i : Int) = (b.toNat : Int) := by
  obtain ⟨hi, rfl⟩ := List.getElem?_eq_some_iff.1 h
  have hs : i < s.size := by rw [← size_data]; exact hi
  unfold bt
  rw [dif_pos (by simpa using hs)]
  simp [ByteArray.getElem_eq_getElem_data]
theorem dwrap {h v : Int} (h0 : 0 ≤ h) (h1 : h < 2147483647) (v0 : 0 ≤ v) (v1 : v ≤ 255) : wrap64 ((wrap64 ((wrap64 (h * 1000003)) + (wrap64 v))) + 1) = h * 1000003 + v + 1 := by
  rw [w64 (x := h * 1000003) (by omega) (by omega), w64 (x := v) (by omega) (by omega), w64 (x := h * 1000003 + v) (by omega) (by omega), w64 (by omega) (by omega)]
theorem sdig_l0 (s : ByteArray) (hs : s.size < 9223372036854775807) : ∀ (d i : Nat) (h : Int), i + d = s.size → 0 ≤ h → h < 2147483647 → Ev (fun k => spec_Digest.l0 k s h i) ((s.data.toList.drop i).foldl dstep h)
  | 0, i, h, hi, _, _ => by
    refine Ev.succ ?_
    simp only [spec_Digest.l0]
    refine Ev.neg (by omega) ?_
    rw [List.drop_of_length_le (by rw [size_data]; omega)]
    exact Ev.now _
  | d + 1, i, h, hi, h0, h1 => by
    obtain ⟨b, hb⟩ := get_some (l := s.data.toList) (i := i) (by rw [size_data]; omega)
    have hr := bt_range s i
    refine Ev.succ ?_
    simp only [spec_Digest.l0]
    refine Ev.pos (by omega) (Ev.pos (by omega) ?_)
    rw [dwrap h0 h1 hr.1 hr.2, bt_data hb, w64 (x := (i : Int) + 1) (by omega) (by omega), cast_succ]
    have := sdig_l0 s hs d (i + 1) (dstep h b) (by omega) (dstep_in h0).1 (dstep_in h0).2
    obtain ⟨hi', rfl⟩ := List.getElem?_eq_some_iff.1 hb
    rw [List.drop_eq_getElem_cons hi']
    exact this
theorem idig_l0 (s : ByteArray) (hs : s.size < 9223372036854775807) : ∀ (d i : Nat) (h : Int), i + d = s.size → 0 ≤ h → h < 2147483647 → Ev (fun k => impl_Digest.l0 k s h (s.size : Int) i) ((s.data.toList.drop i).foldl dstep h)
  | 0, i, h, hi, _, _ => by
    refine Ev.succ ?_
    simp only [impl_Digest.l0]
    refine Ev.neg (by omega) ?_
    rw [List.drop_of_length_le (by rw [size_data]; omega)]
    exact Ev.now _
  | d + 1, i, h, hi, h0, h1 => by
    obtain ⟨b, hb⟩ := get_some (l := s.data.toList) (i := i) (by rw [size_data]; omega)
    have hr := bt_range s i
    refine Ev.succ ?_
    simp only [impl_Digest.l0]
    refine Ev.pos (by omega) (Ev.pos (by omega) (Ev.pos (by omega) ?_))
    rw [dwrap h0 h1 hr.1 hr.2, bt_data hb, w64 (x := (i : Int) + 1) (by omega) (by omega), cast_succ]
    have := idig_l0 s hs d (i + 1) (dstep h b) (by omega) (dstep_in h0).1 (dstep_in h0).2
    obtain ⟨hi', rfl⟩ := List.getElem?_eq_some_iff.1 hb
    rw [List.drop_eq_getElem_cons hi']
    exact this
theorem sdig_ev (s : ByteArray) (hs : s.size < 9223372036854775807) : Ev (fun k => spec_Digest.f k s) (dg s) := sdig_l0 s hs s.size 0 1 (by omega) (by decide) (by decide)
theorem idig_ev (s : ByteArray) (hs : s.size < 9223372036854775807) : Ev (fun k => impl_Digest.f k s) (dg s) := idig_l0 s hs s.size 0 1 (by omega) (by decide) (by decide)

theorem l44 : (⟨#[44]⟩ : ByteArray).size = 1 := rfl
abbrev i64_ (x : Int) : Prop := -9223372036854775808 ≤ x ∧ x ≤ 9223372036854775807
def pr (a b : Int) : Int := dg ((bs (Lib.itoa a) ++ (⟨#[44]⟩ : ByteArray)) ++ bs (Lib.itoa b))
theorem pr_in (a b : Int) : 0 ≤ pr a b ∧ pr a b < 2147483647 := dg_in _
theorem pr_64 (a b : Int) : i64_ (pr a b) := by have := pr_in a b; exact ⟨by omega, by omega⟩
theorem spair (a b : Int) (ha : i64_ a) (hb : i64_ b) : Ev (fun k => spec_Pair.f k a b) (pr a b) := by
  unfold spec_Pair.f pr
  have z1 := itoa_len a ha.1 ha.2
  have z2 := itoa_len b hb.1 hb.2
  exact Ev.bind (int_ev a ha.1 ha.2) (Ev.pos (by omega) (Ev.bind (int_ev b hb.1 hb.2) (Ev.pos (by simp only [ByteArray.size_append, l44]; omega) (Ev.bind (sdig_ev _ (by simp only [ByteArray.size_append, l44]; omega)) (Ev.now _)))))
theorem ipair (a b : Int) (ha : i64_ a) (hb : i64_ b) : Ev (fun k => impl_Pair.f k a b) (pr a b) := by
  unfold impl_Pair.f pr
  have z1 := itoa_len a ha.1 ha.2
  have z2 := itoa_len b hb.1 hb.2
  exact Ev.bind (Ev.const (dec_some a ha.1 ha.2)) (Ev.pos (by omega) (Ev.bind (Ev.const (dec_some b hb.1 hb.2)) (Ev.pos (by simp only [ByteArray.size_append, l44]; omega) (Ev.bind (idig_ev _ (by simp only [ByteArray.size_append, l44]; omega)) (Ev.now _)))))

theorem within_eq (a b c : Int) : impl_within.f a b c = some (decide (b ≤ a ∧ a ≤ c)) := by
  unfold impl_within.f
  by_cases h : a ≥ b
  · rw [if_pos h]; congr 1; simp; omega
  · rw [if_neg h]; congr 1; simp; omega
theorem in_eq (a b c : Int) : spec_l1In.f a b c = some (decide (b ≤ a ∧ a ≤ c)) := within_eq a b c

def told (at_ v : Int) (way : List Int) : Bool := if (0 ≤ at_ ∧ at_ ≤ 255) ∧ (-1 ≤ v ∧ v ≤ 1000000000) then ((way.length : Int) == 8) else false
theorem stold (at_ v : Int) (way : List Int) : spec_l12Told.f at_ v way = some (told at_ v way) := by
  unfold spec_l12Told.f spec_l12Value.f told
  simp only [in_eq, Option.bind_some]
  by_cases c1 : 0 ≤ at_ ∧ at_ ≤ 255
  · rw [if_pos (by simpa using c1)]
    by_cases c2 : v = -1
    · rw [if_pos c2, if_pos ⟨c1, by omega, by omega⟩]
    · rw [if_neg c2]
      by_cases c3 : 0 ≤ v ∧ v ≤ 1000000000
      · rw [if_pos (by simpa using c3), if_pos ⟨c1, by omega, by omega⟩]
      · rw [if_neg (by simpa using c3), if_neg (by omega)]
  · rw [if_neg (by simpa using c1), if_neg (fun h => c1 h.1)]
theorem itold (at_ v : Int) (way : List Int) : impl_climbs.f at_ v way = some (told at_ v way) := by
  unfold impl_climbs.f impl_isPlace.f told
  simp only [within_eq, Option.bind_some]
  by_cases c1 : 0 ≤ at_ ∧ at_ ≤ 255
  · rw [if_pos (by simpa using c1)]
    by_cases c3 : -1 ≤ v ∧ v ≤ 1000000000
    · rw [if_pos (by simpa using c3), if_pos ⟨c1, c3⟩]
    · rw [if_neg (by simpa using c3), if_neg (fun h => c3 h.2)]
  · rw [if_neg (by simpa using c1), if_neg (fun h => c1 h.1)]
theorem told_true {at_ v : Int} {way : List Int} (h : told at_ v way = true) : (0 ≤ at_ ∧ at_ ≤ 255) ∧ (-1 ≤ v ∧ v ≤ 1000000000) ∧ way.length = 8 := by
  unfold told at h
  split at h
  · rename_i c
    simp at h
    exact ⟨c.1, c.2, by omega⟩
  · cases h
def leafN (a v : Int) : Int := if v < 0 then 0 else pr a v
theorem leafN_64 (a v : Int) : i64_ (leafN a v) := by
  unfold leafN
  split
  · exact ⟨by decide, by decide⟩
  · exact pr_64 a v
theorem snum (a v : Int) (ha : i64_ a) (hv : i64_ v) : Ev (fun k => spec_l12Number.f k a v) (leafN a v) := by
  unfold spec_l12Number.f leafN
  by_cases h : v < 0
  · rw [if_pos h]; exact Ev.pos h (Ev.now _)
  · rw [if_neg h]; exact Ev.neg h (Ev.bind (spair a v ha hv) (Ev.now _))
theorem inum (a v : Int) (ha : i64_ a) (hv : i64_ v) : Ev (fun k => impl_leafNumber.f k a v) (leafN a v) := by
  unfold impl_leafNumber.f leafN
  by_cases h : v < 0
  · rw [if_pos h]; exact Ev.pos h (Ev.now _)
  · rw [if_neg h]; exact Ev.neg h (Ev.bind (ipair a v ha hv) (Ev.now _))
theorem bits_all : ∀ a : Fin 256, ∀ i : Fin 8, (decide (Go.bits .and .i64 (shr .i64 ((a.val : Nat) : Int) ((i.val : Nat) : Int)) 1 = 1)) = !(decide ((a.val / 2 ^ i.val) % 2 = 0)) := by decide +kernel
theorem bit_at (a i : Nat) (ha : a ≤ 255) (hi : i < 8) : (Go.bits .and .i64 (shr .i64 (a : Int) (i : Int)) 1 = 1) ↔ ¬ ((a / 2 ^ i) % 2 = 0) := by
  have h := bits_all ⟨a, by omega⟩ ⟨i, hi⟩
  simp only at h
  constructor
  · intro h1 h2
    rw [decide_eq_true h1, decide_eq_true h2] at h
    cases h
  · intro h2
    rw [decide_eq_false h2] at h
    exact of_decide_eq_true h
theorem half (a i : Nat) : Int.tdiv ((a / 2 ^ i : Nat) : Int) 2 = ((a / 2 ^ (i + 1) : Nat) : Int) := by
  rw [show Int.tdiv ((a / 2 ^ i : Nat) : Int) 2 = ((a / 2 ^ i / 2 : Nat) : Int) from rfl, Nat.div_div_eq_div_mul, Nat.pow_succ]
theorem odd (a i : Nat) : Int.tmod ((a / 2 ^ i : Nat) : Int) 2 = ((a / 2 ^ i % 2 : Nat) : Int) := rfl
def fst_ (a i : Nat) (n w : Int) : Int := if (a / 2 ^ i) % 2 = 0 then n else w
def snd_ (a i : Nat) (n w : Int) : Int := if (a / 2 ^ i) % 2 = 0 then w else n
theorem two_ev (a i : Nat) (n w : Int) : spec_l12Two.f ((a / 2 ^ i : Nat) : Int) n w = some (fst_ a i n w, snd_ a i n w) := by
  unfold spec_l12Two.f fst_ snd_
  rw [odd]
  by_cases h : (a / 2 ^ i) % 2 = 0
  · rw [if_pos (by omega), if_pos h, if_pos h]
  · rw [if_neg (by omega), if_neg h, if_neg h]
def climb (a : Nat) (way : List Int) : Nat → Nat → Int → Int
  | 0, _, n => n
  | d + 1, i, n => climb a way d (i + 1) (pr (fst_ a i n (rd way i)) (snd_ a i n (rd way i)))
theorem f64 (a i : Nat) (n w : Int) (hn : i64_ n) (hw : i64_ w) : i64_ (fst_ a i n w) ∧ i64_ (snd_ a i n w) := by
  unfold fst_ snd_
  split
  · exact ⟨hn, hw⟩
  · exact ⟨hw, hn⟩
theorem way_64 {way : List Int} (hw : okList (okInt .i64) way) {i : Nat} (hi : i < way.length) : i64_ (rd way i) := by
  obtain ⟨x, hx⟩ := get_some hi
  rw [rd_get hx]
  exact bound_i64 (all_get hw.2 hx)

theorem Ev.rpos {α : Type} {c : Prop} [Decidable c] {g : Nat → Option α} {x y : α} (h : c) (k : Ev g x) : Ev g (if c then x else y) := by rw [if_pos h]; exact k
theorem Ev.rneg {α : Type} {c : Prop} [Decidable c] {g : Nat → Option α} {x y : α} (h : ¬ c) (k : Ev g y) : Ev g (if c then x else y) := by rw [if_neg h]; exact k
def prs (a : Nat) (way : List Int) : Nat → Nat → Int → List (List Int)
  | 0, _, _ => []
  | d + 1, i, n => [fst_ a i n (rd way i), snd_ a i n (rd way i)] :: prs a way d (i + 1) (pr (fst_ a i n (rd way i)) (snd_ a i n (rd way i)))
theorem prs_len (a : Nat) (way : List Int) : ∀ (d i : Nat) (n : Int), (prs a way d i n).length = d
  | 0, _, _ => rfl
  | d + 1, i, n => by simp [prs, prs_len a way d]
theorem ipairs (a : Nat) (way : List Int) (ha : a ≤ 255) (h8 : way.length = 8) (hw : okList (okInt .i64) way) : ∀ (d i : Nat) (n : Int) (L : List (List Int)), i + d = 8 → L.length = i + 1 → i64_ n → Ev (fun k => impl_pairs.l0 k a L n way (way.length : Int) i) (L ++ prs a way d i n)
  | 0, i, n, L, hi, hL, hn => by
    obtain rfl : i = 8 := by omega
    refine Ev.succ ?_
    simp only [impl_pairs.l0, prs, List.append_nil]
    exact Ev.neg (by omega) (Ev.now _)
  | d + 1, i, n, L, hi, hL, hn => by
    have hv := f64 a i n _ hn (way_64 hw (i := i) (by omega))
    have e := ipairs a way ha h8 hw d (i + 1) (pr (fst_ a i n (rd way i)) (snd_ a i n (rd way i))) (L ++ [[fst_ a i n (rd way i), snd_ a i n (rd way i)]]) (by omega) (by simp; omega) (pr_64 _ _)
    rw [List.append_assoc, List.singleton_append] at e
    refine Ev.succ ?_
    simp only [impl_pairs.l0, prs, Option.bind_some, List.length_cons, List.length_nil]
    refine Ev.pos (by omega) (Ev.pos (by omega) (Ev.pos (by omega) ?_))
    have hi8 : i < 8 := by clear e hv; omega
    have hL9 : L.length < 5864062014805 := Nat.lt_of_le_of_lt (show L.length ≤ 8 by clear e hv; omega) (by decide)
    have e1 : wrap64 ((i : Int) + 1) = ((i + 1 : Nat) : Int) := by rw [w64 (by omega) (by omega), cast_succ]
    rw [e1]
    by_cases hb : (a / 2 ^ i) % 2 = 0
    · refine Ev.neg (fun h => (bit_at a i ha hi8).1 h hb) (Ev.pos hL9 (Ev.pos (by decide) (Ev.pos (by decide) ?_)))
      simp only [fst_, snd_, if_pos hb] at e hv ⊢
      exact Ev.bind (ipair _ _ hv.1 hv.2) e
    · refine Ev.pos ((bit_at a i ha hi8).2 hb) (Ev.pos hL9 (Ev.pos (by decide) (Ev.pos (by decide) ?_)))
      simp only [fst_, snd_, if_neg hb] at e hv ⊢
      exact Ev.bind (ipair _ _ hv.1 hv.2) e
def own (a v : Int) : List Int := if v < 0 then [0, -1] else [a, v]
theorem ipairs_ev (a : Nat) (v : Int) (way : List Int) (ha : a ≤ 255) (hv : i64_ v) (h8 : way.length = 8) (hw : okList (okInt .i64) way) : Ev (fun k => impl_pairs.f k a v way) (own a v :: prs a way 8 0 (leafN a v)) := by
  have ha' : i64_ (a : Int) := ⟨by omega, by omega⟩
  have go : ∀ x, Ev (fun k => impl_pairs.j0 k a v way x) (x :: prs a way 8 0 (leafN a v)) := by
    intro x
    have e := ipairs a way ha h8 hw 8 0 (leafN a v) [x] (by omega) rfl (leafN_64 _ _)
    refine Ev.succ ?_
    simp only [impl_pairs.j0]
    exact Ev.bind (inum _ _ ha' hv) e
  unfold impl_pairs.f own
  by_cases h : v < 0
  · rw [if_pos h]; exact Ev.pos h (go _)
  · rw [if_neg h]; exact Ev.neg h (go _)
def srch (a : Nat) (way wi : List Int) : Nat → Nat → Int → Int → Option (List Int)
  | 0, _, _, _ => none
  | d + 1, i, m, n => if pr (fst_ a i m (rd way i)) (snd_ a i m (rd way i)) = pr (fst_ a i n (rd wi i)) (snd_ a i n (rd wi i)) then some [fst_ a i m (rd way i), snd_ a i m (rd way i), fst_ a i n (rd wi i), snd_ a i n (rd wi i)] else srch a way wi d (i + 1) (pr (fst_ a i m (rd way i)) (snd_ a i m (rd way i))) (pr (fst_ a i n (rd wi i)) (snd_ a i n (rd wi i)))
def told_ : Option (List Int) → List Int × Bool
  | some f => (f, true)
  | none => ([], false)
theorem concat_ev (p q r s : Int) : Ev (fun k => slices_Concat_int64_int64.f k [[p, q], [r, s]]) [p, q, r, s] := by
  unfold slices_Concat_int64_int64.f
  have r0 : rd_L3 [[p, q], [r, s]] 0 = [p, q] := rfl
  have r1 : rd_L3 [[p, q], [r, s]] 1 = [r, s] := rfl
  have w2 : wrap64 (0 + (([p, q] : List Int).length : Int)) = 2 := by rw [w64 (by simp) (by simp)]; rfl
  have w4 : wrap64 (2 + (([r, s] : List Int).length : Int)) = 4 := by rw [w64 (by simp) (by simp)]; rfl
  have v1 : wrap64 (0 + 1) = 1 := w64 (by omega) (by omega)
  have v2 : wrap64 (1 + 1) = 2 := w64 (by omega) (by omega)
  refine Ev.succ ?_
  simp only [slices_Concat_int64_int64.l0, r0, w2, v1]
  refine Ev.pos (by first | decide | simp) (Ev.pos (by first | decide | simp) (Ev.pos (by first | decide | simp) (Ev.neg (by first | decide | simp) (Ev.succ ?_))))
  simp only [slices_Concat_int64_int64.l0, r1, w4, v2]
  refine Ev.pos (by first | decide | simp) (Ev.pos (by first | decide | simp) (Ev.pos (by first | decide | simp) (Ev.neg (by first | decide | simp) (Ev.succ ?_))))
  simp only [slices_Concat_int64_int64.l0]
  refine Ev.neg (by first | decide | simp) (Ev.bind (Ev.const (show slices_Grow_int64_int64.f [] 4 = some [] from rfl)) (Ev.succ ?_))
  simp only [slices_Concat_int64_int64.l1, r0, v1]
  refine Ev.pos (by first | decide | simp) (Ev.pos (by first | decide | simp) (Ev.pos (by first | decide | simp) (Ev.pos (by simp) (Ev.succ ?_))))
  simp only [slices_Concat_int64_int64.l1, r1, v2]
  refine Ev.pos (by first | decide | simp) (Ev.pos (by first | decide | simp) (Ev.pos (by first | decide | simp) (Ev.pos (by simp) (Ev.succ ?_))))
  simp only [slices_Concat_int64_int64.l1]
  exact Ev.neg (by first | decide | simp) (Ev.now _)
theorem num_ev (x : Int) (hx : x ≠ 0) (p q : Int) (hp : i64_ p) (hq : i64_ q) : Ev (fun k => impl_pairNumber.f k x [p, q]) (pr p q) := by
  unfold impl_pairNumber.f
  exact Ev.neg hx (Ev.pos (by simp) (Ev.pos (by simp) (Ev.bind (ipair p q hp hq) (Ev.now _))))
theorem num0_ev (a : Nat) (ha : a ≤ 255) (v : Int) (hv : i64_ v) : Ev (fun k => impl_pairNumber.f k 0 (own a v)) (leafN a v) := by
  have ha' : i64_ (a : Int) := ⟨by omega, by omega⟩
  unfold impl_pairNumber.f own
  by_cases h : v < 0
  · simp only [if_pos h]
    refine Ev.pos (by first | rfl | trivial) (Ev.pos (by simp) (Ev.pos (by simp) (Ev.bind (inum 0 (-1) ⟨by decide, by decide⟩ ⟨by decide, by decide⟩) ?_)))
    unfold leafN
    rw [if_pos (by decide), if_pos h]
    exact Ev.now _
  · simp only [if_neg h]
    exact Ev.pos (by first | rfl | trivial) (Ev.pos (by simp) (Ev.pos (by simp) (Ev.bind (inum a v ha' hv) (Ev.now _))))
theorem drop_at {α : Type} {l : List α} {i : Nat} {x : α} {r : List α} (h : l.drop i = x :: r) : l[i]? = some x ∧ l.drop (i + 1) = r := by
  constructor
  · have := congrArg (·[0]?) h
    simpa using this
  · have := congrArg (List.drop 1) h
    simpa [List.drop_drop] using this
theorem iloop (a : Nat) (way wi : List Int) (ha : a ≤ 255) (h8 : way.length = 8) (g8 : wi.length = 8) (hw : okList (okInt .i64) way) (gw : okList (okInt .i64) wi) (A B : List (List Int)) (hA : A.length = 9) (hB : B.length = 9) : ∀ (d i : Nat) (m n : Int), i + d = 8 → i64_ m → i64_ n → A.drop (i + 1) = prs a way d i m → B.drop (i + 1) = prs a wi d i n → Ev (fun k => impl_Parted.l0 k A B (A.length : Int) ((i + 1 : Nat) : Int)) (told_ (srch a way wi d i m n))
  | 0, i, m, n, hi, hm, hn, ea, eb => by
    refine Ev.succ ?_
    simp only [impl_Parted.l0, srch, told_]
    exact Ev.neg (by omega) (Ev.now _)
  | d + 1, i, m, n, hi, hm, hn, ea, eb => by
    obtain ⟨xa, ea'⟩ := drop_at ea
    obtain ⟨xb, eb'⟩ := drop_at eb
    have fa := f64 a i m _ hm (way_64 hw (i := i) (by omega))
    have fb := f64 a i n _ hn (way_64 gw (i := i) (by omega))
    have ra : rd_L3 A ((i + 1 : Nat) : Int) = _ := getD_lt xa
    have rb : rd_L3 B ((i + 1 : Nat) : Int) = _ := getD_lt xb
    have rec_ := iloop a way wi ha h8 g8 hw gw A B hA hB d (i + 1) _ _ (by omega) (pr_64 _ _) (pr_64 _ _) ea' eb'
    have n1 := num_ev ((i + 1 : Nat) : Int) (by omega) _ _ fa.1 fa.2
    have n2 := num_ev ((i + 1 : Nat) : Int) (by omega) _ _ fb.1 fb.2
    refine Ev.succ ?_
    simp only [impl_Parted.l0, ra, rb]
    refine Ev.pos (by omega) (Ev.pos (by omega) (Ev.pos (by omega) (Ev.bind n1 (Ev.pos (by omega) (Ev.bind n2 ?_)))))
    unfold srch
    by_cases h : pr (fst_ a i m (rd way i)) (snd_ a i m (rd way i)) = pr (fst_ a i n (rd wi i)) (snd_ a i n (rd wi i))
    · rw [if_pos h]
      exact Ev.pos h (Ev.bind (concat_ev _ _ _ _) (Ev.now _))
    · rw [if_neg h]
      refine Ev.neg h ?_
      have e1 : wrap64 (((i + 1 : Nat) : Int) + 1) = ((i + 1 + 1 : Nat) : Int) := by rw [w64 (by omega) (by omega), cast_succ]
      rw [e1]
      exact rec_
def fin_ (a : Nat) (way wi : List Int) (d i : Nat) (m n : Int) (found : List Int) : List Int × Bool := if climb a way d i m = climb a wi d i n then (if found.length = 0 then told_ (srch a way wi d i m n) else (found, true)) else ([], false)
theorem sloop (a : Nat) (way wi : List Int) (ha : a ≤ 255) (h8 : way.length = 8) (g8 : wi.length = 8) (hw : okList (okInt .i64) way) (gw : okList (okInt .i64) wi) : ∀ (d i : Nat) (m n : Int) (found : List Int), i + d = 8 → i64_ m → i64_ n → Ev (fun k => spec_Parted.l0 k ((a / 2 ^ i : Nat) : Int) way wi m n found i) (fin_ a way wi d i m n found)
  | 0, i, m, n, found, hi, hm, hn => by
    refine Ev.succ ?_
    simp only [spec_Parted.l0, fin_, climb, srch, told_]
    refine Ev.neg (by omega) ?_
    by_cases h : m = n
    · refine Ev.pos h (Ev.rpos h ?_)
      by_cases hf : found.length = 0
      · exact Ev.pos (by omega) (Ev.rpos hf (Ev.now _))
      · exact Ev.neg (by omega) (Ev.rneg hf (Ev.now _))
    · exact Ev.neg h (Ev.rneg h (Ev.now _))
  | d + 1, i, m, n, found, hi, hm, hn => by
    have fa := f64 a i m _ hm (way_64 hw (i := i) (by omega))
    have fb := f64 a i n _ hn (way_64 gw (i := i) (by omega))
    have rec_ := fun f => sloop a way wi ha h8 g8 hw gw d (i + 1) (pr (fst_ a i m (rd way i)) (snd_ a i m (rd way i))) (pr (fst_ a i n (rd wi i)) (snd_ a i n (rd wi i))) f (by omega) (pr_64 _ _) (pr_64 _ _)
    have hlt : a / 2 ^ (i + 1) ≤ a := Nat.div_le_self _ _
    have wn : wrap64 ((a / 2 ^ (i + 1) : Nat) : Int) = ((a / 2 ^ (i + 1) : Nat) : Int) := by
      clear rec_ fa fb
      generalize a / 2 ^ (i + 1) = b at hlt ⊢
      exact w64 (by omega) (by omega)
    have e1 : wrap64 ((i : Int) + 1) = ((i + 1 : Nat) : Int) := by rw [w64 (by omega) (by omega), cast_succ]
    have hi0 : (i : Int) < 8 := by clear rec_ fa fb wn e1; omega
    have hi1 : (0 : Int) ≤ (i : Int) := by clear rec_ fa fb wn e1; omega
    have hi2 : (i : Int) < (way.length : Int) := by clear rec_ fa fb wn e1; omega
    have hi3 : (i : Int) < (wi.length : Int) := by clear rec_ fa fb wn e1; omega
    refine Ev.succ ?_
    simp only [spec_Parted.l0, two_ev, Option.bind_some, half, wn, e1]
    refine Ev.pos hi0 (Ev.pos hi1 (Ev.pos hi2 (Ev.pos hi3 (Ev.bind (spair _ _ fa.1 fa.2) (Ev.bind (spair _ _ fb.1 fb.2) ?_)))))
    by_cases h : pr (fst_ a i m (rd way i)) (snd_ a i m (rd way i)) = pr (fst_ a i n (rd wi i)) (snd_ a i n (rd wi i))
    · refine Ev.pos h ?_
      by_cases hf : found.length = 0
      · refine Ev.pos (by clear rec_ wn e1; omega) ?_
        have e : fin_ a way wi (d + 1) i m n found = fin_ a way wi d (i + 1) (pr (fst_ a i m (rd way i)) (snd_ a i m (rd way i))) (pr (fst_ a i n (rd wi i)) (snd_ a i n (rd wi i))) [fst_ a i m (rd way i), snd_ a i m (rd way i), fst_ a i n (rd wi i), snd_ a i n (rd wi i)] := by
          unfold fin_
          simp only [climb, srch, if_pos h, if_pos hf, told_, List.length_cons, List.length_nil]
          simp
        rw [e]
        exact rec_ _
      · refine Ev.neg (by clear rec_ wn e1; omega) ?_
        have e : fin_ a way wi (d + 1) i m n found = fin_ a way wi d (i + 1) (pr (fst_ a i m (rd way i)) (snd_ a i m (rd way i))) (pr (fst_ a i n (rd wi i)) (snd_ a i n (rd wi i))) found := by
          unfold fin_
          simp only [climb, if_neg hf]
        rw [e]
        exact rec_ _
    · refine Ev.neg h ?_
      have e : fin_ a way wi (d + 1) i m n found = fin_ a way wi d (i + 1) (pr (fst_ a i m (rd way i)) (snd_ a i m (rd way i))) (pr (fst_ a i n (rd wi i)) (snd_ a i n (rd wi i))) found := by
        unfold fin_
        simp only [climb, srch, if_neg h]
      rw [e]
      exact rec_ _
theorem climb_prs (a : Nat) (way : List Int) (hw : okList (okInt .i64) way) (h8 : way.length = 8) : ∀ (d i : Nat) (n : Int), i + (d + 1) = 8 → i64_ n → ∃ p q, (prs a way (d + 1) i n)[d]? = some [p, q] ∧ i64_ p ∧ i64_ q ∧ pr p q = climb a way (d + 1) i n
  | 0, i, n, hi, hn => by
    have hv := f64 a i n _ hn (way_64 hw (i := i) (by omega))
    exact ⟨_, _, rfl, hv.1, hv.2, rfl⟩
  | d + 1, i, n, hi, hn => by
    obtain ⟨p, q, h⟩ := climb_prs a way hw h8 d (i + 1) (pr (fst_ a i n (rd way i)) (snd_ a i n (rd way i))) (by omega) (pr_64 _ _)
    refine ⟨p, q, ?_, h.2.1, h.2.2.1, h.2.2.2⟩
    show (_ :: prs a way (d + 1) (i + 1) _)[d + 1]? = _
    rw [List.getElem?_cons_succ]
    exact h.1
/-- What the law asks of a telling. -/
def Good (r : List Int × Bool) : Prop := r = ([], false) ∨ ∃ p q s t, r = ([p, q, s, t], true) ∧ (i64_ p ∧ i64_ q ∧ i64_ s ∧ i64_ t) ∧ (p = s → q ≠ t) ∧ (pr p q = pr s t ∨ (q = -1 ∧ pr s t = 0) ∨ (t = -1 ∧ pr p q = 0))
theorem srch_good (a : Nat) (way wi : List Int) (h8 : way.length = 8) (g8 : wi.length = 8) (hw : okList (okInt .i64) way) (gw : okList (okInt .i64) wi) : ∀ (d i : Nat) (m n : Int), i + d = 8 → i64_ m → i64_ n → m ≠ n → Good (told_ (srch a way wi d i m n))
  | 0, i, m, n, hi, hm, hn, hne => Or.inl rfl
  | d + 1, i, m, n, hi, hm, hn, hne => by
    have fa := f64 a i m _ hm (way_64 hw (i := i) (by omega))
    have fb := f64 a i n _ hn (way_64 gw (i := i) (by omega))
    unfold srch
    by_cases h : pr (fst_ a i m (rd way i)) (snd_ a i m (rd way i)) = pr (fst_ a i n (rd wi i)) (snd_ a i n (rd wi i))
    · rw [if_pos h]
      refine Or.inr ⟨_, _, _, _, rfl, ⟨fa.1, fa.2, fb.1, fb.2⟩, ?_, Or.inl h⟩
      unfold fst_ snd_
      by_cases e : (a / 2 ^ i) % 2 = 0
      · simp only [if_pos e]; exact fun x => absurd x hne
      · simp only [if_neg e]; exact fun _ => hne
    · rw [if_neg h]
      exact srch_good a way wi h8 g8 hw gw d (i + 1) _ _ (by omega) (pr_64 _ _) (pr_64 _ _) h
theorem parted_ev (at_ v o : Int) (way wi : List Int) (hv : i64_ v) (ho : i64_ o) (hw : okList (okInt .i64) way) (gw : okList (okInt .i64) wi) : ∃ r, Ev (fun k => spec_Parted.f k at_ v way o wi) r ∧ Ev (fun k => impl_Parted.f k at_ v way o wi) r ∧ Good r := by
  have sbad : ∀ b, b = true → Ev (fun k => spec_Parted.j0 k at_ v way o wi b) ([], false) := by
    intro b hb
    refine Ev.succ ?_
    simp only [spec_Parted.j0]
    exact Ev.pos hb (Ev.now _)
  have ibad : ∀ b, b = true → Ev (fun k => impl_Parted.j0 k at_ v way o wi b) ([], false) := by
    intro b hb
    refine Ev.succ ?_
    simp only [impl_Parted.j0]
    exact Ev.pos hb (Ev.now _)
  unfold spec_Parted.f impl_Parted.f
  simp only [stold, itold, Option.bind_some]
  cases ht : told at_ v way with
  | false => exact ⟨_, Ev.neg (by decide) (sbad _ rfl), Ev.neg (by decide) (ibad _ rfl), Or.inl rfl⟩
  | true =>
    cases gt : told at_ o wi with
    | false => exact ⟨_, Ev.pos rfl (Ev.neg (by decide) (sbad _ rfl)), Ev.pos rfl (Ev.neg (by decide) (ibad _ rfl)), Or.inl rfl⟩
    | true =>
      by_cases hvo : v = o
      · exact ⟨_, Ev.pos rfl (Ev.pos rfl (sbad _ (by simpa using hvo))), Ev.pos rfl (Ev.pos rfl (ibad _ (by simpa using hvo))), Or.inl rfl⟩
      · obtain ⟨c1, c2, h8⟩ := told_true ht
        obtain ⟨_, c3, g8⟩ := told_true gt
        obtain ⟨a, rfl⟩ : ∃ a : Nat, at_ = a := ⟨at_.toNat, by omega⟩
        have ha : a ≤ 255 := by omega
        have ha' : i64_ (a : Int) := ⟨by omega, by omega⟩
        have nb : (v == o) = false := by simpa using hvo
        rw [nb]
        have l1 := ipairs_ev a v way ha hv h8 hw
        have l2 := ipairs_ev a o wi ha ho g8 gw
        have p1 := prs_len a way 8 0 (leafN a v)
        have p2 := prs_len a wi 8 0 (leafN a o)
        obtain ⟨p, q, x1, x2, x3, x4⟩ := climb_prs a way hw h8 7 0 (leafN a v) (by omega) (leafN_64 _ _)
        obtain ⟨r, s, y1, y2, y3, y4⟩ := climb_prs a wi gw g8 7 0 (leafN a o) (by omega) (leafN_64 _ _)
        have ra : rd_L3 (own a v :: prs a way 8 0 (leafN a v)) 8 = [p, q] := getD_lt (i := 8) (by rw [List.getElem?_cons_succ]; exact x1)
        have rb : rd_L3 (own a o :: prs a wi 8 0 (leafN a o)) 8 = [r, s] := getD_lt (i := 8) (by rw [List.getElem?_cons_succ]; exact y1)
        have nA := num_ev 8 (by decide) p q x2 x3
        have nB := num_ev 8 (by decide) r s y2 y3
        rw [x4] at nA
        rw [y4] at nB
        have r0a : rd_L3 (own a v :: prs a way 8 0 (leafN a v)) 0 = own a v := rfl
        have r0b : rd_L3 (own a o :: prs a wi 8 0 (leafN a o)) 0 = own a o := rfl
        have lp := iloop a way wi ha h8 g8 hw gw (own a v :: prs a way 8 0 (leafN a v)) (own a o :: prs a wi 8 0 (leafN a o)) (by simp [p1]) (by simp [p2]) 8 0 (leafN a v) (leafN a o) (by omega) (leafN_64 _ _) (leafN_64 _ _) rfl rfl
        have e1 : wrap64 ((0 : Int) + 1) = ((0 + 1 : Nat) : Int) := by rw [w64 (by omega) (by omega)]; rfl
        have hown : ∀ x, own a x = [if x < 0 then 0 else (a : Int), if x < 0 then -1 else x] := by
          intro x; unfold own; by_cases h : x < 0 <;> simp [h]
        have hleaf : ∀ x, spec_l12Leaf.f a x = some (if x < 0 then 0 else (a : Int), if x < 0 then -1 else x) := by
          intro x; unfold spec_l12Leaf.f; by_cases h : x < 0 <;> simp [h]
        have cc : Ev (fun k => slices_Concat_int64_int64.f k [own a v, own a o]) (own a v ++ own a o) := by
          rw [hown v, hown o]; exact concat_ev _ _ _ _
        let found0 : List Int := if leafN a v = leafN a o then own a v ++ own a o else []
        refine ⟨fin_ a way wi 8 0 (leafN a v) (leafN a o) found0, Ev.pos rfl (Ev.pos rfl (Ev.succ ?_)), Ev.pos rfl (Ev.pos rfl (Ev.succ ?_)), ?_⟩
        · have sl := fun f => sloop a way wi ha h8 g8 hw gw 8 0 (leafN a v) (leafN a o) f (by omega) (leafN_64 _ _) (leafN_64 _ _)
          simp only [Nat.pow_zero, Nat.div_one] at sl
          simp only [spec_Parted.j0, hleaf, Option.bind_some]
          refine Ev.neg (by decide) (Ev.bind (snum _ _ ha' hv) (Ev.bind (snum _ _ ha' ho) ?_))
          by_cases h0 : leafN a v = leafN a o
          · refine Ev.pos h0 (Ev.succ ?_)
            simp only [spec_Parted.j1]
            have := sl found0
            simp only [found0, if_pos h0, hown, List.cons_append, List.nil_append] at this ⊢
            exact this
          · refine Ev.neg h0 (Ev.succ ?_)
            simp only [spec_Parted.j1]
            have := sl found0
            simp only [found0, if_neg h0] at this ⊢
            exact this
        · simp only [impl_Parted.j0]
          refine Ev.neg (by decide) (Ev.bind l1 (Ev.bind l2 (Ev.pos (by simp [p1]) ?_)))
          rw [ra]
          refine Ev.bind nA (Ev.pos (by simp [p2]) ?_)
          rw [rb]
          refine Ev.bind nB ?_
          unfold fin_
          by_cases hc : climb a way 8 0 (leafN a v) = climb a wi 8 0 (leafN a o)
          · rw [if_pos hc]
            refine Ev.pos hc (Ev.succ ?_)
            simp only [impl_Parted.l0, r0a, r0b, e1]
            refine Ev.pos (by simp [p1]) (Ev.pos (by decide) (Ev.pos (by simp [p1]) (Ev.bind (num0_ev a ha v hv) (Ev.pos (by simp [p2]) (Ev.bind (num0_ev a ha o ho) ?_)))))
            by_cases h0 : leafN a v = leafN a o
            · simp only [found0, if_pos h0]
              rw [if_neg (by rw [hown, hown]; simp)]
              first | exact Ev.bind cc (Ev.now _) | exact Ev.pos h0 (Ev.bind cc (Ev.now _))
            · simp only [found0, if_neg h0, List.length_nil, if_true]
              first | exact lp | exact Ev.neg h0 lp
          · rw [if_neg hc]
            exact Ev.neg hc (Ev.now _)
        · have gl := srch_good a way wi h8 g8 hw gw 8 0 (leafN a v) (leafN a o) (by omega) (leafN_64 _ _) (leafN_64 _ _)
          unfold fin_
          by_cases hc : climb a way 8 0 (leafN a v) = climb a wi 8 0 (leafN a o)
          · rw [if_pos hc]
            by_cases h0 : leafN a v = leafN a o
            · have hf : found0 = [if v < 0 then 0 else (a : Int), if v < 0 then -1 else v, if o < 0 then 0 else (a : Int), if o < 0 then -1 else o] := by
                simp only [found0, if_pos h0, hown, List.cons_append, List.nil_append]
              rw [hf, if_neg (by simp)]
              refine Or.inr ⟨_, _, _, _, rfl, ⟨?_, ?_, ?_, ?_⟩, ?_, ?_⟩
              · split
                · exact ⟨by decide, by decide⟩
                · exact ha'
              · split
                · exact ⟨by decide, by decide⟩
                · exact hv
              · split
                · exact ⟨by decide, by decide⟩
                · exact ha'
              · split
                · exact ⟨by decide, by decide⟩
                · exact ho
              · clear gl hf hown hleaf cc lp nA nB
                intro _
                by_cases hv0 : v < 0 <;> by_cases ho0 : o < 0 <;> simp only [hv0, ho0, if_true, if_false] <;> omega
              · unfold leafN at h0
                by_cases hv0 : v < 0 <;> by_cases ho0 : o < 0 <;> simp only [hv0, ho0, if_true, if_false] at h0 ⊢
                · exact absurd (show v = o by omega) hvo
                · exact Or.inr (Or.inl ⟨trivial, h0.symm⟩)
                · exact Or.inr (Or.inr ⟨trivial, h0⟩)
                · exact Or.inl h0
            · have hf : found0 = [] := by simp only [found0, if_neg h0]
              rw [hf, if_pos (by rfl)]
              exact gl h0
          · rw [if_neg hc]; exact Or.inl rfl
theorem rd_nat (x : List S52) (j : Nat) : rd_T52 x (j : Int) = x.getD j z52 := rfl
theorem g_get {x : List S52} {i : Nat} (hi : i < x.length) : x.getD i z52 = x[i] := by
  rw [List.getD_eq_getElem?_getD, List.getElem?_eq_getElem hi]; rfl
def LOk (l : List S52) : Prop := ∀ j, j < l.length → (0 ≤ (l.getD j z52).f0 ∧ (l.getD j z52).f0 ≤ 255) ∧ (0 ≤ (l.getD j z52).f1 ∧ (l.getD j z52).f1 ≤ 1000000000) ∧ (0 < j → (l.getD (j - 1) z52).f0 < (l.getD j z52).f0)
def all64 (x : List Int) : Prop := ∀ j, j < x.length → i64_ (rd x (j : Int))
theorem rdn (x : List Int) (j : Nat) : rd x (j : Int) = x.getD j 0 := rfl
theorem rdn_lt {x : List Int} {j : Nat} (h : j < x.length) : x.getD j 0 = x[j] := by
  rw [List.getD_eq_getElem?_getD, List.getElem?_eq_getElem h]; rfl
theorem all64_iff {x : List Int} : all64 x ↔ ∀ y, y ∈ x → i64_ y := by
  constructor
  · intro h y hy
    obtain ⟨j, hj, e⟩ := List.getElem_of_mem hy
    have := h j hj
    rw [rdn, rdn_lt hj, e] at this
    exact this
  · intro h j hj
    rw [rdn, rdn_lt hj]
    exact h _ (List.getElem_mem _)
def putLeaf (y : List Int) (x : S52) : List Int := y.set x.f0.toNat (leafN x.f0 x.f1)
def rowF (l : List S52) : List Int := l.foldl putLeaf (List.replicate 256 0)
theorem put_fold_len : ∀ (l : List S52) (y : List Int), (l.foldl putLeaf y).length = y.length
  | [], y => rfl
  | x :: l, y => by rw [List.foldl_cons, put_fold_len l]; simp [putLeaf]
theorem put_fold_64 : ∀ (l : List S52) (y : List Int), (∀ v, v ∈ y → i64_ v) → ∀ v, v ∈ l.foldl putLeaf y → i64_ v
  | [], y, h => h
  | x :: l, y, h => put_fold_64 l _ (fun v hv => by
    rcases List.mem_or_eq_of_mem_set hv with h' | h'
    · exact h v h'
    · rw [h']; exact leafN_64 _ _)
theorem rowF_len (l : List S52) : (rowF l).length = 256 := by unfold rowF; rw [put_fold_len]; simp
theorem rowF_64 (l : List S52) : all64 (rowF l) := all64_iff.2 (put_fold_64 l _ (fun v hv => by
  rw [(List.mem_replicate.1 hv).2]; exact ⟨by decide, by decide⟩))
theorem leaf_drop {l : List S52} {i : Nat} (hi : i < l.length) (y : List Int) : (l.drop i).foldl putLeaf y = (l.drop (i + 1)).foldl putLeaf (putLeaf y (l.getD i z52)) := by
  rw [List.drop_eq_getElem_cons hi, List.foldl_cons, g_get hi]
theorem srow_l0 (l : List S52) (h : LOk l) (hl : l.length ≤ 1048576) : ∀ (d i : Nat) (y : List Int), i + d = l.length → y.length = 256 → Ev (fun k => spec_l12Row.l0 k l y i) ((l.drop i).foldl putLeaf y)
  | 0, i, y, hi, hy => by
    rw [List.drop_eq_nil_of_le (by omega)]
    refine Ev.succ ?_
    simp only [spec_l12Row.l0]
    exact Ev.neg (by omega) (Ev.now _)
  | d + 1, i, y, hi, hy => by
    obtain ⟨a, b, _⟩ := h i (by omega)
    rw [leaf_drop (by omega)]
    have e := snum (l.getD i z52).f0 (l.getD i z52).f1 ⟨by omega, by omega⟩ ⟨by omega, by omega⟩
    refine Ev.succ ?_
    simp only [spec_l12Row.l0, rd_nat]
    rw [w64 (x := (i : Int) + 1) (by omega) (by omega), cast_succ]
    exact Ev.pos (by omega) (Ev.pos (by omega) (Ev.bind e (Ev.pos (by omega) (Ev.pos (by omega) (srow_l0 l h hl d (i + 1) (putLeaf y (l.getD i z52)) (by omega) (by simpa [putLeaf] using hy))))))
theorem srow (l : List S52) (h : LOk l) (hl : l.length ≤ 1048576) : Ev (fun k => spec_l12Row.f k l) (rowF l) := by
  unfold spec_l12Row.f
  exact Ev.pos (by omega) (srow_l0 l h hl l.length 0 _ (by omega) (by simp))
def ups : List Int → List Int
  | a :: b :: r => pr a b :: ups r
  | _ => []
theorem ups_len : ∀ (n : Nat) (x : List Int), x.length = 2 * n → (ups x).length = n
  | 0, x, h => by
    obtain rfl : x = [] := List.length_eq_zero_iff.1 (by omega)
    rfl
  | n + 1, x, h => by
    match x, h with
    | a :: b :: r, h => simp only [ups, List.length_cons]; rw [ups_len n r (by simp at h; omega)]
    | [_], h => simp at h; omega
    | [], h => simp at h
theorem ups_64 : ∀ (n : Nat) (x : List Int), x.length ≤ n → ∀ v, v ∈ ups x → i64_ v
  | n, [], _, v, hv => by simp [ups] at hv
  | n, [_], _, v, hv => by simp [ups] at hv
  | 0, _ :: _ :: _, h, _, _ => by simp at h
  | n + 1, a :: b :: r, h, v, hv => by
    simp only [ups, List.mem_cons] at hv
    rcases hv with e | hv
    · rw [e]; exact pr_64 _ _
    · exact ups_64 n r (by simp at h; omega) v hv
theorem ups_drop {x : List Int} {i : Nat} (hi : i + 1 < x.length) : ups (x.drop i) = pr (rd x (i : Int)) (rd x ((i + 1 : Nat) : Int)) :: ups (x.drop (i + 2)) := by
  rw [List.drop_eq_getElem_cons (by omega), List.drop_eq_getElem_cons hi, rdn, rdn, rdn_lt (by omega), rdn_lt hi]
  rfl
theorem sup_l0 (x : List Int) (h : all64 x) (hx : x.length ≤ 1000) : ∀ (d i : Nat) (acc : List Int), i + 2 * d = x.length → acc.length + d ≤ 1000 → Ev (fun k => spec_l12Up.l0 k x acc i) (acc ++ ups (x.drop i))
  | 0, i, acc, hi, ha => by
    rw [List.drop_eq_nil_of_le (by omega)]
    simp only [ups, List.append_nil]
    refine Ev.succ ?_
    simp only [spec_l12Up.l0]
    exact Ev.neg (by omega) (Ev.now _)
  | d + 1, i, acc, hi, ha => by
    rw [ups_drop (by omega)]
    have e := spair (rd x (i : Int)) (rd x ((i + 1 : Nat) : Int)) (h i (by omega)) (h (i + 1) (by omega))
    have ih := sup_l0 x h hx d (i + 2) (acc ++ [pr (rd x (i : Int)) (rd x ((i + 1 : Nat) : Int))]) (by omega) (by simp; omega)
    rw [List.append_assoc] at ih
    refine Ev.succ ?_
    simp only [spec_l12Up.l0]
    rw [w64 (x := (i : Int) + 1) (by omega) (by omega), w64 (x := (i : Int) + 2) (by omega) (by omega), cast_succ, show (i : Int) + 2 = ((i + 2 : Nat) : Int) by omega]
    exact Ev.pos (by omega) (Ev.pos (by omega) (Ev.pos (by omega) (Ev.pos (by omega) (Ev.bind e (Ev.pos (by omega) ih)))))
theorem sup (x : List Int) (h : all64 x) (n : Nat) (hx : x.length = 2 * n) (hn : n ≤ 500) : Ev (fun k => spec_l12Up.f k x) (ups x) := by
  unfold spec_l12Up.f
  exact sup_l0 x h (by omega) n 0 [] (by omega) (by simp; omega)
def upn : Nat → List Int → List Int
  | 0, x => x
  | n + 1, x => upn n (ups x)
theorem upn_succ : ∀ (n : Nat) (x : List Int), upn (n + 1) x = ups (upn n x)
  | 0, x => rfl
  | n + 1, x => by rw [upn, upn_succ n (ups x)]; rfl
theorem upn_len : ∀ (n m : Nat) (x : List Int), x.length = 2 ^ (n + m) → (upn n x).length = 2 ^ m
  | 0, m, x, h => by simpa [upn] using h
  | n + 1, m, x, h => upn_len n m (ups x) (ups_len _ x (by rw [h, show n + 1 + m = (n + m) + 1 by omega, Nat.pow_succ]; omega))
theorem upn_64 : ∀ (n : Nat) (x : List Int), all64 x → all64 (upn n x)
  | 0, x, h => h
  | n + 1, x, h => upn_64 n (ups x) (all64_iff.2 (ups_64 _ x (Nat.le_refl _)))
theorem row_len (l : List S52) (i d : Nat) (h : i + d = 8) : (upn i (rowF l)).length = 2 ^ d := upn_len i d (rowF l) (by rw [rowF_len, h])
theorem xor_all : ∀ a : Fin 256, Go.bits .xor .i64 ((a.val : Nat) : Int) 1 = ((a.val ^^^ 1 : Nat) : Int) := by decide +kernel
theorem xor_at (a : Nat) (h : a ≤ 255) : Go.bits .xor .i64 (a : Int) 1 = ((a ^^^ 1 : Nat) : Int) := xor_all ⟨a, by omega⟩
theorem div_le (a i : Nat) (h : a ≤ 255) : a / 2 ^ i ≤ 255 := Nat.le_trans (Nat.div_le_self _ _) h
theorem small {n : Nat} (h : n ≤ 255) : wrap64 (n : Int) = n := w64 (by omega) (by omega)
theorem beside_lt (a i d : Nat) (h : a ≤ 255) (hd : i + (d + 1) = 8) : (a / 2 ^ i) ^^^ 1 < 2 ^ (d + 1) := by
  have h1 : a / 2 ^ i < 2 ^ (d + 1) := Nat.div_lt_of_lt_mul (by rw [← Nat.pow_add, hd]; omega)
  exact Nat.xor_lt_two_pow h1 (by have : 1 ≤ 2 ^ d := Nat.one_le_two_pow; rw [Nat.pow_succ]; omega)
/-- The numbers beside a place on its way up, from step i on. -/
def wayF (R : List Int) (a : Nat) : Nat → Nat → List Int
  | 0, _ => []
  | d + 1, i => rd (upn i R) (((a / 2 ^ i) ^^^ 1 : Nat) : Int) :: wayF R a d (i + 1)
theorem wayF_len (R : List Int) (a : Nat) : ∀ d i, (wayF R a d i).length = d
  | 0, i => rfl
  | d + 1, i => by simp [wayF, wayF_len R a d]
theorem and255 (n : Int) : 0 ≤ Go.bits .and .i64 n 255 ∧ Go.bits .and .i64 n 255 ≤ 255 := by
  have h : (BitVec.ofInt 64 255).toNat = 2 ^ 8 - 1 := by decide
  have key : (BitVec.ofInt 64 n &&& BitVec.ofInt 64 255).toNat = (n % ((2 ^ 64 : Nat) : Int)).toNat % 2 ^ 8 := by
    rw [BitVec.toNat_and, BitVec.toNat_ofInt, h, Nat.and_two_pow_sub_one_eq_mod]
  have e : Go.bits .and .i64 n 255 = IntKind.i64.wrap ((BitVec.ofInt 64 n &&& BitVec.ofInt 64 255).toNat : Nat) := rfl
  rw [e, key, IntKind.wrap_i64]
  omega
theorem new_l0 (x0 : List Int) : ∀ (d k : Nat) (x3 x4 : Int), 0 ≤ x4 → x4 ≤ (x0.length : Int) → (x0.length : Int) - x4 = d → d < k → (x0.length : Int) < 9223372036854775807 → ∃ h, spec_l1New.l0 k x0 x3 x4 = some (x0, 0, h)
  | 0, k, x3, x4, h0, h1, h2, h3, h4 => by
    obtain ⟨k, rfl⟩ : ∃ m, k = m + 1 := ⟨k - 1, by omega⟩
    simp only [spec_l1New.l0]
    rw [if_neg (by omega)]
    exact ⟨_, rfl⟩
  | d + 1, k, x3, x4, h0, h1, h2, h3, h4 => by
    obtain ⟨k, rfl⟩ : ∃ m, k = m + 1 := ⟨k - 1, by omega⟩
    simp only [spec_l1New.l0]
    rw [if_pos (by omega), if_pos h0, w64 (x := x4 + 1) (by omega) (by omega)]
    exact new_l0 x0 d k _ _ (by omega) (by omega) (by omega) (by omega) h4
theorem new_l0_same (x0 : List Int) : ∀ (k k' : Nat) (x3 x4 : Int) (r r'), spec_l1New.l0 k x0 x3 x4 = some r → spec_l1New.l0 k' x0 x3 x4 = some r' → r = r'
  | 0, _, _, _, _, _, h, _ => by simp [spec_l1New.l0] at h
  | _, 0, _, _, _, _, _, h => by simp [spec_l1New.l0] at h
  | k + 1, k' + 1, x3, x4, r, r', h, h' => by
    simp only [spec_l1New.l0] at h h'
    split at h
    · rename_i c
      rw [if_pos c] at h'
      split at h
      · rename_i c2
        rw [if_pos c2] at h'
        exact new_l0_same x0 k k' _ _ _ _ h h'
      · simp at h
    · rename_i c
      rw [if_neg c] at h'
      simp_all
theorem new_ev (x0 : List Int) (hl : (x0.length : Int) < 9223372036854775807) : ∃ h, Ev (fun k => spec_l1New.f k x0) (x0, 0, h) := by
  obtain ⟨h, e⟩ := new_l0 x0 x0.length (x0.length + 1) (wrap64 (111029 + (x0.length : Int))) 0 (by omega) (by omega) (by omega) (by omega) hl
  refine ⟨h, x0.length + 1, fun k hk => ?_⟩
  obtain ⟨h', e'⟩ := new_l0 x0 x0.length k (wrap64 (111029 + (x0.length : Int))) 0 (by omega) (by omega) (by omega) (by omega) hl
  show spec_l1New.l0 k x0 (wrap64 (111029 + (x0.length : Int))) 0 = some (x0, 0, h)
  rw [e', ← new_l0_same _ _ _ _ _ _ _ e e']
theorem byte_some (l : List Int) (hl : (l.length : Int) < 9223372036854775807) (i h : Int) (h0 : 0 ≤ i) (h1 : i ≤ l.length) : ∃ b i' h', spec_l1Byte.f l i h = some (b, i', h') ∧ 0 ≤ b ∧ b ≤ 255 ∧ 0 ≤ i' ∧ i' ≤ l.length := by
  unfold spec_l1Byte.f
  by_cases hlt : i < (l.length : Int)
  · rw [if_pos hlt, if_pos h0]
    exact ⟨_, _, _, rfl, (and255 _).1, (and255 _).2, by rw [w64 (by omega) (by omega)]; omega, by rw [w64 (by omega) (by omega)]; omega⟩
  · rw [if_neg hlt]
    exact ⟨_, _, _, rfl, (and255 _).1, (and255 _).2, h0, h1⟩
theorem tmod_in {a b : Int} (h0 : 0 ≤ a) (h1 : 0 < b) : 0 ≤ Int.tmod a b ∧ Int.tmod a b < b := by
  rw [Int.tmod_eq_emod_of_nonneg h0]
  exact ⟨Int.emod_nonneg _ (by omega), Int.emod_lt_of_pos _ h1⟩
theorem below_some (l : List Int) (hl : (l.length : Int) < 9223372036854775807) (i h n : Int) (h0 : 0 ≤ i) (h1 : i ≤ l.length) : ∃ b i' h', spec_l1Below.f l i h n = some (b, i', h') ∧ 0 ≤ b ∧ (0 < n → b < n) ∧ (n ≤ 0 → b = 0) ∧ 0 ≤ i' ∧ i' ≤ l.length := by
  unfold spec_l1Below.f
  by_cases hn : n ≤ 0
  · rw [if_pos hn]
    exact ⟨_, _, _, rfl, by omega, by omega, fun _ => rfl, h0, h1⟩
  · rw [if_neg hn]
    by_cases hn2 : n ≤ 256
    · rw [if_pos hn2]
      obtain ⟨b, i', h', e, hb0, hb1, hi0, hi1⟩ := byte_some l hl i h h0 h1
      rw [e]
      simp only [Option.bind_some]
      rw [if_neg (by omega)]
      have := tmod_in hb0 (b := n) (by omega)
      exact ⟨_, _, _, rfl, this.1, fun _ => this.2, by omega, hi0, hi1⟩
    · rw [if_neg hn2]
      obtain ⟨b1, i1, h1', e1, _, _, hi0, hi1⟩ := byte_some l hl i h h0 h1
      obtain ⟨b2, i2, h2', e2, _, _, hi0, hi1⟩ := byte_some l hl i1 h1' hi0 hi1
      obtain ⟨b3, i3, h3', e3, _, _, hi0, hi1⟩ := byte_some l hl i2 h2' hi0 hi1
      obtain ⟨b4, i4, h4', e4, _, _, hi0, hi1⟩ := byte_some l hl i3 h3' hi0 hi1
      rw [e1]; simp only [Option.bind_some]
      rw [e2]; simp only [Option.bind_some]
      rw [e3]; simp only [Option.bind_some]
      rw [e4]; simp only [Option.bind_some]
      rw [if_neg (by omega)]
      rw [w64 (x := b1 * 16777216) (by omega) (by omega), w64 (x := b2 * 65536) (by omega) (by omega), w64 (x := b3 * 256) (by omega) (by omega), w64 (x := b1 * 16777216 + b2 * 65536) (by omega) (by omega), w64 (x := b1 * 16777216 + b2 * 65536 + b3 * 256) (by omega) (by omega), w64 (x := b1 * 16777216 + b2 * 65536 + b3 * 256 + b4) (by omega) (by omega)]
      have := tmod_in (a := b1 * 16777216 + b2 * 65536 + b3 * 256 + b4) (by omega) (b := n) (by omega)
      exact ⟨_, _, _, rfl, this.1, fun _ => this.2, by omega, hi0, hi1⟩
theorem once_some (l : List Int) (hl : (l.length : Int) < 9223372036854775807) (i h n : Int) (h0 : 0 ≤ i) (h1 : i ≤ l.length) : ∃ b i' h', spec_l1Once.f l i h n = some (b, i', h') ∧ 0 ≤ i' ∧ i' ≤ l.length := by
  obtain ⟨b, i', h', e, _, _, _, a, c⟩ := below_some l hl i h n h0 h1
  exact ⟨_, _, _, by unfold spec_l1Once.f; rw [e]; rfl, a, c⟩

theorem leaves_l0 (l : List S52) (hl : l.length ≤ 1000) : ∀ (d i : Nat), i + d = l.length → ∃ r, Ev (fun k => spec_LeavesOk.l0 k l i) r ∧ (r = true → ∀ j, i ≤ j → j < l.length → (0 ≤ (l.getD j z52).f0 ∧ (l.getD j z52).f0 ≤ 255) ∧ (0 ≤ (l.getD j z52).f1 ∧ (l.getD j z52).f1 ≤ 1000000000) ∧ (0 < j → (l.getD (j - 1) z52).f0 < (l.getD j z52).f0))
  | 0, i, hi => by
    refine ⟨true, Ev.succ ?_, fun _ j a b => absurd b (by omega)⟩
    simp only [spec_LeavesOk.l0]
    exact Ev.neg (by omega) (Ev.now _)
  | d + 1, i, hi => by
    obtain ⟨r, h1, h3⟩ := leaves_l0 l hl d (i + 1) (by omega)
    have key : ∃ r, Ev (fun k => spec_LeavesOk.l0 (k + 1) l i) r ∧ (r = true → ∀ j, i ≤ j → j < l.length → (0 ≤ (l.getD j z52).f0 ∧ (l.getD j z52).f0 ≤ 255) ∧ (0 ≤ (l.getD j z52).f1 ∧ (l.getD j z52).f1 ≤ 1000000000) ∧ (0 < j → (l.getD (j - 1) z52).f0 < (l.getD j z52).f0)) := by
      simp only [spec_LeavesOk.l0, rd_nat, in_eq, spec_l12Value.f, Option.bind_some]
      rw [w64 (x := (i : Int) + 1) (by omega) (by omega), cast_succ]
      by_cases c1 : 0 ≤ (l.getD i z52).f0 ∧ (l.getD i z52).f0 ≤ 255
      · by_cases c2 : 0 ≤ (l.getD i z52).f1 ∧ (l.getD i z52).f1 ≤ 1000000000
        · rw [decide_eq_true c1, decide_eq_true c2]
          by_cases h0 : (i : Int) > 0
          · have w : wrap64 ((i : Int) - 1) = ((i - 1 : Nat) : Int) := by rw [w64 (by omega) (by omega)]; omega
            rw [w]
            simp only [rd_nat]
            by_cases c3 : (l.getD i z52).f0 ≤ (l.getD (i - 1) z52).f0
            · exact ⟨false, Ev.pos (by omega) (Ev.pos (by omega) (Ev.pos (by simp) (Ev.pos (by simp) (Ev.pos h0 (Ev.pos (by omega) (Ev.pos (by omega) (Ev.pos c3 (Ev.now _)))))))), fun z => by simp at z⟩
            · refine ⟨r, Ev.pos (by omega) (Ev.pos (by omega) (Ev.pos (by simp) (Ev.pos (by simp) (Ev.pos h0 (Ev.pos (by omega) (Ev.pos (by omega) (Ev.neg c3 h1))))))), fun z j j1 j2 => ?_⟩
              by_cases e : j = i
              · subst e; exact ⟨c1, c2, fun _ => by omega⟩
              · exact h3 z j (by omega) j2
          · refine ⟨r, Ev.pos (by omega) (Ev.pos (by omega) (Ev.pos (by simp) (Ev.pos (by simp) (Ev.neg h0 h1)))), fun z j j1 j2 => ?_⟩
            by_cases e : j = i
            · subst e; exact ⟨c1, c2, fun h => absurd h (by omega)⟩
            · exact h3 z j (by omega) j2
        · rw [decide_eq_true c1, decide_eq_false c2]
          exact ⟨false, Ev.pos (by omega) (Ev.pos (by omega) (Ev.pos (by simp) (Ev.neg (by simp) (Ev.now _)))), fun z => by simp at z⟩
      · rw [decide_eq_false c1]
        exact ⟨false, Ev.pos (by omega) (Ev.pos (by omega) (Ev.neg (by simp) (Ev.now _))), fun z => by simp at z⟩
    obtain ⟨r, k1, k3⟩ := key
    exact ⟨r, Ev.succ k1, k3⟩
theorem leaves_ev (l : List S52) (hl : l.length ≤ 1000) : ∃ r, Ev (fun k => spec_LeavesOk.f k l) r ∧ (r = true → LOk l) := by
  obtain ⟨r, h1, h3⟩ := leaves_l0 l hl l.length 0 (by omega)
  exact ⟨r, h1, fun z j jl => h3 z j (by omega) jl⟩
theorem way_l0 (l : List S52) (a : Nat) (ha : a ≤ 255) : ∀ (d i : Nat) (acc : List Int), i + d = 8 → acc.length ≤ i →
    Ev (fun k => spec_Way.l0 k ((a / 2 ^ i : Nat) : Int) acc (upn i (rowF l))) (acc ++ wayF (rowF l) a d i)
  | 0, i, acc, hi, hc => by
    have hn := row_len l i 0 hi
    simp only [wayF, List.append_nil]
    refine Ev.succ ?_
    simp only [spec_Way.l0]
    exact Ev.neg (by rw [hn]; decide) (Ev.now _)
  | d + 1, i, acc, hi, hc => by
    have hn := row_len l i (d + 1) hi
    have hp : 2 ^ (d + 1) = 2 * 2 ^ d := by rw [Nat.pow_succ]; omega
    have h1 : 1 ≤ 2 ^ d := Nat.one_le_two_pow
    have hb : 2 ^ d ≤ 2 ^ 7 := Nat.pow_le_pow_right (by omega) (by omega)
    have hx := xor_at (a / 2 ^ i) (div_le a i ha)
    have hlt := beside_lt a i d ha hi
    have j1 := way_l0 l a ha d (i + 1) (acc ++ [rd (upn i (rowF l)) (((a / 2 ^ i) ^^^ 1 : Nat) : Int)]) (by omega) (by simp; omega)
    rw [List.append_assoc] at j1
    refine Ev.succ ?_
    simp only [spec_Way.l0, hx]
    rw [half, small (div_le a (i + 1) ha)]
    rw [upn_succ] at j1
    exact Ev.pos (by omega) (Ev.pos (by omega) (Ev.pos (by omega) (Ev.pos (by omega) (Ev.bind (sup (upn i (rowF l)) (upn_64 i _ (rowF_64 l)) (2 ^ d) (by omega) (by omega)) j1))))
theorem rd_64 {x : List Int} (h : ∀ y, y ∈ x → i64_ y) (b : Int) : i64_ (rd x b) := by
  have e : rd x b = x.getD b.toNat 0 := rfl
  rw [e, List.getD_eq_getElem?_getD]
  cases hh : x[b.toNat]? with
  | none => exact ⟨by decide, by decide⟩
  | some y => exact h y (List.mem_of_getElem? hh)
theorem wayF_64 (R : List Int) (a : Nat) (hR : all64 R) : ∀ d i, ∀ y, y ∈ wayF R a d i → i64_ y
  | 0, i, y, h => by simp [wayF] at h
  | d + 1, i, y, h => by
    simp only [wayF, List.mem_cons] at h
    rcases h with rfl | h
    · exact rd_64 (all64_iff.1 (upn_64 i R hR)) _
    · exact wayF_64 R a hR d (i + 1) y h
theorem way_ev (l : List S52) (a : Int) (hl : l.length ≤ 1000) : ∃ out, out.length ≤ 8 ∧ (∀ y, y ∈ out → i64_ y) ∧ Ev (fun k => spec_Way.f k l a) out := by
  obtain ⟨r, e1, e3⟩ := leaves_ev l hl
  unfold spec_Way.f
  simp only [in_eq, Option.bind_some]
  have no1 : Ev (fun k => spec_Way.j0 k l a [] true) [] := Ev.succ (by simp only [spec_Way.j0]; exact Ev.pos (by simp) (Ev.now _))
  cases r with
  | false => exact ⟨[], by simp, by simp, Ev.bind e1 (Ev.neg (by simp) no1)⟩
  | true =>
    have h := e3 rfl
    by_cases c : 0 ≤ a ∧ a ≤ 255
    · rw [decide_eq_true c]
      obtain ⟨n, rfl⟩ := Int.eq_ofNat_of_zero_le c.1
      have j1 := way_l0 l n (by omega) 8 0 [] rfl (by simp)
      refine ⟨wayF (rowF l) n 8 0, by rw [wayF_len]; exact Nat.le_refl _, wayF_64 _ _ (rowF_64 l) _ _, Ev.bind e1 (Ev.pos (by simp) (Ev.succ ?_))⟩
      simp only [spec_Way.j0]
      exact Ev.neg (by simp) (Ev.bind (srow l h (by omega)) (by simpa [upn] using j1))
    · rw [decide_eq_false c]
      exact ⟨[], by simp, by simp, Ev.bind e1 (Ev.pos (by simp) no1)⟩
theorem set_l0 (x : List S52) (hx : x.length ≤ 100) (a v : Int) : ∀ (d i : Nat) (out : List S52) (put : Bool), i + d = x.length → out.length + d + (if put = true then 0 else 1) ≤ x.length + 1 → ∃ y, Ev (fun k => spec_Set.l0 k x a v out put i) y ∧ y.length ≤ x.length + 1
  | 0, i, out, put, hi, hb => by
    cases put with
    | true =>
      simp only [if_true] at hb
      refine ⟨out, Ev.succ ?_, by omega⟩
      simp only [spec_Set.l0]
      exact Ev.neg (by omega) (Ev.pos (by simp) (Ev.now _))
    | false =>
      simp only [Bool.false_eq_true, if_false] at hb
      refine ⟨out ++ [(⟨a, v⟩ : S52)], Ev.succ ?_, by simp; omega⟩
      simp only [spec_Set.l0]
      exact Ev.neg (by omega) (Ev.neg (by simp) (Ev.pos (by omega) (Ev.now _)))
  | d + 1, i, out, put, hi, hb => by
    have w : wrap64 ((i : Int) + 1) = ((i + 1 : Nat) : Int) := by rw [w64 (by omega) (by omega), cast_succ]
    have no : (put = true ∨ put = false) → ∃ y, Ev (fun k => spec_Set.j2 k x a v out put i false) y ∧ y.length ≤ x.length + 1 := by
      intro _
      by_cases e : (rd_T52 x (i : Int)).f0 = a
      · obtain ⟨y, h, hy⟩ := set_l0 x hx a v d (i + 1) out put (by omega) (by omega)
        refine ⟨y, Ev.succ ?_, hy⟩
        simp only [spec_Set.j2, w]
        exact Ev.neg (by simp) (Ev.pos (by omega) (Ev.pos (by omega) (Ev.pos e h)))
      · obtain ⟨y, h, hy⟩ := set_l0 x hx a v d (i + 1) (out ++ [(⟨(rd_T52 x (i : Int)).f0, (rd_T52 x (i : Int)).f1⟩ : S52)]) put (by omega) (by simp; omega)
        refine ⟨y, Ev.succ ?_, hy⟩
        simp only [spec_Set.j2, w]
        exact Ev.neg (by simp) (Ev.pos (by omega) (Ev.pos (by omega) (Ev.neg e (Ev.pos (by omega) h))))
    cases put with
    | true =>
      obtain ⟨y, h, hy⟩ := no (Or.inl rfl)
      refine ⟨y, Ev.succ ?_, hy⟩
      simp only [spec_Set.l0]
      exact Ev.pos (by omega) (Ev.pos (by simp) h)
    | false =>
      by_cases g : (rd_T52 x (i : Int)).f0 ≥ a
      · simp only [Bool.false_eq_true, if_false] at hb
        have key : ∃ y, Ev (fun k => spec_Set.j2 k x a v out false i true) y ∧ y.length ≤ x.length + 1 := by
          by_cases e : (rd_T52 x (i : Int)).f0 = a
          · obtain ⟨y, h, hy⟩ := set_l0 x hx a v d (i + 1) (out ++ [(⟨a, v⟩ : S52)]) true (by omega) (by simp; omega)
            refine ⟨y, Ev.succ ?_, hy⟩
            simp only [spec_Set.j2, w, Option.bind_some]
            exact Ev.pos (by simp) (Ev.pos (by omega) (Ev.pos (by omega) (Ev.pos (by omega) (Ev.pos e h))))
          · obtain ⟨y, h, hy⟩ := set_l0 x hx a v d (i + 1) ((out ++ [(⟨a, v⟩ : S52)]) ++ [(⟨(rd_T52 x (i : Int)).f0, (rd_T52 x (i : Int)).f1⟩ : S52)]) true (by omega) (by simp; omega)
            refine ⟨y, Ev.succ ?_, hy⟩
            simp only [spec_Set.j2, w, Option.bind_some]
            exact Ev.pos (by simp) (Ev.pos (by omega) (Ev.pos (by omega) (Ev.pos (by omega) (Ev.neg e (Ev.pos (by simp; omega) h)))))
        obtain ⟨y, h, hy⟩ := key
        refine ⟨y, Ev.succ ?_, hy⟩
        simp only [spec_Set.l0, decide_eq_true g]
        exact Ev.pos (by omega) (Ev.neg (by simp) (Ev.pos (by omega) h))
      · obtain ⟨y, h, hy⟩ := no (Or.inr rfl)
        refine ⟨y, Ev.succ ?_, hy⟩
        simp only [spec_Set.l0, decide_eq_false g]
        exact Ev.pos (by omega) (Ev.neg (by simp) (Ev.pos (by omega) h))
theorem set_ev (x : List S52) (hx : x.length ≤ 100) (a v : Int) : ∃ y, Ev (fun k => spec_Set.f k x a v) y ∧ y.length ≤ x.length + 1 := by
  obtain ⟨r, e1, _⟩ := leaves_ev x (by omega)
  have bad : ∃ y, Ev (fun k => spec_Set.j0 k x a v [] true) y ∧ y.length ≤ x.length + 1 := by
    refine ⟨[], Ev.succ ?_, by simp⟩
    simp only [spec_Set.j0]
    exact Ev.pos (by simp) (Ev.now _)
  have good : ∃ y, Ev (fun k => spec_Set.j0 k x a v [] false) y ∧ y.length ≤ x.length + 1 := by
    obtain ⟨y, h, hy⟩ := set_l0 x hx a v x.length 0 [] (v == -1) (by omega) (by split <;> simp)
    refine ⟨y, Ev.succ ?_, hy⟩
    simp only [spec_Set.j0]
    exact Ev.neg (by simp) h
  unfold spec_Set.f spec_l12Value.f
  simp only [in_eq, Option.bind_some]
  cases r with
  | false =>
    obtain ⟨y, h, hy⟩ := bad
    exact ⟨y, Ev.bind e1 (Ev.neg (by simp) h), hy⟩
  | true =>
    by_cases c : 0 ≤ a ∧ a ≤ 255
    · rw [decide_eq_true c]
      by_cases e : v = -1
      · obtain ⟨y, h, hy⟩ := good
        exact ⟨y, Ev.bind e1 (Ev.pos (by simp) (Ev.pos (by simp) (Ev.pos e h))), hy⟩
      · by_cases g : 0 ≤ v ∧ v ≤ 1000000000
        · rw [decide_eq_true g]
          obtain ⟨y, h, hy⟩ := good
          exact ⟨y, Ev.bind e1 (Ev.pos (by simp) (Ev.pos (by simp) (Ev.neg e h))), hy⟩
        · rw [decide_eq_false g]
          obtain ⟨y, h, hy⟩ := bad
          exact ⟨y, Ev.bind e1 (Ev.pos (by simp) (Ev.pos (by simp) (Ev.neg e h))), hy⟩
    · rw [decide_eq_false c]
      obtain ⟨y, h, hy⟩ := bad
      exact ⟨y, Ev.bind e1 (Ev.pos (by simp) (Ev.neg (by simp) h)), hy⟩
theorem at_some (l : List Int) (hl : (l.length : Int) < 9223372036854775807) (i h : Int) (h0 : 0 ≤ i) (h1 : i ≤ l.length) : ∃ b i' h', spec_l12DrawAt.f l i h = some (b, i', h') ∧ 0 ≤ i' ∧ i' ≤ l.length := by
  unfold spec_l12DrawAt.f
  obtain ⟨b1, i1, h1', e1, a1, c1⟩ := once_some l hl i h 10 h0 h1
  rw [e1]
  simp only [Option.bind_some]
  cases b1 with
  | true =>
    obtain ⟨b2, i2, h2, e2, p2, q2, _, a2, c2⟩ := below_some l hl i1 h1' 5 a1 c1
    have := q2 (by omega)
    simp only [if_true, e2, Option.bind_some]
    rw [if_pos p2, if_pos (by simp; omega)]
    exact ⟨_, _, _, rfl, a2, c2⟩
  | false =>
    obtain ⟨b2, i2, h2, e2, _, _, _, a2, c2⟩ := below_some l hl i1 h1' 256 a1 c1
    obtain ⟨b3, i3, h3, e3, p3, q3, _, a3, c3⟩ := below_some l hl i2 h2 5 a2 c2
    have := q3 (by omega)
    simp only [Bool.false_eq_true, if_false, e2, e3, Option.bind_some]
    rw [if_pos p3, if_pos (by simp; omega)]
    exact ⟨_, _, _, rfl, a3, c3⟩
theorem value_some (l : List Int) (hl : (l.length : Int) < 9223372036854775807) (i h : Int) (h0 : 0 ≤ i) (h1 : i ≤ l.length) : ∃ b i' h', spec_l12DrawValue.f l i h = some (b, i', h') ∧ i64_ b ∧ 0 ≤ i' ∧ i' ≤ l.length := by
  unfold spec_l12DrawValue.f
  obtain ⟨b1, i1, h1', e1, a1, c1⟩ := once_some l hl i h 10 h0 h1
  rw [e1]
  simp only [Option.bind_some]
  cases b1 with
  | true =>
    obtain ⟨b2, i2, h2, e2, p2, q2, _, a2, c2⟩ := below_some l hl i1 h1' 6 a1 c1
    have := q2 (by omega)
    simp only [if_true, e2, Option.bind_some]
    rw [if_pos p2, if_pos (by simp; omega)]
    refine ⟨_, _, _, rfl, rd_64 (fun y hy => ?_) _, a2, c2⟩
    simp only [List.mem_cons, List.not_mem_nil, or_false] at hy
    omega
  | false =>
    obtain ⟨b2, i2, h2, e2, p2, q2, _, a2, c2⟩ := below_some l hl i1 h1' 9000 a1 c1
    have := q2 (by omega)
    obtain ⟨b3, i3, h3, e3, p3, q3, _, a3, c3⟩ := below_some l hl i2 h2 4 a2 c2
    have := q3 (by omega)
    simp only [Bool.false_eq_true, if_false, e2, e3, Option.bind_some]
    rw [if_pos p3, if_pos (by simp; omega)]
    refine ⟨_, _, _, rfl, rd_64 (fun y hy => ?_) _, a3, c3⟩
    simp only [List.mem_cons, List.not_mem_nil, or_false] at hy
    omega
theorem draw_j1 (l : List Int) (hl : (l.length : Int) < 9223372036854775807) (x : List S52) (hx : x.length ≤ 99) (b : Bool) (hb : b = true → 0 < x.length) (i h : Int) (h0 : 0 ≤ i) (h1 : i ≤ l.length) : ∃ y i' h', Ev (fun k => spec_l12Draw.j1 k x b l i h) (y, i', h') ∧ y.length ≤ 99 ∧ 0 ≤ i' ∧ i' ≤ l.length := by
  cases b with
  | false =>
    refine ⟨x, i, h, Ev.succ ?_, hx, h0, h1⟩
    simp only [spec_l12Draw.j1]
    exact Ev.neg (by simp) (Ev.now _)
  | true =>
    have hx0 := hb rfl
    obtain ⟨b1, i1, h1', e1, p1, q1, _, a1, c1⟩ := below_some l hl i h (x.length : Int) h0 h1
    have := q1 (by omega)
    obtain ⟨b2, i2, h2', e2, p2, q2, _, a2, c2⟩ := below_some l hl i1 h1' 2 a1 c1
    have := q2 (by omega)
    by_cases d0 : b2 = 0
    · obtain ⟨b3, i3, h3', e3, a3, c3⟩ := at_some l hl i2 h2' a2 c2
      refine ⟨x.set b1.toNat ⟨b3, (rd_T52 x b1).f1⟩, i3, h3', Ev.succ ?_, ?_, a3, c3⟩
      · simp only [spec_l12Draw.j1, e1, e2, e3, Option.bind_some]
        exact Ev.pos (by simp) (Ev.pos (by omega) (Ev.pos (by omega) (Ev.pos d0 (Ev.now _))))
      · simpa using hx
    · obtain ⟨b3, i3, h3', e3, _, a3, c3⟩ := value_some l hl i2 h2' a2 c2
      refine ⟨x.set b1.toNat ⟨(rd_T52 x b1).f0, b3⟩, i3, h3', Ev.succ ?_, ?_, a3, c3⟩
      · simp only [spec_l12Draw.j1, e1, e2, e3, Option.bind_some]
        exact Ev.pos (by simp) (Ev.pos (by omega) (Ev.pos (by omega) (Ev.neg d0 (Ev.pos (by omega) (Ev.now _)))))
      · simpa using hx
theorem draw_l0 (l : List Int) (hl : (l.length : Int) < 9223372036854775807) : ∀ (d : Nat) (x : List S52) (i h : Int), x.length + d ≤ 99 → 0 ≤ i → i ≤ l.length → ∃ y i' h', Ev (fun k => spec_l12Draw.l0 k x d l i h) (y, i', h') ∧ y.length ≤ 99 ∧ 0 ≤ i' ∧ i' ≤ l.length
  | 0, x, i, h, hd, h0, h1 => by
    obtain ⟨b, i1, h1', e1, a1, c1⟩ := once_some l hl i h 12 h0 h1
    obtain ⟨y, i2, h2, e, z, a, c⟩ := draw_j1 l hl x (by omega) (b && decide ((x.length : Int) > 0)) (by simp) i1 h1' a1 c1
    refine ⟨y, i2, h2, Ev.succ ?_, z, a, c⟩
    simp only [spec_l12Draw.l0, e1, Option.bind_some]
    cases b with
    | true => exact Ev.neg (by omega) (Ev.pos (by simp) (by simpa using e))
    | false => exact Ev.neg (by omega) (Ev.neg (by simp) (by simpa using e))
  | d + 1, x, i, h, hd, h0, h1 => by
    obtain ⟨b, i1, h1', e1, a1, c1⟩ := at_some l hl i h h0 h1
    obtain ⟨v, i2, h2, e2, _, a2, c2⟩ := value_some l hl i1 h1' a1 c1
    obtain ⟨t, o1, ht⟩ := set_ev x (by omega) b v
    have w : wrap64 (((d + 1 : Nat) : Int) - 1) = (d : Int) := by rw [w64 (by omega) (by omega)]; omega
    by_cases g : (t.length : Int) > 0
    · obtain ⟨y, i3, h3, e, z, a, c⟩ := draw_l0 l hl d t i2 h2 (by omega) a2 c2
      refine ⟨y, i3, h3, Ev.succ ?_, z, a, c⟩
      simp only [spec_l12Draw.l0, e1, e2, Option.bind_some, w]
      exact Ev.pos (by omega) (Ev.bind o1 (Ev.pos g e))
    · obtain ⟨y, i3, h3, e, z, a, c⟩ := draw_l0 l hl d x i2 h2 (by omega) a2 c2
      refine ⟨y, i3, h3, Ev.succ ?_, z, a, c⟩
      simp only [spec_l12Draw.l0, e1, e2, Option.bind_some, w]
      exact Ev.pos (by omega) (Ev.bind o1 (Ev.neg g e))
theorem draw_ev (l : List Int) (hl : (l.length : Int) < 9223372036854775807) (i h : Int) (h0 : 0 ≤ i) (h1 : i ≤ l.length) : ∃ y i' h', Ev (fun k => spec_l12Draw.f k l i h) (y, i', h') ∧ y.length ≤ 99 ∧ 0 ≤ i' ∧ i' ≤ l.length := by
  obtain ⟨b, i1, h1', e1, b0, b1, _, a1, c1⟩ := below_some l hl i h 8 h0 h1
  obtain ⟨d, rfl⟩ := Int.eq_ofNat_of_zero_le b0
  have := b1 (by omega)
  obtain ⟨y, i2, h2, e, z, a, c⟩ := draw_l0 l hl d [] i1 h1' (by simp; omega) a1 c1
  refine ⟨y, i2, h2, ?_, z, a, c⟩
  unfold spec_l12Draw.f
  rw [e1]
  exact e
def RowOk (w : List Int) : Prop := w.length ≤ 8 ∧ ∀ y, y ∈ w → i64_ y
theorem ok64 {x : Int} (h : i64_ x) : okInt .i64 x := by
  show (Lit.int .i64 x).wf = true
  simp [Lit.wf, IntKind.min, IntKind.max, IntKind.bits, IntKind.signed]
  exact ⟨by have := h.1; omega, by have := h.2; omega⟩
theorem RowOk.ok {w : List Int} (h : RowOk w) : okList (okInt .i64) w := ⟨by have := h.1; omega, fun x hx => ok64 (h.2 x hx)⟩
theorem DrawParted_j2 (l : List Int) (hl : (l.length : Int) < 9223372036854775807) (a : Int) (w u : List Int) (i h : Int) (h0 : 0 ≤ i) (h1 : i ≤ l.length) : ∃ v o, Ev (fun k => spec_DrawParted.j2 k a w u l i h) (a, v, w, o, u) ∧ i64_ v ∧ i64_ o := by
  obtain ⟨b, i1, h1', e1, a1, c1⟩ := once_some l hl i h 2 h0 h1
  cases b with
  | true =>
    refine ⟨102598060, 374061196, Ev.succ ?_, ⟨by decide, by decide⟩, ⟨by decide, by decide⟩⟩
    simp only [spec_DrawParted.j2, e1, Option.bind_some]
    exact Ev.pos (by simp) (Ev.now _)
  | false =>
    obtain ⟨v, i2, h2, e2, hv, a2, c2⟩ := value_some l hl i1 h1' a1 c1
    obtain ⟨o, i3, h3, e3, ho, a3, c3⟩ := value_some l hl i2 h2 a2 c2
    refine ⟨v, o, Ev.succ ?_, hv, ho⟩
    simp only [spec_DrawParted.j2, e1, e2, e3, Option.bind_some]
    exact Ev.neg (by simp) (Ev.now _)
theorem DrawParted_j1 (l : List Int) (hl : (l.length : Int) < 9223372036854775807) (a : Int) (w u : List Int) (b : Bool) (hb : b = true → 0 < u.length) (hu : RowOk u) (i h : Int) (h0 : 0 ≤ i) (h1 : i ≤ l.length) : ∃ v o u', Ev (fun k => spec_DrawParted.j1 k a w u b l i h) (a, v, w, o, u') ∧ i64_ v ∧ i64_ o ∧ RowOk u' := by
  cases b with
  | false =>
    obtain ⟨v, o, e, hv, ho⟩ := DrawParted_j2 l hl a w u i h h0 h1
    refine ⟨v, o, u, Ev.succ ?_, hv, ho, hu⟩
    simp only [spec_DrawParted.j1]
    exact Ev.neg (by simp) e
  | true =>
    have hpos := hb rfl
    obtain ⟨n, i1, h1', e1, n0, n1, _, a1, c1⟩ := below_some l hl i h 99 h0 h1
    have := n1 (by omega)
    obtain ⟨v, o, e, hv, ho⟩ := DrawParted_j2 l hl a w (u.set (0 : Int).toNat n) i1 h1' a1 c1
    refine ⟨v, o, u.set (0 : Int).toNat n, Ev.succ ?_, hv, ho, by rw [List.length_set]; exact hu.1, fun y hy => ?_⟩
    · simp only [spec_DrawParted.j1, e1, Option.bind_some]
      exact Ev.pos (by simp) (Ev.pos (by omega) e)
    · rcases List.mem_or_eq_of_mem_set hy with h' | h'
      · exact hu.2 y h'
      · rw [h']; exact ⟨by omega, by omega⟩
theorem DrawParted_j0 (l : List Int) (hl : (l.length : Int) < 9223372036854775807) (x : List S52) (hx : x.length ≤ 99) (a : Int) (i h : Int) (h0 : 0 ≤ i) (h1 : i ≤ l.length) : ∃ v w o u, Ev (fun k => spec_DrawParted.j0 k x a l i h) (a, v, w, o, u) ∧ i64_ v ∧ i64_ o ∧ RowOk w ∧ RowOk u := by
  obtain ⟨w, w1, w2, e0⟩ := way_ev x a (by omega)
  obtain ⟨b, i1, h1', e1, a1, c1⟩ := once_some l hl i h 4 h0 h1
  obtain ⟨v, o, u, e, hv, ho, hu⟩ := DrawParted_j1 l hl a w ([] ++ w) (b && decide ((([] ++ w : List Int).length : Int) > 0)) (by simp) ⟨by simpa using w1, by simpa using w2⟩ i1 h1' a1 c1
  refine ⟨v, w, o, u, Ev.succ ?_, hv, ho, ⟨w1, w2⟩, hu⟩
  simp only [spec_DrawParted.j0, Option.bind_some]
  refine Ev.bind e0 (Ev.pos (by simp; omega) ?_)
  simp only [e1, Option.bind_some]
  cases b with
  | true => exact Ev.pos (by simp) (by simpa using e)
  | false => exact Ev.neg (by simp) (by simpa using e)
theorem DrawParted_ev (l : List Int) (hl : (l.length : Int) < 9223372036854775807) : ∃ a v w o u, Ev (fun k => spec_DrawParted.f k l) (a, v, w, o, u) ∧ i64_ v ∧ i64_ o ∧ RowOk w ∧ RowOk u := by
  obtain ⟨h, e0⟩ := new_ev l hl
  obtain ⟨x, i1, h1, e1, hx, a1, c1⟩ := draw_ev l hl 0 h (by omega) (by omega)
  obtain ⟨b, i2, h2, e2, a2, c2⟩ := once_some l hl i1 h1 4 a1 c1
  unfold spec_DrawParted.f
  cases b with
  | true =>
    obtain ⟨a, i3, h3, e3, a3, c3⟩ := at_some l hl i2 h2 a2 c2
    obtain ⟨v, w, o, u, e, q⟩ := DrawParted_j0 l hl x hx a i3 h3 a3 c3
    refine ⟨a, v, w, o, u, Ev.bind e0 (Ev.bind e1 ?_), q⟩
    simp only [e2, e3, Option.bind_some]
    exact Ev.pos (by simp) e
  | false =>
    obtain ⟨v, w, o, u, e, q⟩ := DrawParted_j0 l hl x hx 7 i2 h2 a2 c2
    refine ⟨7, v, w, o, u, Ev.bind e0 (Ev.bind e1 ?_), q⟩
    simp only [e2, Option.bind_some]
    exact Ev.neg (by simp) e
theorem like_l0 (x : List Int) (hx : x.length ≤ 1000) : ∀ (d i : Nat), i + d = x.length → Ev (fun k => laws_likeInts.l0 k x x i) true
  | 0, i, hi => by
    refine Ev.succ ?_
    simp only [laws_likeInts.l0]
    exact Ev.neg (by omega) (Ev.now _)
  | d + 1, i, hi => by
    have e := like_l0 x hx d (i + 1) (by omega)
    refine Ev.succ ?_
    simp only [laws_likeInts.l0]
    rw [w64 (x := (i : Int) + 1) (by omega) (by omega), cast_succ]
    exact Ev.pos (by omega) (Ev.pos (by omega) (Ev.pos (by omega) (Ev.pos (by simp) e)))
theorem like_ev (x : List Int) (hx : x.length ≤ 1000) : Ev (fun k => laws_likeInts.f k x x) true := by
  unfold laws_likeInts.f
  exact Ev.pos (by simp) (like_l0 x hx x.length 0 (by omega))
theorem parted_j0 (p q s t : Int) (h : i64_ p ∧ i64_ q ∧ i64_ s ∧ i64_ t) (hg : pr p q = pr s t ∨ (q = -1 ∧ pr s t = 0) ∨ (t = -1 ∧ pr p q = 0)) : Ev (fun k => laws_FnParted.j0 k [p, q, s, t] false) true := by
  have r0 : rd [p, q, s, t] 0 = p := rfl
  have r1 : rd [p, q, s, t] 1 = q := rfl
  have r2 : rd [p, q, s, t] 2 = s := rfl
  have r3 : rd [p, q, s, t] 3 = t := rfl
  have e1 := ipair p q h.1 h.2.1
  have e2 := ipair s t h.2.2.1 h.2.2.2
  have fin : ∀ b : Bool, b = true → Ev (fun _ => some b) true := fun b hb => by subst hb; exact Ev.now _
  refine Ev.succ ?_
  simp only [laws_FnParted.j0, r0, r1, r2, r3]
  refine Ev.neg (by simp) (Ev.pos (by simp) ?_)
  by_cases hq : q = -1
  · refine Ev.pos hq (Ev.pos (by simp) (Ev.pos (by simp) (Ev.bind e2 ?_)))
    by_cases z2 : pr s t = 0
    · exact Ev.pos z2 (Ev.now _)
    · refine Ev.neg z2 ?_
      by_cases ht : t = -1
      · refine Ev.pos ht (Ev.pos (by simp) (Ev.bind e1 ?_))
        by_cases z1 : pr p q = 0
        · exact Ev.pos z1 (Ev.now _)
        · refine Ev.neg z1 (Ev.bind e1 (Ev.bind e2 (fin _ ?_)))
          rw [beq_iff_eq]
          rcases hg with hg | hg | hg
          · exact hg
          · exact absurd hg.2 z2
          · exact absurd hg.2 z1
      · refine Ev.neg ht (Ev.pos (by simp) (Ev.bind e1 (Ev.bind e2 (fin _ ?_))))
        rw [beq_iff_eq]
        rcases hg with hg | hg | hg
        · exact hg
        · exact absurd hg.2 z2
        · exact absurd hg.1 ht
  · refine Ev.neg hq (Ev.pos (by simp) ?_)
    by_cases ht : t = -1
    · refine Ev.pos ht (Ev.pos (by simp) (Ev.bind e1 ?_))
      by_cases z1 : pr p q = 0
      · exact Ev.pos z1 (Ev.now _)
      · refine Ev.neg z1 (Ev.bind e1 (Ev.pos (by simp) (Ev.bind e2 (fin _ ?_))))
        rw [beq_iff_eq]
        rcases hg with hg | hg | hg
        · exact hg
        · exact absurd hg.1 hq
        · exact absurd hg.2 z1
    · refine Ev.neg ht (Ev.pos (by simp) (Ev.bind e1 (Ev.pos (by simp) (Ev.bind e2 (fin _ ?_)))))
      rw [beq_iff_eq]
      rcases hg with hg | hg | hg
      · exact hg
      · exact absurd hg.1 hq
      · exact absurd hg.1 ht
theorem FnParted : laws_FnParted.Pure := by
  intro l hok
  refine Ev.rounds (g := fun k => laws_FnParted.f k l) ?_
  unfold laws_FnParted.f laws_big.f
  simp only [Option.bind_some]
  refine Ev.ite (fun _ => Ev.now _) (fun hbig => ?_)
  have hl : (l.length : Int) < 9223372036854775807 := by
    simp only [decide_eq_true_eq] at hbig
    omega
  obtain ⟨a, v, w, o, u, e0, hv, ho, hw, hu⟩ := DrawParted_ev l hl
  obtain ⟨r, e1, e2, hg⟩ := parted_ev a v o w u hv ho hw.ok hu.ok
  have hlen : r.1.length ≤ 1000 := by
    rcases hg with rfl | ⟨p, q, s, t, rfl, _⟩ <;> simp
  have lk := like_ev r.1 hlen
  refine Ev.bind e0 (Ev.bind e2 (Ev.bind e1 (Ev.neg (by simp) (Ev.bind lk (Ev.pos (by simp) ?_)))))
  rcases hg with rfl | ⟨p, q, s, t, rfl, h64, hne, hp⟩
  · exact Ev.neg (by simp) (Ev.now _)
  · refine Ev.pos (by simp) (Ev.pos (by simp) (Ev.pos (by simp) (Ev.pos (by simp) ?_)))
    have r0 : rd [p, q, s, t] 0 = p := rfl
    have r1 : rd [p, q, s, t] 1 = q := rfl
    have r2 : rd [p, q, s, t] 2 = s := rfl
    have r3 : rd [p, q, s, t] 3 = t := rfl
    simp only [r0, r1, r2, r3]
    by_cases c : p = s
    · refine Ev.pos c (Ev.pos (by simp) (Ev.pos (by simp) ?_))
      have : (q == t) = false := by simpa using hne c
      rw [this]
      exact parted_j0 p q s t h64 hp
    · exact Ev.neg c (parted_j0 p q s t h64 hp)

end Go.Proofs.YtckgkhlgnblblaaDoor.Pure
