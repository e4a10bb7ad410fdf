/- Each place holds with what it has, and with another value just where two unlike pairs with one number are found. No condition. -/
import Derived.Test.YtgpofolfflfgiaaDoorBoilFnProved
namespace Go.Proofs.YtgpofolfflfgiaaDoor.Pure
open Go.RowKit Go.Proofs.YtgpofolfflfgiaaDoor.PFnProved Go.Proofs.YtgpofolfflfgiaaDoorW.PrintWords Go.Proofs.YtgpofolfflfgiaaDoorW.PrintLast Go.Proofs.YtgpofolfflfgiaaDoorW.PrintMore
set_option maxRecDepth 100000
set_option linter.unusedVariables false
set_option linter.unusedSimpArgs false
theorem bound_i64 {x : Int} (h : okInt .i64 x) : -9223372036854775808 ≤ x ∧ x ≤ 9223372036854775807 := by
  have h : (Lit.int .i64 x).wf = true := h
  simp [Lit.wf, IntKind.min, IntKind.max, IntKind.bits, IntKind.signed] at h
  omega
def bs (l : List UInt8) : ByteArray := ⟨l.toArray⟩
theorem bs_data (l : List UInt8) : (bs l).data.toList = l := by simp [bs]
theorem bs_of (s : ByteArray) : bs s.data.toList = s := by cases s; simp [bs]
theorem bs_app (a b : List UInt8) : bs a ++ bs b = bs (a ++ b) := by
  apply bytes_inj
  simp [bs, ByteArray.toList_eq, ByteArray.data_append]
theorem bs_size (l : List UInt8) : (bs l).size = l.length := by simp [bs, ByteArray.size]
theorem size_data (s : ByteArray) : s.data.toList.length = s.size := by simp only [ByteArray.size, Array.length_toList]
theorem tm_nat (m : Nat) : Int.tmod (m : Int) 10 = ((m % 10 : Nat) : Int) := rfl
theorem td_nat (m : Nat) : Int.tdiv (m : Int) 10 = ((m / 10 : Nat) : Int) := rfl
theorem dig_bytes (m : Nat) (v : Int) (s : ByteArray) (h : v = 48 + ((m % 10 : Nat) : Int)) : strOfNums [v % 256] ++ s = bs (UInt8.ofNat (48 + m % 10) :: s.data.toList) := by
  have e : (v % 256).toNat = 48 + m % 10 := by omega
  have e2 : strOfNums [v % 256] = bs [UInt8.ofNat (48 + m % 10)] := by simp [strOfNums, bs, e]
  rw [e2]
  conv => lhs; rhs; rw [← bs_of s]
  rw [bs_app]; rfl
theorem j1_step (n : Int) (s : ByteArray) (neg : Bool) (r : ByteArray) (h0 : -9223372036854775808 ≤ n) (h1 : n ≤ 9223372036854775807) (hs : s.size ≤ 1000)
    (h : Ev (fun k => spec_l2Int.l0 k (Int.tdiv n 10) (bs (UInt8.ofNat (48 + n.natAbs % 10) :: s.data.toList)) neg) r) : Ev (fun k => spec_l2Int.j1 k n s neg true) r := by
  refine Ev.succ ?_
  simp only [spec_l2Int.j1, Option.bind_some]
  refine Ev.pos (by trivial) ?_
  have sz : ∀ v : Int, (strOfNums [v]).size = 1 := fun v => by simp [strOfNums, ByteArray.size]
  simp only [sz]
  obtain ⟨m, hm | hm⟩ := Int.eq_nat_or_neg n
  · subst hm
    rw [tm_nat, td_nat] at *
    rw [Int.natAbs_natCast] at h
    refine Ev.neg (by omega) (Ev.pos (by omega) ?_)
    rw [w64 (by omega) (by omega), w64 (by omega) (by omega), dig_bytes m _ s rfl]
    exact h
  · subst hm
    rw [Int.neg_tmod, Int.neg_tdiv, tm_nat, td_nat] at *
    rw [Int.natAbs_neg, Int.natAbs_natCast] at h
    by_cases hz : m % 10 = 0
    · refine Ev.neg (by omega) (Ev.pos (by omega) ?_)
      rw [w64 (x := -((m / 10 : Nat) : Int)) (by omega) (by omega), w64 (by omega) (by omega), dig_bytes m _ s (by omega)]
      exact h
    · refine Ev.pos (by omega) (Ev.pos (by omega) ?_)
      rw [w64 (x := -((m / 10 : Nat) : Int)) (by omega) (by omega), w64 (x := -(-((m % 10 : Nat) : Int))) (by omega) (by omega), w64 (by omega) (by omega), dig_bytes m _ s (by omega)]
      exact h
def fin (neg : Bool) (s : ByteArray) : ByteArray := if neg = true then (⟨#[45]⟩ : ByteArray) ++ s else s
theorem l0_end (s : ByteArray) (neg : Bool) (h : s.toList ≠ []) (hs : s.size ≤ 1002) : Ev (fun k => spec_l2Int.l0 k 0 s neg) (fin neg s) := by
  refine Ev.succ ?_
  simp only [spec_l2Int.l0]
  refine Ev.neg h (Ev.succ ?_)
  simp only [spec_l2Int.j1, fin]
  refine Ev.neg (by simp) ?_
  cases neg with
  | true => exact Ev.pos rfl (Ev.pos (by omega) (Ev.now _))
  | false => exact Ev.neg (by decide) (Ev.now _)
theorem int_l0 : ∀ (d : Nat) (n : Int) (s : ByteArray) (neg : Bool), n.natAbs < 10 ^ (d + 1) → -9223372036854775808 ≤ n → n ≤ 9223372036854775807 → (s.toList = [] ∨ n ≠ 0) → s.size + d ≤ 1000 → Ev (fun k => spec_l2Int.l0 k n s neg) (fin neg (bs (Lib.decDigits n.natAbs ++ s.data.toList))) := by
  intro d
  induction d with
  | zero =>
    intro n s neg hd h0 h1 hn hs
    have hd' : n.natAbs < 10 := by simpa using hd
    have go : Ev (fun k => spec_l2Int.j1 k n s neg true) (fin neg (bs (Lib.decDigits n.natAbs ++ s.data.toList))) := by
      refine j1_step n s neg _ h0 h1 (by omega) ?_
      have e : Int.tdiv n 10 = 0 := by
        obtain ⟨m, hm | hm⟩ := Int.eq_nat_or_neg n
        · subst hm; rw [td_nat]; rw [Int.natAbs_natCast] at hd'; omega
        · subst hm; rw [Int.neg_tdiv, td_nat]; rw [Int.natAbs_neg, Int.natAbs_natCast] at hd'; omega
      rw [e, Lib.decDigits, dif_pos hd', Nat.mod_eq_of_lt hd']
      exact l0_end _ neg (by simp [bs, ByteArray.toList_eq]) (by rw [bs_size]; simp only [List.length_cons, size_data]; omega)
    refine Ev.succ ?_
    simp only [spec_l2Int.l0]
    by_cases he : s.toList = []
    · exact Ev.pos he go
    · have hb : (n != 0) = true := by simpa using hn.resolve_left he
      rw [hb]
      exact Ev.neg he go
  | succ d ih =>
    intro n s neg hd h0 h1 hn hs
    have go : Ev (fun k => spec_l2Int.j1 k n s neg true) (fin neg (bs (Lib.decDigits n.natAbs ++ s.data.toList))) := by
      refine j1_step n s neg _ h0 h1 (by omega) ?_
      have e : (Int.tdiv n 10).natAbs = n.natAbs / 10 ∧ -9223372036854775808 ≤ Int.tdiv n 10 ∧ Int.tdiv n 10 ≤ 9223372036854775807 := by
        obtain ⟨m, hm | hm⟩ := Int.eq_nat_or_neg n
        · subst hm; rw [td_nat, Int.natAbs_natCast, Int.natAbs_natCast]; omega
        · subst hm; rw [Int.neg_tdiv, td_nat, Int.natAbs_neg, Int.natAbs_natCast, Int.natAbs_neg, Int.natAbs_natCast]; omega
      by_cases hlt : n.natAbs < 10
      · have e0 : Int.tdiv n 10 = 0 := by have := e.1; omega
        rw [e0, Lib.decDigits, dif_pos hlt, Nat.mod_eq_of_lt hlt]
        exact l0_end _ neg (by simp [bs, ByteArray.toList_eq]) (by rw [bs_size]; simp only [List.length_cons, size_data]; omega)
      · have := ih (Int.tdiv n 10) (bs (UInt8.ofNat (48 + n.natAbs % 10) :: s.data.toList)) neg (by rw [e.1]; rw [Nat.pow_succ] at hd; omega) e.2.1 e.2.2 (Or.inr (by have := e.1; omega)) (by rw [bs_size]; simp only [List.length_cons, size_data]; omega)
        rw [e.1, bs_data] at this
        rw [Lib.decDigits, dif_neg hlt, List.append_assoc]
        exact this
    refine Ev.succ ?_
    simp only [spec_l2Int.l0]
    by_cases he : s.toList = []
    · exact Ev.pos he go
    · have hb : (n != 0) = true := by simpa using hn.resolve_left he
      rw [hb]
      exact Ev.neg he go
theorem int_ev (n : Int) (h0 : -9223372036854775808 ≤ n) (h1 : n ≤ 9223372036854775807) : Ev (fun k => spec_l2Int.f k n) (bs (Lib.itoa n)) := by
  unfold spec_l2Int.f
  have := int_l0 20 n ⟨#[]⟩ (decide (n < 0)) (by omega) h0 h1 (Or.inl (by simp [ByteArray.toList_eq])) (by simp [ByteArray.size])
  refine cast (congrArg _ ?_) this
  unfold fin Lib.itoa
  by_cases h : n < 0
  · rw [if_pos (by simpa using h), if_pos h, show (⟨#[45]⟩ : ByteArray) = bs [45] from rfl, bs_app]
    simp
  · rw [if_neg (by simpa using h), if_neg h, show n.natAbs = n.toNat by omega]
    simp
theorem dec_some (n : Int) (h0 : -9223372036854775808 ≤ n) (h1 : n ≤ 9223372036854775807) : impl_decimal.f n = some (bs (Lib.itoa n)) := by
  unfold impl_decimal.f strconv_FormatInt.f
  rw [if_pos ⟨h0, h1, rfl⟩]
  rfl
theorem dig_len : ∀ (d m : Nat), m < 10 ^ (d + 1) → (Lib.decDigits m).length ≤ d + 1 := by
  intro d
  induction d with
  | zero => intro m h; rw [Lib.decDigits, dif_pos (by simpa using h)]; simp
  | succ d ih =>
    intro m h
    rw [Lib.decDigits]
    by_cases hm : m < 10
    · rw [dif_pos hm]; simp
    · rw [dif_neg hm, List.length_append]
      have := ih (m / 10) (by rw [Nat.pow_succ] at h; omega)
      simp; omega
theorem itoa_len (n : Int) (h0 : -9223372036854775808 ≤ n) (h1 : n ≤ 9223372036854775807) : (bs (Lib.itoa n)).size ≤ 22 := by
  rw [bs_size]
  unfold Lib.itoa
  split
  · have := dig_len 20 n.natAbs (by omega)
    simp; omega
  · have := dig_len 20 n.toNat (by omega)
    omega
def dstep (h : Int) (b : UInt8) : Int := Int.tmod (h * 1000003 + (b.toNat : Int) + 1) 2147483647
def dg (s : ByteArray) : Int := s.data.toList.foldl dstep 1
theorem dstep_in {h : Int} {b : UInt8} (h0 : 0 ≤ h) : 0 ≤ dstep h b ∧ dstep h b < 2147483647 := by
  unfold dstep
  have hb : (0 : Int) ≤ (b.toNat : Int) := by omega
  generalize (b.toNat : Int) = v at *
  rw [Int.tmod_eq_emod_of_nonneg (by omega)]
  omega
theorem dfold_in : ∀ (l : List UInt8) (h : Int), 0 ≤ h → h < 2147483647 → 0 ≤ l.foldl dstep h ∧ l.foldl dstep h < 2147483647
  | [], h, h0, h1 => ⟨h0, h1⟩
  | b :: l, h, h0, h1 => dfold_in l _ (dstep_in h0).1 (dstep_in h0).2
theorem dg_in (s : ByteArray) : 0 ≤ dg s ∧ dg s < 2147483647 := dfold_in _ 1 (by decide) (by decide)
theorem bt_data {s : ByteArray} {i : Nat} {b : UInt8} (h : s.data.toList[i]? = some b) : bt s (i : Int) = (b.toNat : Int) := by
  obtain ⟨hi, rfl⟩ := List.getElem?_eq_some_iff.1 h
  have hs : i < s.size := by rw [← size_data]; exact hi
  unfold bt
  rw [dif_pos (by simpa using hs)]
  simp [ByteArray.getElem_eq_getElem_data]
theorem dwrap {h v : Int} (h0 : 0 ≤ h) (h1 : h < 2147483647) (v0 : 0 ≤ v) (v1 : v ≤ 255) : wrap64 ((wrap64 ((wrap64 (h * 1000003)) + (wrap64 v))) + 1) = h * 1000003 + v + 1 := by
  rw [w64 (x := h * 1000003) (by omega) (by omega), w64 (x := v) (by omega) (by omega), w64 (x := h * 1000003 + v) (by omega) (by omega), w64 (by omega) (by omega)]
theorem sdig_l0 (s : ByteArray) (hs : s.size < 9223372036854775807) : ∀ (d i : Nat) (h : Int), i + d = s.size → 0 ≤ h → h < 2147483647 → Ev (fun k => spec_Digest.l0 k s h i) ((s.data.toList.drop i).foldl dstep h)
  | 0, i, h, hi, _, _ => by
    refine Ev.succ ?_
    simp only [spec_Digest.l0]
    refine Ev.neg (by omega) ?_
    rw [List.drop_of_length_le (by rw [size_data]; omega)]
    exact Ev.now _
  | d + 1, i, h, hi, h0, h1 => by
    obtain ⟨b, hb⟩ := get_some (l := s.data.toList) (i := i) (by rw [size_data]; omega)
    have hr := bt_range s i
    refine Ev.succ ?_
    simp only [spec_Digest.l0]
    refine Ev.pos (by omega) (Ev.pos (by omega) ?_)
    rw [dwrap h0 h1 hr.1 hr.2, bt_data hb, w64 (x := (i : Int) + 1) (by omega) (by omega), cast_succ]
    have := sdig_l0 s hs d (i + 1) (dstep h b) (by omega) (dstep_in h0).1 (dstep_in h0).2
    obtain ⟨hi', rfl⟩ := List.getElem?_eq_some_iff.1 hb
    rw [List.drop_eq_getElem_cons hi']
    exact this
theorem idig_l0 (s : ByteArray) (hs : s.size < 9223372036854775807) : ∀ (d i : Nat) (h : Int), i + d = s.size → 0 ≤ h → h < 2147483647 → Ev (fun k => impl_Digest.l0 k s h (s.size : Int) i) ((s.data.toList.drop i).foldl dstep h)
  | 0, i, h, hi, _, _ => by
    refine Ev.succ ?_
    simp only [impl_Digest.l0]
    refine Ev.neg (by omega) ?_
    rw [List.drop_of_length_le (by rw [size_data]; omega)]
    exact Ev.now _
  | d + 1, i, h, hi, h0, h1 => by
    obtain ⟨b, hb⟩ := get_some (l := s.data.toList) (i := i) (by rw [size_data]; omega)
    have hr := bt_range s i
    refine Ev.succ ?_
    simp only [impl_Digest.l0]
    refine Ev.pos (by omega) (Ev.pos (by omega) (Ev.pos (by omega) ?_))
    rw [dwrap h0 h1 hr.1 hr.2, bt_data hb, w64 (x := (i : Int) + 1) (by omega) (by omega), cast_succ]
    have := idig_l0 s hs d (i + 1) (dstep h b) (by omega) (dstep_in h0).1 (dstep_in h0).2
    obtain ⟨hi', rfl⟩ := List.getElem?_eq_some_iff.1 hb
    rw [List.drop_eq_getElem_cons hi']
    exact this
theorem sdig_ev (s : ByteArray) (hs : s.size < 9223372036854775807) : Ev (fun k => spec_Digest.f k s) (dg s) := sdig_l0 s hs s.size 0 1 (by omega) (by decide) (by decide)
theorem idig_ev (s : ByteArray) (hs : s.size < 9223372036854775807) : Ev (fun k => impl_Digest.f k s) (dg s) := idig_l0 s hs s.size 0 1 (by omega) (by decide) (by decide)

theorem l44 : (⟨#[44]⟩ : ByteArray).size = 1 := rfl
abbrev i64_ (x : Int) : Prop := -9223372036854775808 ≤ x ∧ x ≤ 9223372036854775807
def pr (a b : Int) : Int := dg ((bs (Lib.itoa a) ++ (⟨#[44]⟩ : ByteArray)) ++ bs (Lib.itoa b))
theorem pr_in (a b : Int) : 0 ≤ pr a b ∧ pr a b < 2147483647 := dg_in _
theorem pr_64 (a b : Int) : i64_ (pr a b) := by have := pr_in a b; exact ⟨by omega, by omega⟩
theorem spair (a b : Int) (ha : i64_ a) (hb : i64_ b) : Ev (fun k => spec_Pair.f k a b) (pr a b) := by
  unfold spec_Pair.f pr
  have z1 := itoa_len a ha.1 ha.2
  have z2 := itoa_len b hb.1 hb.2
  exact Ev.bind (int_ev a ha.1 ha.2) (Ev.pos (by omega) (Ev.bind (int_ev b hb.1 hb.2) (Ev.pos (by simp only [ByteArray.size_append, l44]; omega) (Ev.bind (sdig_ev _ (by simp only [ByteArray.size_append, l44]; omega)) (Ev.now _)))))
theorem ipair (a b : Int) (ha : i64_ a) (hb : i64_ b) : Ev (fun k => impl_Pair.f k a b) (pr a b) := by
  unfold impl_Pair.f pr
  have z1 := itoa_len a ha.1 ha.2
  have z2 := itoa_len b hb.1 hb.2
  exact Ev.bind (Ev.const (dec_some a ha.1 ha.2)) (Ev.pos (by omega) (Ev.bind (Ev.const (dec_some b hb.1 hb.2)) (Ev.pos (by simp only [ByteArray.size_append, l44]; omega) (Ev.bind (idig_ev _ (by simp only [ByteArray.size_append, l44]; omega)) (Ev.now _)))))

theorem within_eq (a b c : Int) : impl_within.f a b c = some (decide (b ≤ a ∧ a ≤ c)) := by
  unfold impl_within.f
  by_cases h : a ≥ b
  · rw [if_pos h]; congr 1; simp; omega
  · rw [if_neg h]; congr 1; simp; omega
theorem in_eq (a b c : Int) : spec_l1In.f a b c = some (decide (b ≤ a ∧ a ≤ c)) := within_eq a b c

def told (at_ v : Int) (way : List Int) : Bool := if (0 ≤ at_ ∧ at_ ≤ 255) ∧ (-1 ≤ v ∧ v ≤ 1000000000) then ((way.length : Int) == 8) else false
theorem stold (at_ v : Int) (way : List Int) : spec_l12Told.f at_ v way = some (told at_ v way) := by
  unfold spec_l12Told.f spec_l12Value.f told
  simp only [in_eq, Option.bind_some]
  by_cases c1 : 0 ≤ at_ ∧ at_ ≤ 255
  · rw [if_pos (by simpa using c1)]
    by_cases c2 : v = -1
    · rw [if_pos c2, if_pos ⟨c1, by omega, by omega⟩]
    · rw [if_neg c2]
      by_cases c3 : 0 ≤ v ∧ v ≤ 1000000000
      · rw [if_pos (by simpa using c3), if_pos ⟨c1, by omega, by omega⟩]
      · rw [if_neg (by simpa using c3), if_neg (by omega)]
  · rw [if_neg (by simpa using c1), if_neg (fun h => c1 h.1)]
theorem itold (at_ v : Int) (way : List Int) : impl_climbs.f at_ v way = some (told at_ v way) := by
  unfold impl_climbs.f impl_isPlace.f told
  simp only [within_eq, Option.bind_some]
  by_cases c1 : 0 ≤ at_ ∧ at_ ≤ 255
  · rw [if_pos (by simpa using c1)]
    by_cases c3 : -1 ≤ v ∧ v ≤ 1000000000
    · rw [if_pos (by simpa using c3), if_pos ⟨c1, c3⟩]
    · rw [if_neg (by simpa using c3), if_neg (fun h => c3 h.2)]
  · rw [if_neg (by simpa using c1), if_neg (fun h => c1 h.1)]
theorem told_true {at_ v : Int} {way : List Int} (h : told at_ v way = true) : (0 ≤ at_ ∧ at_ ≤ 255) ∧ (-1 ≤ v ∧ v ≤ 1000000000) ∧ way.length = 8 := by
  unfold told at h
  split at h
  · rename_i c
    simp at h
    exact ⟨c.1, c.2, by omega⟩
  · cases h
def leafN (a v : Int) : Int := if v < 0 then 0 else pr a v
theorem leafN_64 (a v : Int) : i64_ (leafN a v) := by
  unfold leafN
  split
  · exact ⟨by decide, by decide⟩
  · exact pr_64 a v
theorem snum (a v : Int) (ha : i64_ a) (hv : i64_ v) : Ev (fun k => spec_l12Number.f k a v) (leafN a v) := by
  unfold spec_l12Number.f leafN
  by_cases h : v < 0
  · rw [if_pos h]; exact Ev.pos h (Ev.now _)
  · rw [if_neg h]; exact Ev.neg h (Ev.bind (spair a v ha hv) (Ev.now _))
theorem inum (a v : Int) (ha : i64_ a) (hv : i64_ v) : Ev (fun k => impl_leafNumber.f k a v) (leafN a v) := by
  unfold impl_leafNumber.f leafN
  by_cases h : v < 0
  · rw [if_pos h]; exact Ev.pos h (Ev.now _)
  · rw [if_neg h]; exact Ev.neg h (Ev.bind (ipair a v ha hv) (Ev.now _))
theorem bits_all : ∀ a : Fin 256, ∀ i : Fin 8, (decide (Go.bits .and .i64 (shr .i64 ((a.val : Nat) : Int) ((i.val : Nat) : Int)) 1 = 1)) = !(decide ((a.val / 2 ^ i.val) % 2 = 0)) := by decide +kernel
theorem bit_at (a i : Nat) (ha : a ≤ 255) (hi : i < 8) : (Go.bits .and .i64 (shr .i64 (a : Int) (i : Int)) 1 = 1) ↔ ¬ ((a / 2 ^ i) % 2 = 0) := by
  have h := bits_all ⟨a, by omega⟩ ⟨i, hi⟩
  simp only at h
  constructor
  · intro h1 h2
    rw [decide_eq_true h1, decide_eq_true h2] at h
    cases h
  · intro h2
    rw [decide_eq_false h2] at h
    exact of_decide_eq_true h
theorem half (a i : Nat) : Int.tdiv ((a / 2 ^ i : Nat) : Int) 2 = ((a / 2 ^ (i + 1) : Nat) : Int) := by
  rw [show Int.tdiv ((a / 2 ^ i : Nat) : Int) 2 = ((a / 2 ^ i / 2 : Nat) : Int) from rfl, Nat.div_div_eq_div_mul, Nat.pow_succ]
theorem odd (a i : Nat) : Int.tmod ((a / 2 ^ i : Nat) : Int) 2 = ((a / 2 ^ i % 2 : Nat) : Int) := rfl
def fst_ (a i : Nat) (n w : Int) : Int := if (a / 2 ^ i) % 2 = 0 then n else w
def snd_ (a i : Nat) (n w : Int) : Int := if (a / 2 ^ i) % 2 = 0 then w else n
theorem two_ev (a i : Nat) (n w : Int) : spec_l12Two.f ((a / 2 ^ i : Nat) : Int) n w = some (fst_ a i n w, snd_ a i n w) := by
  unfold spec_l12Two.f fst_ snd_
  rw [odd]
  by_cases h : (a / 2 ^ i) % 2 = 0
  · rw [if_pos (by omega), if_pos h, if_pos h]
  · rw [if_neg (by omega), if_neg h, if_neg h]
def climb (a : Nat) (way : List Int) : Nat → Nat → Int → Int
  | 0, _, n => n
  | d + 1, i, n => climb a way d (i + 1) (pr (fst_ a i n (rd way i)) (snd_ a i n (rd way i)))
theorem f64 (a i : Nat) (n w : Int) (hn : i64_ n) (hw : i64_ w) : i64_ (fst_ a i n w) ∧ i64_ (snd_ a i n w) := by
  unfold fst_ snd_
  split
  · exact ⟨hn, hw⟩
  · exact ⟨hw, hn⟩
theorem way_64 {way : List Int} (hw : okList (okInt .i64) way) {i : Nat} (hi : i < way.length) : i64_ (rd way i) := by
  obtain ⟨x, hx⟩ := get_some hi
  rw [rd_get hx]
  exact bound_i64 (all_get hw.2 hx)

theorem Ev.rpos {α : Type} {c : Prop} [Decidable c] {g : Nat → Option α} {x y : α} (h : c) (k : Ev g x) : Ev g (if c then x else y) := by rw [if_pos h]; exact k
theorem Ev.rneg {α : Type} {c : Prop} [Decidable c] {g : Nat → Option α} {x y : α} (h : ¬ c) (k : Ev g y) : Ev g (if c then x else y) := by rw [if_neg h]; exact k
def prs (a : Nat) (way : List Int) : Nat → Nat → Int → List (List Int)
  | 0, _, _ => []
  | d + 1, i, n => [fst_ a i n (rd way i), snd_ a i n (rd way i)] :: prs a way d (i + 1) (pr (fst_ a i n (rd way i)) (snd_ a i n (rd way i)))
theorem prs_len (a : Nat) (way : List Int) : ∀ (d i : Nat) (n : Int), (prs a way d i n).length = d
  | 0, _, _ => rfl
  | d + 1, i, n => by simp [prs, prs_len a way d]
theorem ipairs (a : Nat) (way : List Int) (ha : a ≤ 255) (h8 : way.length = 8) (hw : okList (okInt .i64) way) : ∀ (d i : Nat) (n : Int) (L : List (List Int)), i + d = 8 → L.length = i + 1 → i64_ n → Ev (fun k => impl_pairs.l0 k a L n way (way.length : Int) i) (L ++ prs a way d i n)
  | 0, i, n, L, hi, hL, hn => by
    obtain rfl : i = 8 := by omega
    refine Ev.succ ?_
    simp only [impl_pairs.l0, prs, List.append_nil]
    exact Ev.neg (by omega) (Ev.now _)
  | d + 1, i, n, L, hi, hL, hn => by
    have hv := f64 a i n _ hn (way_64 hw (i := i) (by omega))
    have e := ipairs a way ha h8 hw d (i + 1) (pr (fst_ a i n (rd way i)) (snd_ a i n (rd way i))) (L ++ [[fst_ a i n (rd way i), snd_ a i n (rd way i)]]) (by omega) (by simp; omega) (pr_64 _ _)
    rw [List.append_assoc, List.singleton_append] at e
    refine Ev.succ ?_
    simp only [impl_pairs.l0, prs, Option.bind_some, List.length_cons, List.length_nil]
    refine Ev.pos (by omega) (Ev.pos (by omega) (Ev.pos (by omega) ?_))
    have hi8 : i < 8 := by clear e hv; omega
    have hL9 : L.length < 5864062014805 := Nat.lt_of_le_of_lt (show L.length ≤ 8 by clear e hv; omega) (by decide)
    have e1 : wrap64 ((i : Int) + 1) = ((i + 1 : Nat) : Int) := by rw [w64 (by omega) (by omega), cast_succ]
    rw [e1]
    by_cases hb : (a / 2 ^ i) % 2 = 0
    · refine Ev.neg (fun h => (bit_at a i ha hi8).1 h hb) (Ev.pos hL9 (Ev.pos (by decide) (Ev.pos (by decide) ?_)))
      simp only [fst_, snd_, if_pos hb] at e hv ⊢
      exact Ev.bind (ipair _ _ hv.1 hv.2) e
    · refine Ev.pos ((bit_at a i ha hi8).2 hb) (Ev.pos hL9 (Ev.pos (by decide) (Ev.pos (by decide) ?_)))
      simp only [fst_, snd_, if_neg hb] at e hv ⊢
      exact Ev.bind (ipair _ _ hv.1 hv.2) e
def own (a v : Int) : List Int := if v < 0 then [0, -1] else [a, v]
theorem ipairs_ev (a : Nat) (v : Int) (way : List Int) (ha : a ≤ 255) (hv : i64_ v) (h8 : way.length = 8) (hw : okList (okInt .i64) way) : Ev (fun k => impl_pairs.f k a v way) (own a v :: prs a way 8 0 (leafN a v)) := by
  have ha' : i64_ (a : Int) := ⟨by omega, by omega⟩
  have go : ∀ x, Ev (fun k => impl_pairs.j0 k a v way x) (x :: prs a way 8 0 (leafN a v)) := by
    intro x
    have e := ipairs a way ha h8 hw 8 0 (leafN a v) [x] (by omega) rfl (leafN_64 _ _)
    refine Ev.succ ?_
    simp only [impl_pairs.j0]
    exact Ev.bind (inum _ _ ha' hv) e
  unfold impl_pairs.f own
  by_cases h : v < 0
  · rw [if_pos h]; exact Ev.pos h (go _)
  · rw [if_neg h]; exact Ev.neg h (go _)
def srch (a : Nat) (way wi : List Int) : Nat → Nat → Int → Int → Option (List Int)
  | 0, _, _, _ => none
  | d + 1, i, m, n => if pr (fst_ a i m (rd way i)) (snd_ a i m (rd way i)) = pr (fst_ a i n (rd wi i)) (snd_ a i n (rd wi i)) then some [fst_ a i m (rd way i), snd_ a i m (rd way i), fst_ a i n (rd wi i), snd_ a i n (rd wi i)] else srch a way wi d (i + 1) (pr (fst_ a i m (rd way i)) (snd_ a i m (rd way i))) (pr (fst_ a i n (rd wi i)) (snd_ a i n (rd wi i)))
def told_ : Option (List Int) → List Int × Bool
  | some f => (f, true)
  | none => ([], false)
theorem concat_ev (p q r s : Int) : Ev (fun k => slices_Concat_int64_int64.f k [[p, q], [r, s]]) [p, q, r, s] := by
  unfold slices_Concat_int64_int64.f
  have r0 : rd_L3 [[p, q], [r, s]] 0 = [p, q] := rfl
  have r1 : rd_L3 [[p, q], [r, s]] 1 = [r, s] := rfl
  have w2 : wrap64 (0 + (([p, q] : List Int).length : Int)) = 2 := by rw [w64 (by simp) (by simp)]; rfl
  have w4 : wrap64 (2 + (([r, s] : List Int).length : Int)) = 4 := by rw [w64 (by simp) (by simp)]; rfl
  have v1 : wrap64 (0 + 1) = 1 := w64 (by omega) (by omega)
  have v2 : wrap64 (1 + 1) = 2 := w64 (by omega) (by omega)
  refine Ev.succ ?_
  simp only [slices_Concat_int64_int64.l0, r0, w2, v1]
  refine Ev.pos (by first | decide | simp) (Ev.pos (by first | decide | simp) (Ev.pos (by first | decide | simp) (Ev.neg (by first | decide | simp) (Ev.succ ?_))))
  simp only [slices_Concat_int64_int64.l0, r1, w4, v2]
  refine Ev.pos (by first | decide | simp) (Ev.pos (by first | decide | simp) (Ev.pos (by first | decide | simp) (Ev.neg (by first | decide | simp) (Ev.succ ?_))))
  simp only [slices_Concat_int64_int64.l0]
  refine Ev.neg (by first | decide | simp) (Ev.bind (Ev.const (show slices_Grow_int64_int64.f [] 4 = some [] from rfl)) (Ev.succ ?_))
  simp only [slices_Concat_int64_int64.l1, r0, v1]
  refine Ev.pos (by first | decide | simp) (Ev.pos (by first | decide | simp) (Ev.pos (by first | decide | simp) (Ev.pos (by simp) (Ev.succ ?_))))
  simp only [slices_Concat_int64_int64.l1, r1, v2]
  refine Ev.pos (by first | decide | simp) (Ev.pos (by first | decide | simp) (Ev.pos (by first | decide | simp) (Ev.pos (by simp) (Ev.succ ?_))))
  simp only [slices_Concat_int64_int64.l1]
  exact Ev.neg (by first | decide | simp) (Ev.now _)
theorem num_ev (x : Int) (hx : x ≠ 0) (p q : Int) (hp : i64_ p) (hq : i64_ q) : Ev (fun k => impl_pairNumber.f k x [p, q]) (pr p q) := by
  unfold impl_pairNumber.f
  exact Ev.neg hx (Ev.pos (by simp) (Ev.pos (by simp) (Ev.bind (ipair p q hp hq) (Ev.now _))))
theorem num0_ev (a : Nat) (ha : a ≤ 255) (v : Int) (hv : i64_ v) : Ev (fun k => impl_pairNumber.f k 0 (own a v)) (leafN a v) := by
  have ha' : i64_ (a : Int) := ⟨by omega, by omega⟩
  unfold impl_pairNumber.f own
  by_cases h : v < 0
  · simp only [if_pos h]
    refine Ev.pos (by first | rfl | trivial) (Ev.pos (by simp) (Ev.pos (by simp) (Ev.bind (inum 0 (-1) ⟨by decide, by decide⟩ ⟨by decide, by decide⟩) ?_)))
    unfold leafN
    rw [if_pos (by decide), if_pos h]
    exact Ev.now _
  · simp only [if_neg h]
    exact Ev.pos (by first | rfl | trivial) (Ev.pos (by simp) (Ev.pos (by simp) (Ev.bind (inum a v ha' hv) (Ev.now _))))
theorem drop_at {α : Type} {l : List α} {i : Nat} {x : α} {r : List α} (h : l.drop i = x :: r) : l[i]? = some x ∧ l.drop (i + 1) = r := by
  constructor
  · have := congrArg (·[0]?) h
    simpa using this
  · have := congrArg (List.drop 1) h
    simpa [List.drop_drop] using this
theorem iloop (a : Nat) (way wi : List Int) (ha : a ≤ 255) (h8 : way.length = 8) (g8 : wi.length = 8) (hw : okList (okInt .i64) way) (gw : okList (okInt .i64) wi) (A B : List (List Int)) (hA : A.length = 9) (hB : B.length = 9) : ∀ (d i : Nat) (m n : Int), i + d = 8 → i64_ m → i64_ n → A.drop (i + 1) = prs a way d i m → B.drop (i + 1) = prs a wi d i n → Ev (fun k => impl_Parted.l0 k A B (A.length : Int) ((i + 1 : Nat) : Int)) (told_ (srch a way wi d i m n))
  | 0, i, m, n, hi, hm, hn, ea, eb => by
    refine Ev.succ ?_
    simp only [impl_Parted.l0, srch, told_]
    exact Ev.neg (by omega) (Ev.now _)
  | d + 1, i, m, n, hi, hm, hn, ea, eb => by
    obtain ⟨xa, ea'⟩ := drop_at ea
    obtain ⟨xb, eb'⟩ := drop_at eb
    have fa := f64 a i m _ hm (way_64 hw (i := i) (by omega))
    have fb := f64 a i n _ hn (way_64 gw (i := i) (by omega))
    have ra : rd_L3 A ((i + 1 : Nat) : Int) = _ := getD_lt xa
    have rb : rd_L3 B ((i + 1 : Nat) : Int) = _ := getD_lt xb
    have rec_ := iloop a way wi ha h8 g8 hw gw A B hA hB d (i + 1) _ _ (by omega) (pr_64 _ _) (pr_64 _ _) ea' eb'
    have n1 := num_ev ((i + 1 : Nat) : Int) (by omega) _ _ fa.1 fa.2
    have n2 := num_ev ((i + 1 : Nat) : Int) (by omega) _ _ fb.1 fb.2
    refine Ev.succ ?_
    simp only [impl_Parted.l0, ra, rb]
    refine Ev.pos (by omega) (Ev.pos (by omega) (Ev.pos (by omega) (Ev.bind n1 (Ev.pos (by omega) (Ev.bind n2 ?_)))))
    unfold srch
    by_cases h : pr (fst_ a i m (rd way i)) (snd_ a i m (rd way i)) = pr (fst_ a i n (rd wi i)) (snd_ a i n (rd wi i))
    · rw [if_pos h]
      exact Ev.pos h (Ev.bind (concat_ev _ _ _ _) (Ev.now _))
    · rw [if_neg h]
      refine Ev.neg h ?_
      have e1 : wrap64 (((i + 1 : Nat) : Int) + 1) = ((i + 1 + 1 : Nat) : Int) := by rw [w64 (by omega) (by omega), cast_succ]
      rw [e1]
      exact rec_
def fin_ (a : Nat) (way wi : List Int) (d i : Nat) (m n : Int) (found : List Int) : List Int × Bool := if climb a way d i m = climb a wi d i n then (if found.length = 0 then told_ (srch a way wi d i m n) else (found, true)) else ([], false)
theorem climb_prs (a : Nat) (way : List Int) (hw : okList (okInt .i64) way) (h8 : way.length = 8) : ∀ (d i : Nat) (n : Int), i + (d + 1) = 8 → i64_ n → ∃ p q, (prs a way (d + 1) i n)[d]? = some [p, q] ∧ i64_ p ∧ i64_ q ∧ pr p q = climb a way (d + 1) i n
  | 0, i, n, hi, hn => by
    have hv := f64 a i n _ hn (way_64 hw (i := i) (by omega))
    exact ⟨_, _, rfl, hv.1, hv.2, rfl⟩
  | d + 1, i, n, hi, hn => by
    obtain ⟨p, q, h⟩ := climb_prs a way hw h8 d (i + 1) (pr (fst_ a i n (rd way i)) (snd_ a i n (rd way i))) (by omega) (pr_64 _ _)
    refine ⟨p, q, ?_, h.2.1, h.2.2.1, h.2.2.2⟩
    show (_ :: prs a way (d + 1) (i + 1) _)[d + 1]? = _
    rw [List.getElem?_cons_succ]
    exact h.1
theorem sholds (peak : Int) (a : Nat) (way : List Int) (ha : a ≤ 255) (h8 : way.length = 8) (hw : okList (okInt .i64) way) : ∀ (d i : Nat) (n : Int), i + d = 8 → i64_ n → Ev (fun k => spec_Holds.l0 k peak ((a / 2 ^ i : Nat) : Int) way n i) (climb a way d i n == peak)
  | 0, i, n, hi, hn => by
    refine Ev.succ ?_
    simp only [spec_Holds.l0]
    exact Ev.neg (by omega) (Ev.now _)
  | d + 1, i, n, hi, hn => by
    have hv := f64 a i n _ hn (way_64 hw (i := i) (by omega))
    have hlt : a / 2 ^ (i + 1) ≤ a := Nat.div_le_self _ _
    refine Ev.succ ?_
    simp only [spec_Holds.l0, two_ev, Option.bind_some, half]
    refine Ev.pos (by omega) (Ev.pos (by omega) (Ev.pos (by omega) (Ev.bind (spair _ _ hv.1 hv.2) ?_)))
    have wn : wrap64 ((a / 2 ^ (i + 1) : Nat) : Int) = ((a / 2 ^ (i + 1) : Nat) : Int) := by
      generalize a / 2 ^ (i + 1) = b at hlt ⊢
      exact w64 (by omega) (by omega)
    rw [w64 (x := (i : Int) + 1) (by omega) (by omega), wn, cast_succ]
    exact sholds peak a way ha h8 hw d (i + 1) _ (by omega) (pr_64 _ _)
theorem holds_ev (peak at_ v : Int) (way : List Int) (hw : okList (okInt .i64) way) : ∃ r, Ev (fun k => spec_Holds.f k peak at_ v way) r ∧ Ev (fun k => impl_Holds.f k peak at_ v way) r ∧ (r = true ↔ told at_ v way = true ∧ climb at_.toNat way 8 0 (leafN at_ v) = peak) := by
  unfold spec_Holds.f impl_Holds.f
  simp only [stold, itold, Option.bind_some]
  cases ht : told at_ v way with
  | false => exact ⟨false, Ev.neg (by decide) (Ev.now _), Ev.neg (by decide) (Ev.now _), by simp⟩
  | true =>
    obtain ⟨c1, c2, h8⟩ := told_true ht
    obtain ⟨a, rfl⟩ : ∃ a : Nat, at_ = a := ⟨at_.toNat, by omega⟩
    have ha : a ≤ 255 := by omega
    have ha' : i64_ (a : Int) := ⟨by omega, by omega⟩
    have hv : i64_ v := ⟨by omega, by omega⟩
    have hs := sholds peak a way ha h8 hw 8 0 (leafN a v) (by omega) (leafN_64 _ _)
    rw [Nat.pow_zero, Nat.div_one] at hs
    obtain ⟨L, e, hl, p, q, hL, hp, hq, he⟩ : ∃ L', Ev (fun k => impl_pairs.f k a v way) L' ∧ L'.length = 9 ∧ ∃ p q, L'[8]? = some [p, q] ∧ i64_ p ∧ i64_ q ∧ pr p q = climb a way 8 0 (leafN a v) := by
      obtain ⟨p, q, x1, x2, x3, x4⟩ := climb_prs a way hw h8 7 0 (leafN a v) (by omega) (leafN_64 _ _)
      exact ⟨_, ipairs_ev a v way ha hv h8 hw, by simp [prs_len], p, q, by rw [List.getElem?_cons_succ]; exact x1, x2, x3, x4⟩
    refine ⟨(climb a way 8 0 (leafN a v) == peak), Ev.pos rfl (Ev.bind (snum _ _ ha' hv) hs), Ev.pos rfl (Ev.bind e (Ev.pos (by omega) ?_)), by simp [Int.toNat_natCast]⟩
    have hr : rd_L3 L 8 = [p, q] := getD_lt hL
    rw [hr]
    unfold impl_pairNumber.f
    rw [← he]
    exact Ev.bind (Ev.neg (by decide) (Ev.pos (by simp) (Ev.pos (by simp) (Ev.bind (ipair p q hp hq) (Ev.now _))))) (Ev.now _)

/-! leaves -/
theorem rd_nat (x : List S42) (j : Nat) : rd_T42 x (j : Int) = x.getD j z42 := rfl
theorem g_get {x : List S42} {i : Nat} (hi : i < x.length) : x.getD i z42 = x[i] := by
  rw [List.getD_eq_getElem?_getD, List.getElem?_eq_getElem hi]; rfl
def LOk (l : List S42) : Prop := ∀ j, j < l.length → (0 ≤ (l.getD j z42).f0 ∧ (l.getD j z42).f0 ≤ 255) ∧ (0 ≤ (l.getD j z42).f1 ∧ (l.getD j z42).f1 ≤ 1000000000) ∧ (0 < j → (l.getD (j - 1) z42).f0 < (l.getD j z42).f0)
theorem leaves_l0 (l : List S42) (hl : l.length ≤ 4611686018427387904) : ∀ (d i : Nat), i + d = l.length → ∃ r, Ev (fun k => spec_LeavesOk.l0 k l i) r ∧ Ev (fun k => impl_LeavesOk.l0 k l l (l.length : Int) i) r ∧
    (r = true ↔ ∀ j, i ≤ j → j < l.length → (0 ≤ (l.getD j z42).f0 ∧ (l.getD j z42).f0 ≤ 255) ∧ (0 ≤ (l.getD j z42).f1 ∧ (l.getD j z42).f1 ≤ 1000000000) ∧ (0 < j → (l.getD (j - 1) z42).f0 < (l.getD j z42).f0))
  | 0, i, hi => by
    refine ⟨true, Ev.succ ?_, Ev.succ ?_, ⟨fun _ j a b => absurd b (by omega), fun _ => rfl⟩⟩
    · simp only [spec_LeavesOk.l0]
      exact Ev.neg (by omega) (Ev.now _)
    · simp only [impl_LeavesOk.l0]
      exact Ev.neg (by omega) (Ev.now _)
  | d + 1, i, hi => by
    obtain ⟨r, h1, h2, h3⟩ := leaves_l0 l hl d (i + 1) (by omega)
    have key : ∃ r, Ev (fun k => spec_LeavesOk.l0 (k + 1) l i) r ∧ Ev (fun k => impl_LeavesOk.l0 (k + 1) l l (l.length : Int) i) r ∧
        (r = true ↔ ∀ j, i ≤ j → j < l.length → (0 ≤ (l.getD j z42).f0 ∧ (l.getD j z42).f0 ≤ 255) ∧ (0 ≤ (l.getD j z42).f1 ∧ (l.getD j z42).f1 ≤ 1000000000) ∧ (0 < j → (l.getD (j - 1) z42).f0 < (l.getD j z42).f0)) := by
      simp only [spec_LeavesOk.l0, impl_LeavesOk.l0, rd_nat, in_eq, within_eq, spec_l12Value.f, impl_isPlace.f, Option.bind_some]
      rw [w64 (x := (i : Int) + 1) (by omega) (by omega), cast_succ]
      by_cases c1 : 0 ≤ (l.getD i z42).f0 ∧ (l.getD i z42).f0 ≤ 255
      · by_cases c2 : 0 ≤ (l.getD i z42).f1 ∧ (l.getD i z42).f1 ≤ 1000000000
        · rw [decide_eq_true c1, decide_eq_true c2]
          by_cases h0 : (i : Int) > 0
          · have w : wrap64 ((i : Int) - 1) = ((i - 1 : Nat) : Int) := by rw [w64 (by omega) (by omega)]; omega
            rw [w]
            simp only [rd_nat]
            by_cases c3 : (l.getD i z42).f0 ≤ (l.getD (i - 1) z42).f0
            · refine ⟨false, Ev.pos (by omega) (Ev.pos (by omega) (Ev.pos (by simp) (Ev.pos (by simp) (Ev.pos h0 (Ev.pos (by omega) (Ev.pos (by omega) (Ev.pos c3 (Ev.now _)))))))), Ev.pos (by omega) (Ev.pos (by omega) (Ev.pos (by omega) (Ev.pos (by simp) (Ev.pos (by simp) (Ev.pos h0 (Ev.pos (by omega) (Ev.pos (by omega) (Ev.pos c3 (Ev.now _))))))))), ⟨fun z => by simp at z, fun z => ?_⟩⟩
              have := (z i (by omega) (by omega)).2.2 (by omega)
              omega
            · refine ⟨r, Ev.pos (by omega) (Ev.pos (by omega) (Ev.pos (by simp) (Ev.pos (by simp) (Ev.pos h0 (Ev.pos (by omega) (Ev.pos (by omega) (Ev.neg c3 h1))))))), Ev.pos (by omega) (Ev.pos (by omega) (Ev.pos (by omega) (Ev.pos (by simp) (Ev.pos (by simp) (Ev.pos h0 (Ev.pos (by omega) (Ev.pos (by omega) (Ev.neg c3 h2)))))))), h3.trans ⟨fun z j j1 j2 => ?_, fun z j j1 j2 => z j (by omega) j2⟩⟩
              by_cases e : j = i
              · subst e; exact ⟨c1, c2, fun _ => by omega⟩
              · exact z j (by omega) j2
          · refine ⟨r, Ev.pos (by omega) (Ev.pos (by omega) (Ev.pos (by simp) (Ev.pos (by simp) (Ev.neg h0 h1)))), Ev.pos (by omega) (Ev.pos (by omega) (Ev.pos (by omega) (Ev.pos (by simp) (Ev.pos (by simp) (Ev.neg h0 h2))))), h3.trans ⟨fun z j j1 j2 => ?_, fun z j j1 j2 => z j (by omega) j2⟩⟩
            by_cases e : j = i
            · subst e; exact ⟨c1, c2, fun h => absurd h (by omega)⟩
            · exact z j (by omega) j2
        · rw [decide_eq_true c1, decide_eq_false c2]
          exact ⟨false, Ev.pos (by omega) (Ev.pos (by omega) (Ev.pos (by simp) (Ev.neg (by simp) (Ev.now _)))), Ev.pos (by omega) (Ev.pos (by omega) (Ev.pos (by omega) (Ev.pos (by simp) (Ev.neg (by simp) (Ev.now _))))), ⟨fun z => by simp at z, fun z => absurd (z i (by omega) (by omega)).2.1 c2⟩⟩
      · rw [decide_eq_false c1]
        exact ⟨false, Ev.pos (by omega) (Ev.pos (by omega) (Ev.neg (by simp) (Ev.now _))), Ev.pos (by omega) (Ev.pos (by omega) (Ev.pos (by omega) (Ev.neg (by simp) (Ev.now _)))), ⟨fun z => by simp at z, fun z => absurd (z i (by omega) (by omega)).1 c1⟩⟩
    obtain ⟨r, k1, k2, k3⟩ := key
    exact ⟨r, Ev.succ k1, Ev.succ k2, k3⟩
theorem leaves_iff (l : List S42) (hl : l.length ≤ 4611686018427387904) : ∃ r, Ev (fun k => spec_LeavesOk.f k l) r ∧ Ev (fun k => impl_LeavesOk.f k l) r ∧ (r = true ↔ LOk l) := by
  obtain ⟨r, h1, h2, h3⟩ := leaves_l0 l hl l.length 0 (by omega)
  exact ⟨r, h1, h2, h3.trans ⟨fun z j jl => z j (by omega) jl, fun z j _ jl => z j jl⟩⟩

/-! the numbers of all places, of all groups of two, and so on -/
def all64 (x : List Int) : Prop := ∀ j, j < x.length → i64_ (rd x (j : Int))
theorem rdn (x : List Int) (j : Nat) : rd x (j : Int) = x.getD j 0 := rfl
theorem rdn_lt {x : List Int} {j : Nat} (h : j < x.length) : x.getD j 0 = x[j] := by
  rw [List.getD_eq_getElem?_getD, List.getElem?_eq_getElem h]; rfl
theorem all64_iff {x : List Int} : all64 x ↔ ∀ y, y ∈ x → i64_ y := by
  constructor
  · intro h y hy
    obtain ⟨j, hj, e⟩ := List.getElem_of_mem hy
    have := h j hj
    rw [rdn, rdn_lt hj, e] at this
    exact this
  · intro h j hj
    rw [rdn, rdn_lt hj]
    exact h _ (List.getElem_mem _)
def putLeaf (y : List Int) (x : S42) : List Int := y.set x.f0.toNat (leafN x.f0 x.f1)
def rowF (l : List S42) : List Int := l.foldl putLeaf (List.replicate 256 0)
theorem put_fold_len : ∀ (l : List S42) (y : List Int), (l.foldl putLeaf y).length = y.length
  | [], y => rfl
  | x :: l, y => by rw [List.foldl_cons, put_fold_len l]; simp [putLeaf]
theorem put_fold_64 : ∀ (l : List S42) (y : List Int), (∀ v, v ∈ y → i64_ v) → ∀ v, v ∈ l.foldl putLeaf y → i64_ v
  | [], y, h => h
  | x :: l, y, h => put_fold_64 l _ (fun v hv => by
    rcases List.mem_or_eq_of_mem_set hv with h' | h'
    · exact h v h'
    · rw [h']; exact leafN_64 _ _)
theorem rowF_len (l : List S42) : (rowF l).length = 256 := by unfold rowF; rw [put_fold_len]; simp
theorem rowF_64 (l : List S42) : all64 (rowF l) := all64_iff.2 (put_fold_64 l _ (fun v hv => by
  rw [(List.mem_replicate.1 hv).2]; exact ⟨by decide, by decide⟩))
theorem leaf_drop {l : List S42} {i : Nat} (hi : i < l.length) (y : List Int) : (l.drop i).foldl putLeaf y = (l.drop (i + 1)).foldl putLeaf (putLeaf y (l.getD i z42)) := by
  rw [List.drop_eq_getElem_cons hi, List.foldl_cons, g_get hi]
theorem srow_l0 (l : List S42) (h : LOk l) (hl : l.length ≤ 1048576) : ∀ (d i : Nat) (y : List Int), i + d = l.length → y.length = 256 → Ev (fun k => spec_l12Row.l0 k l y i) ((l.drop i).foldl putLeaf y)
  | 0, i, y, hi, hy => by
    rw [List.drop_eq_nil_of_le (by omega)]
    refine Ev.succ ?_
    simp only [spec_l12Row.l0]
    exact Ev.neg (by omega) (Ev.now _)
  | d + 1, i, y, hi, hy => by
    obtain ⟨a, b, _⟩ := h i (by omega)
    rw [leaf_drop (by omega)]
    have e := snum (l.getD i z42).f0 (l.getD i z42).f1 ⟨by omega, by omega⟩ ⟨by omega, by omega⟩
    refine Ev.succ ?_
    simp only [spec_l12Row.l0, rd_nat]
    rw [w64 (x := (i : Int) + 1) (by omega) (by omega), cast_succ]
    exact Ev.pos (by omega) (Ev.pos (by omega) (Ev.bind e (Ev.pos (by omega) (Ev.pos (by omega) (srow_l0 l h hl d (i + 1) (putLeaf y (l.getD i z42)) (by omega) (by simpa [putLeaf] using hy))))))
theorem srow (l : List S42) (h : LOk l) (hl : l.length ≤ 1048576) : Ev (fun k => spec_l12Row.f k l) (rowF l) := by
  unfold spec_l12Row.f
  exact Ev.pos (by omega) (srow_l0 l h hl l.length 0 _ (by omega) (by simp))
theorem lev_l0 (l : List S42) (h : LOk l) (hl : l.length ≤ 1048576) (R : List (List Int)) : ∀ (d i : Nat) (y : List Int), i + d = l.length → y.length = 256 →
    Ev (fun k => impl_levels.l1 k ((l.drop i).foldl putLeaf y) [(l.drop i).foldl putLeaf y]) R → Ev (fun k => impl_levels.l0 k y l (l.length : Int) i) R
  | 0, i, y, hi, hy, he => by
    rw [List.drop_eq_nil_of_le (by omega)] at he
    refine Ev.succ ?_
    simp only [impl_levels.l0]
    exact Ev.neg (by omega) he
  | d + 1, i, y, hi, hy, he => by
    obtain ⟨a, b, _⟩ := h i (by omega)
    rw [leaf_drop (by omega)] at he
    have e := inum (l.getD i z42).f0 (l.getD i z42).f1 ⟨by omega, by omega⟩ ⟨by omega, by omega⟩
    refine Ev.succ ?_
    simp only [impl_levels.l0, rd_nat]
    rw [w64 (x := (i : Int) + 1) (by omega) (by omega), cast_succ]
    exact Ev.pos (by omega) (Ev.pos (by omega) (Ev.pos (by omega) (Ev.bind e (Ev.pos (by omega) (Ev.pos (by omega) (lev_l0 l h hl R d (i + 1) (putLeaf y (l.getD i z42)) (by omega) (by simpa [putLeaf] using hy) he))))))
def ups : List Int → List Int
  | a :: b :: r => pr a b :: ups r
  | _ => []
theorem ups_len : ∀ (n : Nat) (x : List Int), x.length = 2 * n → (ups x).length = n
  | 0, x, h => by
    obtain rfl : x = [] := List.length_eq_zero_iff.1 (by omega)
    rfl
  | n + 1, x, h => by
    match x, h with
    | a :: b :: r, h => simp only [ups, List.length_cons]; rw [ups_len n r (by simp at h; omega)]
    | [_], h => simp at h; omega
    | [], h => simp at h
theorem ups_64 : ∀ (n : Nat) (x : List Int), x.length ≤ n → ∀ v, v ∈ ups x → i64_ v
  | n, [], _, v, hv => by simp [ups] at hv
  | n, [_], _, v, hv => by simp [ups] at hv
  | 0, _ :: _ :: _, h, _, _ => by simp at h
  | n + 1, a :: b :: r, h, v, hv => by
    simp only [ups, List.mem_cons] at hv
    rcases hv with e | hv
    · rw [e]; exact pr_64 _ _
    · exact ups_64 n r (by simp at h; omega) v hv
theorem ups_drop {x : List Int} {i : Nat} (hi : i + 1 < x.length) : ups (x.drop i) = pr (rd x (i : Int)) (rd x ((i + 1 : Nat) : Int)) :: ups (x.drop (i + 2)) := by
  rw [List.drop_eq_getElem_cons (by omega), List.drop_eq_getElem_cons hi, rdn, rdn, rdn_lt (by omega), rdn_lt hi]
  rfl
theorem sup_l0 (x : List Int) (h : all64 x) (hx : x.length ≤ 1000) : ∀ (d i : Nat) (acc : List Int), i + 2 * d = x.length → acc.length + d ≤ 1000 → Ev (fun k => spec_l12Up.l0 k x acc i) (acc ++ ups (x.drop i))
  | 0, i, acc, hi, ha => by
    rw [List.drop_eq_nil_of_le (by omega)]
    simp only [ups, List.append_nil]
    refine Ev.succ ?_
    simp only [spec_l12Up.l0]
    exact Ev.neg (by omega) (Ev.now _)
  | d + 1, i, acc, hi, ha => by
    rw [ups_drop (by omega)]
    have e := spair (rd x (i : Int)) (rd x ((i + 1 : Nat) : Int)) (h i (by omega)) (h (i + 1) (by omega))
    have ih := sup_l0 x h hx d (i + 2) (acc ++ [pr (rd x (i : Int)) (rd x ((i + 1 : Nat) : Int))]) (by omega) (by simp; omega)
    rw [List.append_assoc] at ih
    refine Ev.succ ?_
    simp only [spec_l12Up.l0]
    rw [w64 (x := (i : Int) + 1) (by omega) (by omega), w64 (x := (i : Int) + 2) (by omega) (by omega), cast_succ, show (i : Int) + 2 = ((i + 2 : Nat) : Int) by omega]
    exact Ev.pos (by omega) (Ev.pos (by omega) (Ev.pos (by omega) (Ev.pos (by omega) (Ev.bind e (Ev.pos (by omega) ih)))))
theorem sup (x : List Int) (h : all64 x) (n : Nat) (hx : x.length = 2 * n) (hn : n ≤ 500) : Ev (fun k => spec_l12Up.f k x) (ups x) := by
  unfold spec_l12Up.f
  exact sup_l0 x h (by omega) n 0 [] (by omega) (by simp; omega)
theorem iup_l2 (x : List Int) (out R : List (List Int)) (h : all64 x) (hx : x.length ≤ 1000) (ho : out.length ≤ 1000) : ∀ (d i : Nat) (acc : List Int), i + 2 * d = x.length → acc.length + d ≤ 1000 →
    Ev (fun k => impl_levels.l1 k (acc ++ ups (x.drop i)) (out ++ [acc ++ ups (x.drop i)])) R → Ev (fun k => impl_levels.l2 k x out acc i) R
  | 0, i, acc, hi, ha, he => by
    rw [List.drop_eq_nil_of_le (by omega)] at he
    simp only [ups, List.append_nil] at he
    refine Ev.succ ?_
    simp only [impl_levels.l2]
    exact Ev.neg (by omega) (Ev.pos (by omega) he)
  | d + 1, i, acc, hi, ha, he => by
    rw [ups_drop (by omega)] at he
    have e := ipair (rd x (i : Int)) (rd x ((i + 1 : Nat) : Int)) (h i (by omega)) (h (i + 1) (by omega))
    have ih := iup_l2 x out R h hx ho d (i + 2) (acc ++ [pr (rd x (i : Int)) (rd x ((i + 1 : Nat) : Int))]) (by omega) (by simp; omega) (by rw [List.append_assoc]; exact he)
    refine Ev.succ ?_
    simp only [impl_levels.l2]
    rw [w64 (x := (i : Int) + 1) (by omega) (by omega), w64 (x := (i : Int) + 2) (by omega) (by omega), cast_succ, show (i : Int) + 2 = ((i + 2 : Nat) : Int) by omega]
    exact Ev.pos (by omega) (Ev.pos (by omega) (Ev.pos (by omega) (Ev.pos (by omega) (Ev.bind e (Ev.pos (by omega) ih)))))
def upn : Nat → List Int → List Int
  | 0, x => x
  | n + 1, x => upn n (ups x)
theorem upn_succ : ∀ (n : Nat) (x : List Int), upn (n + 1) x = ups (upn n x)
  | 0, x => rfl
  | n + 1, x => by rw [upn, upn_succ n (ups x)]; rfl
def lvt : Nat → List Int → List (List Int)
  | 0, _ => []
  | n + 1, x => ups x :: lvt n (ups x)
theorem lvt_get : ∀ (n j : Nat) (x : List Int), j < n → (lvt n x)[j]? = some (upn (j + 1) x)
  | 0, j, x, h => absurd h (by omega)
  | n + 1, 0, x, h => rfl
  | n + 1, j + 1, x, h => by rw [lvt, List.getElem?_cons_succ, lvt_get n j (ups x) (by omega)]; rfl
theorem lvt_len : ∀ (n : Nat) (x : List Int), (lvt n x).length = n
  | 0, x => rfl
  | n + 1, x => by simp [lvt, lvt_len n]
theorem lev_l1 : ∀ (n : Nat) (x : List Int) (out : List (List Int)), x.length = 2 ^ n → n ≤ 8 → all64 x → out.length + n ≤ 1000 → Ev (fun k => impl_levels.l1 k x out) (out ++ lvt n x)
  | 0, x, out, hx, hn, h, ho => by
    simp only [lvt, List.append_nil]
    refine Ev.succ ?_
    simp only [impl_levels.l1]
    exact Ev.neg (by rw [hx]; decide) (Ev.now _)
  | n + 1, x, out, hx, hn, h, ho => by
    have hp : 2 ^ (n + 1) = 2 * 2 ^ n := by rw [Nat.pow_succ]; omega
    have hb : 2 ^ n ≤ 2 ^ 7 := Nat.pow_le_pow_right (by omega) (by omega)
    have h1 : 1 ≤ 2 ^ n := Nat.one_le_two_pow
    have hl := ups_len (2 ^ n) x (by omega)
    have ih := lev_l1 n (ups x) (out ++ [ups x]) hl (by omega) (all64_iff.2 (ups_64 _ x (Nat.le_refl _))) (by simp; omega)
    rw [List.append_assoc] at ih
    refine Ev.succ ?_
    simp only [impl_levels.l1]
    exact Ev.pos (by omega) (iup_l2 x out _ h (by omega) (by omega) (2 ^ n) 0 [] (by omega) (by simp; omega) ih)
def levs (l : List S42) : List (List Int) := rowF l :: lvt 8 (rowF l)
theorem levs_get (l : List S42) (j : Nat) (h : j ≤ 8) : (levs l)[j]? = some (upn j (rowF l)) := by
  unfold levs
  cases j with
  | zero => rfl
  | succ j => rw [List.getElem?_cons_succ, lvt_get 8 j _ (by omega)]
theorem levs_len (l : List S42) : (levs l).length = 9 := by simp [levs, lvt_len]
theorem ilevels (l : List S42) (h : LOk l) (hl : l.length ≤ 1048576) : Ev (fun k => impl_levels.f k l) (levs l) := by
  unfold impl_levels.f
  exact Ev.pos (by omega) (lev_l0 l h hl _ l.length 0 _ (by omega) (by simp) (lev_l1 8 (rowF l) [rowF l] (rowF_len l) (by omega) (rowF_64 l) (by simp)))
theorem upn_len : ∀ (n m : Nat) (x : List Int), x.length = 2 ^ (n + m) → (upn n x).length = 2 ^ m
  | 0, m, x, h => by simpa [upn] using h
  | n + 1, m, x, h => upn_len n m (ups x) (ups_len _ x (by rw [h, show n + 1 + m = (n + m) + 1 by omega, Nat.pow_succ]; omega))
theorem upn_64 : ∀ (n : Nat) (x : List Int), all64 x → all64 (upn n x)
  | 0, x, h => h
  | n + 1, x, h => upn_64 n (ups x) (all64_iff.2 (ups_64 _ x (Nat.le_refl _)))
theorem row_len (l : List S42) (i d : Nat) (h : i + d = 8) : (upn i (rowF l)).length = 2 ^ d := upn_len i d (rowF l) (by rw [rowF_len, h])

theorem lok_mono {l : List S42} (h : LOk l) : ∀ j, j < l.length → ∀ i, i < j → (l.getD i z42).f0 < (l.getD j z42).f0
  | 0, _, i, hi => by omega
  | j + 1, hj, i, hi => by
    have h1 := (h (j + 1) hj).2.2 (by omega)
    rw [Nat.add_sub_cancel] at h1
    rcases Nat.lt_or_ge i j with c | c
    · have := lok_mono h j (by omega) i c
      omega
    · have : i = j := by omega
      subst this
      exact h1
theorem lok_ge {l : List S42} (h : LOk l) : ∀ j, j < l.length → (j : Int) ≤ (l.getD j z42).f0
  | 0, hj => by have := (h 0 hj).1.1; omega
  | j + 1, hj => by
    have h1 := (h (j + 1) hj).2.2 (by omega)
    rw [Nat.add_sub_cancel] at h1
    have := lok_ge h j (by omega)
    omega
theorem lok_len {l : List S42} (h : LOk l) : l.length ≤ 256 := by
  rcases Nat.eq_zero_or_pos l.length with c | c
  · omega
  · have h1 := lok_ge h (l.length - 1) (by omega)
    have h2 := (h (l.length - 1) (by omega)).1.2
    omega
theorem lok_pw {l : List S42} (h : LOk l) : l.Pairwise (fun x y => x.f0 < y.f0) := by
  rw [List.pairwise_iff_getElem]
  intro i j hi hj hij
  have := lok_mono h j hj i hij
  rw [g_get hi, g_get hj] at this
  exact this
theorem lok_setP {l : List S42} (h : LOk l) {a : Int} (ha : 0 ≤ a ∧ a ≤ 255) : setP l a := ⟨by have := lok_len h; omega, fun i hi => (h i hi).1, lok_mono h, ha.1, ha.2⟩
def putL (a v : Int) : List S42 → List S42
  | [] => [⟨a, v⟩]
  | x :: r => if x.f0 ≥ a then ⟨a, v⟩ :: (x :: r).filter (fun y => decide (y.f0 ≠ a)) else x :: putL a v r
theorem big_filter {a : Int} : ∀ {r : List S42}, (∀ y, y ∈ r → a < y.f0) → r.filter (fun y => decide (y.f0 ≠ a)) = r := fun h => List.filter_eq_self.2 (fun y hy => by have := h y hy; simp; omega)
theorem bsN_zero {a : Int} {r : List S42} (h : ∀ y, y ∈ r → a ≤ y.f0) : bsN a r = 0 := List.countP_eq_zero.2 (fun y hy => by have := h y hy; simp; omega)
theorem bsN_cons {a : Int} {x : S42} {r : List S42} (h : x.f0 < a) : bsN a (x :: r) = bsN a r + 1 := List.countP_cons_of_pos (by simpa using h)
theorem bsF_cons {a : Int} {x : S42} {r : List S42} (h : x.f0 < a) : bsF a (x :: r) = bsF a r := by
  unfold bsF
  rw [bsN_cons h]
  simp
theorem setD_eq (a : Int) : ∀ l : List S42, l.Pairwise (fun x y => x.f0 < y.f0) → setD l a = l.filter (fun y => decide (y.f0 ≠ a))
  | [], _ => by simp [setD]
  | x :: r, h => by
    obtain ⟨h1, h2⟩ := List.pairwise_cons.1 h
    by_cases c : x.f0 < a
    · have ih := setD_eq a r h2
      have e : setD (x :: r) a = x :: setD r a := by
        unfold setD
        rw [bsF_cons c, bsN_cons c]
        split <;> simp
      rw [e, ih, List.filter_cons_of_pos (by simp; omega)]
    · have z0 : bsN a (x :: r) = 0 := bsN_zero (fun y hy => by
        rcases List.mem_cons.1 hy with rfl | hy
        · omega
        · have := h1 y hy; omega)
      have hr := big_filter (a := a) (r := r) (fun y hy => by have := h1 y hy; omega)
      unfold setD bsF
      rw [z0]
      by_cases e : x.f0 = a
      · rw [List.filter_cons_of_neg (by simp; omega), hr]
        simp [e]
      · rw [List.filter_cons_of_pos (by simp; omega), hr]
        simp [e]
theorem setF_put (a v : Int) (hv : v ≥ 0) : ∀ l : List S42, l.Pairwise (fun x y => x.f0 < y.f0) → setF l a v = putL a v l
  | [], _ => by simp [setF, setD, putL, hv, bsN]
  | x :: r, h => by
    obtain ⟨h1, h2⟩ := List.pairwise_cons.1 h
    have sd := setD_eq a (x :: r) h
    by_cases c : x.f0 < a
    · have ih := setF_put a v hv r h2
      have e : setD (x :: r) a = x :: setD r a := by
        unfold setD
        rw [bsF_cons c, bsN_cons c]
        split <;> simp
      unfold setF at ih ⊢
      rw [if_pos hv] at ih ⊢
      rw [e, bsN_cons c, List.take_succ_cons, List.drop_succ_cons, List.cons_append, ih]
      show x :: putL a v r = if x.f0 ≥ a then _ else x :: putL a v r
      rw [if_neg (by omega)]
    · have z0 : bsN a (x :: r) = 0 := bsN_zero (fun y hy => by
        rcases List.mem_cons.1 hy with rfl | hy
        · omega
        · have := h1 y hy; omega)
      unfold setF
      rw [if_pos hv, sd, z0]
      unfold putL
      rw [if_pos (by omega)]
      rfl
theorem put_len (a v : Int) : ∀ l : List S42, (putL a v l).length ≤ l.length + 1
  | [] => by simp [putL]
  | x :: r => by
    unfold putL
    split
    · have := List.length_filter_le (fun y : S42 => decide (y.f0 ≠ a)) (x :: r)
      simp only [List.length_cons] at this ⊢
      omega
    · have := put_len a v r
      simp only [List.length_cons]
      omega
theorem set_t (x : List S42) (hx : x.length ≤ 256) (a v : Int) : ∀ (d i : Nat) (out : List S42), i + d = x.length → out.length ≤ i + 1 → Ev (fun k => spec_Set.l0 k x a v out true i) (out ++ (x.drop i).filter (fun y => decide (y.f0 ≠ a)))
  | 0, i, out, hi, hb => by
    rw [List.drop_eq_nil_of_le (by omega)]
    refine Ev.succ ?_
    simp only [spec_Set.l0, List.filter_nil, List.append_nil]
    exact Ev.neg (by omega) (Ev.pos (by simp) (Ev.now _))
  | d + 1, i, out, hi, hb => by
    have w : wrap64 ((i : Int) + 1) = ((i + 1 : Nat) : Int) := by rw [w64 (by omega) (by omega), cast_succ]
    have hl : i < x.length := by omega
    refine Ev.succ ?_
    simp only [spec_Set.l0]
    refine Ev.pos (by omega) (Ev.pos (by simp) (Ev.succ ?_))
    simp only [spec_Set.j2, w, rd_nat]
    rw [List.drop_eq_getElem_cons hl, ← g_get hl]
    by_cases e : (x.getD i z42).f0 = a
    · rw [List.filter_cons_of_neg (by rw [decide_eq_true_iff]; exact fun h => h e)]
      exact Ev.neg (by simp) (Ev.pos (by omega) (Ev.pos (by omega) (Ev.pos e (set_t x hx a v d (i + 1) out (by omega) (by omega)))))
    · rw [List.filter_cons_of_pos (by rw [decide_eq_true_iff]; exact e)]
      have := set_t x hx a v d (i + 1) (out ++ [x.getD i z42]) (by omega) (by simp; omega)
      rw [List.append_assoc] at this
      exact Ev.neg (by simp) (Ev.pos (by omega) (Ev.pos (by omega) (Ev.neg e (Ev.pos (by omega) this))))
theorem set_f (x : List S42) (hx : x.length ≤ 256) (a v : Int) : ∀ (d i : Nat) (out : List S42), i + d = x.length → out.length ≤ i → Ev (fun k => spec_Set.l0 k x a v out false i) (out ++ putL a v (x.drop i))
  | 0, i, out, hi, hb => by
    rw [List.drop_eq_nil_of_le (by omega)]
    refine Ev.succ ?_
    simp only [spec_Set.l0, putL]
    exact Ev.neg (by omega) (Ev.neg (by simp) (Ev.pos (by omega) (Ev.now _)))
  | d + 1, i, out, hi, hb => by
    have w : wrap64 ((i : Int) + 1) = ((i + 1 : Nat) : Int) := by rw [w64 (by omega) (by omega), cast_succ]
    have hl : i < x.length := by omega
    refine Ev.succ ?_
    simp only [spec_Set.l0, rd_nat]
    refine Ev.pos (by omega) (Ev.neg (by simp) (Ev.pos (by omega) (Ev.succ ?_)))
    simp only [spec_Set.j2, w, rd_nat, Option.bind_some]
    rw [List.drop_eq_getElem_cons hl, ← g_get hl]
    by_cases c : (x.getD i z42).f0 ≥ a
    · unfold putL
      rw [if_pos c]
      refine Ev.pos (decide_eq_true c) (Ev.pos (by omega) (Ev.pos (by omega) (Ev.pos (by omega) ?_)))
      by_cases e : (x.getD i z42).f0 = a
      · rw [List.filter_cons_of_neg (by rw [decide_eq_true_iff]; exact fun h => h e)]
        have := set_t x hx a v d (i + 1) (out ++ [⟨a, v⟩]) (by omega) (by simp; omega)
        rw [List.append_assoc] at this
        exact Ev.pos e this
      · rw [List.filter_cons_of_pos (by rw [decide_eq_true_iff]; exact e)]
        have := set_t x hx a v d (i + 1) ((out ++ [⟨a, v⟩]) ++ [x.getD i z42]) (by omega) (by simp; omega)
        have e0 : ((out ++ [(⟨a, v⟩ : S42)]) ++ [x.getD i z42]) ++ (x.drop (i + 1)).filter (fun y => decide (y.f0 ≠ a)) = out ++ (⟨a, v⟩ :: x.getD i z42 :: (x.drop (i + 1)).filter (fun y => decide (y.f0 ≠ a))) := by
          simp only [List.append_assoc, List.cons_append, List.nil_append]
        rw [e0] at this
        exact Ev.neg e (Ev.pos (by simp; omega) this)
    · unfold putL
      rw [if_neg c]
      have := set_f x hx a v d (i + 1) (out ++ [x.getD i z42]) (by omega) (by simp; omega)
      rw [List.append_assoc] at this
      exact Ev.neg (fun h => c (of_decide_eq_true h)) (Ev.pos (by omega) (Ev.pos (by omega) (Ev.neg (by omega) (Ev.pos (by omega) this))))
theorem set_ev (l : List S42) (a v : Int) (hl : l.length ≤ 1048576) : ∃ out : List S42, out.length ≤ 257 ∧ Ev (fun k => spec_Set.f k l a v) out ∧ Ev (fun k => impl_Set.f k l a v) out ∧ (LOk l → (0 ≤ a ∧ a ≤ 255) → (-1 ≤ v ∧ v ≤ 1000000000) → out = setF l a v) ∧ (¬ (LOk l ∧ (0 ≤ a ∧ a ≤ 255) ∧ (-1 ≤ v ∧ v ≤ 1000000000)) → out = []) := by
  obtain ⟨r, e1, e2, e3⟩ := leaves_iff l (by omega)
  unfold spec_Set.f impl_Set.f impl_isPlace.f spec_l12Value.f
  simp only [in_eq, within_eq, Option.bind_some]
  have no1 : Ev (fun k => spec_Set.j0 k l a v [] true) [] := Ev.succ (by simp only [spec_Set.j0]; exact Ev.pos (by simp) (Ev.now _))
  cases r with
  | false => exact ⟨[], by simp, Ev.bind e1 (Ev.neg (by simp) no1), Ev.bind e2 (Ev.neg (by simp) (Ev.now _)), fun h => absurd (e3.2 h) (by simp), fun _ => rfl⟩
  | true =>
    have h := e3.1 rfl
    have hn := lok_len h
    by_cases c : 0 ≤ a ∧ a ≤ 255
    · rw [decide_eq_true c]
      by_cases q : -1 ≤ v ∧ v ≤ 1000000000
      · rw [decide_eq_true q]
        by_cases n : v = -1
        · have hset : setF l a v = l.filter (fun y => decide (y.f0 ≠ a)) := by unfold setF; rw [if_neg (by omega), setD_eq a l (lok_pw h)]
          refine ⟨setF l a v, by rw [hset]; have := List.length_filter_le (fun y : S42 => decide (y.f0 ≠ a)) l; omega, Ev.bind e1 (Ev.pos (by simp) (Ev.pos (by simp) (Ev.pos n (Ev.succ ?_)))), Ev.bind e2 (Ev.pos (by simp) (Ev.pos (by simp) (Ev.pos (by simp) (Ev.pos (lok_setP h c) (Ev.now _))))), fun _ _ _ => rfl, fun hn => absurd ⟨h, c, q⟩ hn⟩
          simp only [spec_Set.j0]
          rw [hset]
          have hb : (v == -1) = true := by simpa using n
          rw [hb]
          exact Ev.neg (by simp) (set_t l hn a v l.length 0 [] (by omega) (by simp))
        · have hv : v ≥ 0 := by omega
          have hset := setF_put a v hv l (lok_pw h)
          refine ⟨setF l a v, by rw [hset]; have := put_len a v l; omega, Ev.bind e1 (Ev.pos (by simp) (Ev.pos (by simp) (Ev.neg n ?_))), Ev.bind e2 (Ev.pos (by simp) (Ev.pos (by simp) (Ev.pos (by simp) (Ev.pos (lok_setP h c) (Ev.now _))))), fun _ _ _ => rfl, fun hn => absurd ⟨h, c, q⟩ hn⟩
          rw [decide_eq_true (show 0 ≤ v ∧ v ≤ 1000000000 by omega)]
          refine Ev.succ ?_
          simp only [spec_Set.j0]
          rw [hset]
          have hb : (v == -1) = false := by simpa using n
          rw [hb]
          exact Ev.neg (by simp) (set_f l hn a v l.length 0 [] (by omega) (by simp))
      · rw [decide_eq_false q]
        refine ⟨[], by simp, Ev.bind e1 (Ev.pos (by simp) (Ev.pos (by simp) (Ev.neg (by omega) ?_))), Ev.bind e2 (Ev.pos (by simp) (Ev.pos (by simp) (Ev.neg (by simp) (Ev.now _)))), fun _ _ hq => absurd hq q, fun _ => rfl⟩
        rw [decide_eq_false (show ¬ (0 ≤ v ∧ v ≤ 1000000000) by omega)]
        exact no1
    · rw [decide_eq_false c]
      exact ⟨[], by simp, Ev.bind e1 (Ev.pos (by simp) (Ev.neg (by simp) no1)), Ev.bind e2 (Ev.pos (by simp) (Ev.neg (by simp) (Ev.now _))), fun _ hc => absurd hc c, fun _ => rfl⟩

theorem speak_l0 : ∀ (n : Nat) (x : List Int), x.length = 2 ^ n → n ≤ 8 → all64 x → Ev (fun k => spec_Peak.l0 k x) (rd (upn n x) 0)
  | 0, x, hx, hn, h => by
    refine Ev.succ ?_
    simp only [spec_Peak.l0]
    exact Ev.neg (by rw [hx]; decide) (Ev.pos (by rw [hx]; decide) (Ev.now _))
  | n + 1, x, hx, hn, h => by
    have hp : 2 ^ (n + 1) = 2 * 2 ^ n := by rw [Nat.pow_succ]; omega
    have hb : 2 ^ n ≤ 2 ^ 7 := Nat.pow_le_pow_right (by omega) (by omega)
    have h1 : 1 ≤ 2 ^ n := Nat.one_le_two_pow
    refine Ev.succ ?_
    simp only [spec_Peak.l0]
    exact Ev.pos (by omega) (Ev.bind (sup x h (2 ^ n) (by omega) (by omega)) (speak_l0 n (ups x) (ups_len (2 ^ n) x (by omega)) (by omega) (all64_iff.2 (ups_64 _ x (Nat.le_refl _)))))
def peakF (l : List S42) : Int := rd (upn 8 (rowF l)) 0
theorem rdL {y : List (List Int)} {j : Nat} {x : List Int} (h : y[j]? = some x) : rd_L3 y (j : Int) = x := getD_lt h
theorem peak_ok (l : List S42) (h : LOk l) (hl : l.length ≤ 1048576) : Ev (fun k => spec_Peak.f k l) (peakF l) ∧ Ev (fun k => impl_Peak.f k l) (peakF l) := by
  obtain ⟨r, e1, e2, e3⟩ := leaves_iff l (by omega)
  obtain rfl := e3.2 h
  have h8 : rd_L3 (levs l) 8 = upn 8 (rowF l) := rdL (levs_get l 8 (by omega))
  have hn : (upn 8 (rowF l)).length = 1 := row_len l 8 0 rfl
  unfold spec_Peak.f impl_Peak.f
  refine ⟨Ev.bind e1 (Ev.pos rfl (Ev.bind (srow l h hl) (speak_l0 8 (rowF l) (rowF_len l) (by omega) (rowF_64 l)))), Ev.bind e2 (Ev.pos rfl (Ev.bind (ilevels l h hl) (Ev.pos (by rw [levs_len]; decide) ?_)))⟩
  rw [h8]
  exact Ev.pos (by rw [hn]; decide) (Ev.now _)
theorem peak_ev (l : List S42) (hl : l.length ≤ 1048576) : ∃ r, Ev (fun k => spec_Peak.f k l) r ∧ Ev (fun k => impl_Peak.f k l) r := by
  obtain ⟨r, e1, e2, e3⟩ := leaves_iff l (by omega)
  cases r with
  | true =>
    obtain ⟨a, b⟩ := peak_ok l (e3.1 rfl) hl
    exact ⟨_, a, b⟩
  | false =>
    unfold spec_Peak.f impl_Peak.f
    exact ⟨-1, Ev.bind e1 (Ev.neg (by simp) (Ev.now _)), Ev.bind e2 (Ev.neg (by simp) (Ev.now _))⟩

theorem xor_all : ∀ a : Fin 256, Go.bits .xor .i64 ((a.val : Nat) : Int) 1 = ((a.val ^^^ 1 : Nat) : Int) := by decide +kernel
theorem xor_at (a : Nat) (h : a ≤ 255) : Go.bits .xor .i64 (a : Int) 1 = ((a ^^^ 1 : Nat) : Int) := xor_all ⟨a, by omega⟩
theorem shr_all : ∀ a : Fin 256, ∀ i : Fin 8, shr .i64 ((a.val : Nat) : Int) ((i.val : Nat) : Int) = ((a.val / 2 ^ i.val : Nat) : Int) := by decide +kernel
theorem shr_at (a i : Nat) (h : a ≤ 255) (hi : i < 8) : shr .i64 (a : Int) (i : Int) = ((a / 2 ^ i : Nat) : Int) := shr_all ⟨a, by omega⟩ ⟨i, hi⟩
theorem div_le (a i : Nat) (h : a ≤ 255) : a / 2 ^ i ≤ 255 := Nat.le_trans (Nat.div_le_self _ _) h
theorem small {n : Nat} (h : n ≤ 255) : wrap64 (n : Int) = n := w64 (by omega) (by omega)
theorem beside_lt (a i d : Nat) (h : a ≤ 255) (hd : i + (d + 1) = 8) : (a / 2 ^ i) ^^^ 1 < 2 ^ (d + 1) := by
  have h1 : a / 2 ^ i < 2 ^ (d + 1) := Nat.div_lt_of_lt_mul (by rw [← Nat.pow_add, hd]; omega)
  exact Nat.xor_lt_two_pow h1 (by have : 1 ≤ 2 ^ d := Nat.one_le_two_pow; rw [Nat.pow_succ]; omega)
/-- The numbers beside a place on its way up, from step i on. -/
def wayF (R : List Int) (a : Nat) : Nat → Nat → List Int
  | 0, _ => []
  | d + 1, i => rd (upn i R) (((a / 2 ^ i) ^^^ 1 : Nat) : Int) :: wayF R a d (i + 1)
theorem wayF_len (R : List Int) (a : Nat) : ∀ d i, (wayF R a d i).length = d
  | 0, i => rfl
  | d + 1, i => by simp [wayF, wayF_len R a d]
theorem way_l0 (l : List S42) (a : Nat) (ha : a ≤ 255) : ∀ (d i : Nat) (acc : List Int), i + d = 8 → acc.length ≤ i →
    Ev (fun k => spec_Way.l0 k ((a / 2 ^ i : Nat) : Int) acc (upn i (rowF l))) (acc ++ wayF (rowF l) a d i) ∧ Ev (fun k => impl_Way.l0 k (a : Int) acc ((levs l).take 8) 8 i) (acc ++ wayF (rowF l) a d i)
  | 0, i, acc, hi, hc => by
    have hn := row_len l i 0 hi
    simp only [wayF, List.append_nil]
    refine ⟨Ev.succ ?_, Ev.succ ?_⟩
    · simp only [spec_Way.l0]
      exact Ev.neg (by rw [hn]; decide) (Ev.now _)
    · simp only [impl_Way.l0]
      exact Ev.neg (by omega) (Ev.now _)
  | d + 1, i, acc, hi, hc => by
    have hn := row_len l i (d + 1) hi
    have hp : 2 ^ (d + 1) = 2 * 2 ^ d := by rw [Nat.pow_succ]; omega
    have h1 : 1 ≤ 2 ^ d := Nat.one_le_two_pow
    have hb : 2 ^ d ≤ 2 ^ 7 := Nat.pow_le_pow_right (by omega) (by omega)
    have hx := xor_at (a / 2 ^ i) (div_le a i ha)
    have hlt := beside_lt a i d ha hi
    have hy : ((levs l).take 8)[i]? = some (upn i (rowF l)) := by rw [List.getElem?_take, if_pos (by omega), levs_get l i (by omega)]
    have hl8 : ((levs l).take 8).length = 8 := by rw [List.length_take, levs_len]; omega
    obtain ⟨j1, j2⟩ := way_l0 l a ha d (i + 1) (acc ++ [rd (upn i (rowF l)) (((a / 2 ^ i) ^^^ 1 : Nat) : Int)]) (by omega) (by simp; omega)
    rw [List.append_assoc] at j1 j2
    refine ⟨Ev.succ ?_, Ev.succ ?_⟩
    · simp only [spec_Way.l0, hx]
      rw [half, small (div_le a (i + 1) ha)]
      rw [upn_succ] at j1
      exact Ev.pos (by omega) (Ev.pos (by omega) (Ev.pos (by omega) (Ev.pos (by omega) (Ev.bind (sup (upn i (rowF l)) (upn_64 i _ (rowF_64 l)) (2 ^ d) (by omega) (by omega)) j1))))
    · simp only [impl_Way.l0]
      rw [shr_at a i ha (by omega), hx, rdL hy, w64 (x := (i : Int) + 1) (by omega) (by omega), cast_succ]
      exact Ev.pos (by omega) (Ev.pos (by omega) (Ev.pos (by omega) (Ev.pos (by omega) (Ev.pos (by omega) (Ev.pos (by omega) j2)))))
theorem rd_64 {x : List Int} (h : ∀ y, y ∈ x → i64_ y) (b : Int) : i64_ (rd x b) := by
  have e : rd x b = x.getD b.toNat 0 := rfl
  rw [e, List.getD_eq_getElem?_getD]
  cases hh : x[b.toNat]? with
  | none => exact ⟨by decide, by decide⟩
  | some y => exact h y (List.mem_of_getElem? hh)
theorem wayF_64 (R : List Int) (a : Nat) (hR : all64 R) : ∀ d i, ∀ y, y ∈ wayF R a d i → i64_ y
  | 0, i, y, h => by simp [wayF] at h
  | d + 1, i, y, h => by
    simp only [wayF, List.mem_cons] at h
    rcases h with rfl | h
    · exact rd_64 (all64_iff.1 (upn_64 i R hR)) _
    · exact wayF_64 R a hR d (i + 1) y h
theorem way_ev (l : List S42) (a : Int) (hl : l.length ≤ 1048576) : ∃ out, (out.length ≤ 8 ∧ ∀ y, y ∈ out → i64_ y) ∧ Ev (fun k => spec_Way.f k l a) out ∧ Ev (fun k => impl_Way.f k l a) out ∧ (LOk l → 0 ≤ a → a ≤ 255 → out = wayF (rowF l) a.toNat 8 0) := by
  obtain ⟨r, e1, e2, e3⟩ := leaves_iff l (by omega)
  unfold spec_Way.f impl_Way.f impl_isPlace.f
  simp only [in_eq, within_eq, Option.bind_some]
  have no1 : Ev (fun k => spec_Way.j0 k l a [] true) [] := Ev.succ (by simp only [spec_Way.j0]; exact Ev.pos (by simp) (Ev.now _))
  have no2 : Ev (fun k => impl_Way.j0 k l a true) [] := Ev.succ (by simp only [impl_Way.j0]; exact Ev.pos (by simp) (Ev.now _))
  cases r with
  | false => exact ⟨[], by simp, Ev.bind e1 (Ev.neg (by simp) no1), Ev.bind e2 (Ev.neg (by simp) no2), fun h => absurd (e3.2 h) (by simp)⟩
  | true =>
    have h := e3.1 rfl
    by_cases c : 0 ≤ a ∧ a ≤ 255
    · rw [decide_eq_true c]
      obtain ⟨n, rfl⟩ := Int.eq_ofNat_of_zero_le c.1
      obtain ⟨j1, j2⟩ := way_l0 l n (by omega) 8 0 [] rfl (by simp)
      refine ⟨wayF (rowF l) n 8 0, ⟨by rw [wayF_len]; exact Nat.le_refl _, wayF_64 _ _ (rowF_64 l) _ _⟩, Ev.bind e1 (Ev.pos rfl (Ev.succ ?_)), Ev.bind e2 (Ev.pos rfl (Ev.succ ?_)), fun _ _ _ => rfl⟩
      · simp only [spec_Way.j0]
        exact Ev.neg (by simp) (Ev.bind (srow l h hl) (by simpa [upn] using j1))
      · have hl8 : ((levs l).take 8).length = 8 := by rw [List.length_take, levs_len]; omega
        simp only [impl_Way.j0]
        refine Ev.neg (by simp) (Ev.bind (ilevels l h hl) (Ev.pos (by rw [levs_len]; decide) ?_))
        simp only [Option.bind_some]
        rw [hl8]
        exact j2
    · rw [decide_eq_false c]
      exact ⟨[], by simp, Ev.bind e1 (Ev.pos rfl no1), Ev.bind e2 (Ev.pos rfl no2), fun _ x y => absurd ⟨x, y⟩ c⟩

/-! what a place has -/
theorem lok_mem {l : List S42} (h : LOk l) : ∀ x, x ∈ l → (0 ≤ x.f0 ∧ x.f0 ≤ 255) ∧ (0 ≤ x.f1 ∧ x.f1 ≤ 1000000000) := by
  intro x hx
  obtain ⟨j, hj, e⟩ := List.getElem_of_mem hx
  have := h j hj
  rw [g_get hj, e] at this
  exact ⟨this.1, this.2.1⟩
theorem lok_of {l : List S42} (h : ∀ x, x ∈ l → (0 ≤ x.f0 ∧ x.f0 ≤ 255) ∧ (0 ≤ x.f1 ∧ x.f1 ≤ 1000000000)) (hp : l.Pairwise (fun x y => x.f0 < y.f0)) : LOk l := by
  intro j hj
  have hm := h _ (List.getElem_mem hj)
  rw [← g_get hj] at hm
  refine ⟨hm.1, hm.2, fun h0 => ?_⟩
  have := List.pairwise_iff_getElem.1 hp (j - 1) j (by omega) hj (by omega)
  rw [← g_get hj, ← g_get (by omega : j - 1 < l.length)] at this
  exact this
def hasF (l : List S42) (a h : Int) : Int := l.foldl (fun h x => if x.f0 = a then x.f1 else h) h
theorem has_filter_ne {a b : Int} (hb : b ≠ a) : ∀ (l : List S42) (h : Int), hasF (l.filter (fun y => decide (y.f0 ≠ a))) b h = hasF l b h
  | [], h => rfl
  | x :: r, h => by
    by_cases e : x.f0 = a
    · rw [List.filter_cons_of_neg (by simpa using e), has_filter_ne hb r h]
      show _ = hasF r b (if x.f0 = b then x.f1 else h)
      rw [if_neg (by omega)]
    · rw [List.filter_cons_of_pos (by simpa using e)]
      exact has_filter_ne hb r _
theorem has_filter_eq (a : Int) : ∀ (l : List S42) (h : Int), hasF (l.filter (fun y => decide (y.f0 ≠ a))) a h = h
  | [], h => rfl
  | x :: r, h => by
    by_cases e : x.f0 = a
    · rw [List.filter_cons_of_neg (by simpa using e), has_filter_eq a r h]
    · rw [List.filter_cons_of_pos (by simpa using e)]
      show hasF _ a (if x.f0 = a then x.f1 else h) = h
      rw [if_neg e]
      exact has_filter_eq a r h
theorem has_put_ne {a b : Int} (hb : b ≠ a) (v : Int) : ∀ (l : List S42) (h : Int), hasF (putL a v l) b h = hasF l b h
  | [], h => by
    show (if a = b then v else h) = h
    rw [if_neg (by omega)]
  | x :: r, h => by
    unfold putL
    split
    · show hasF (List.filter _ (x :: r)) b (if a = b then v else h) = _
      rw [if_neg (by omega), has_filter_ne hb]
    · exact has_put_ne hb v r _
theorem has_put_eq (a v : Int) : ∀ (l : List S42) (h : Int), hasF (putL a v l) a h = v
  | [], h => by
    show (if a = a then v else h) = v
    rw [if_pos rfl]
  | x :: r, h => by
    unfold putL
    split
    · show hasF (List.filter _ (x :: r)) a (if a = a then v else h) = v
      rw [if_pos rfl, has_filter_eq]
    · exact has_put_eq a v r _
theorem has_or (a : Int) : ∀ (l : List S42) (h : Int), (hasF l a h = h ∧ ∀ x, x ∈ l → x.f0 ≠ a) ∨ (⟨a, hasF l a h⟩ : S42) ∈ l
  | [], h => Or.inl ⟨rfl, fun x hx => by simp at hx⟩
  | x :: r, h => by
    have e : hasF (x :: r) a h = hasF r a (if x.f0 = a then x.f1 else h) := rfl
    rw [e]
    rcases has_or a r (if x.f0 = a then x.f1 else h) with ⟨e1, h1⟩ | h1
    · by_cases c : x.f0 = a
      · rw [if_pos c] at e1
        refine Or.inr ?_
        rw [if_pos c, e1, ← c]
        exact List.mem_cons_self ..
      · rw [if_neg c] at e1
        refine Or.inl ⟨by rw [if_neg c]; exact e1, fun y hy => ?_⟩
        rcases List.mem_cons.1 hy with rfl | hy
        · exact c
        · exact h1 y hy
    · exact Or.inr (List.mem_cons_of_mem _ h1)
theorem filter_put (a v : Int) : ∀ l : List S42, (putL a v l).filter (fun y => decide (y.f0 ≠ a)) = l.filter (fun y => decide (y.f0 ≠ a))
  | [] => by simp [putL]
  | x :: r => by
    unfold putL
    split
    · rw [List.filter_cons_of_neg (by simp), List.filter_filter]
      simp only [Bool.and_self]
    · rw [List.filter_cons_of_pos (by simp; omega), List.filter_cons_of_pos (by simp; omega), filter_put a v r]
theorem put_own (a v : Int) : ∀ l : List S42, l.Pairwise (fun x y => x.f0 < y.f0) → (⟨a, v⟩ : S42) ∈ l → putL a v l = l
  | [], _, h => by simp at h
  | x :: r, hp, h => by
    obtain ⟨h1, h2⟩ := List.pairwise_cons.1 hp
    unfold putL
    rcases List.mem_cons.1 h with e | e
    · subst e
      rw [if_pos (by show a ≥ a; omega), List.filter_cons_of_neg (by simp), big_filter (fun y hy => h1 y hy)]
    · have := h1 _ e
      rw [if_neg (by show ¬ x.f0 ≥ a; have : x.f0 < a := this; omega), put_own a v r h2 e]
theorem put_ge (a v : Int) : ∀ r : List S42, (∀ y, y ∈ r → a ≤ y.f0) → putL a v r = ⟨a, v⟩ :: r.filter (fun y => decide (y.f0 ≠ a))
  | [], _ => rfl
  | x :: r, h => by
    unfold putL
    rw [if_pos (h x (List.mem_cons_self ..))]
theorem put_filter (a v : Int) : ∀ l : List S42, l.Pairwise (fun x y => x.f0 < y.f0) → putL a v (l.filter (fun y => decide (y.f0 ≠ a))) = putL a v l
  | [], _ => rfl
  | x :: r, hp => by
    obtain ⟨h1, h2⟩ := List.pairwise_cons.1 hp
    by_cases c : x.f0 < a
    · rw [List.filter_cons_of_pos (by simp; omega)]
      unfold putL
      rw [if_neg (by omega), if_neg (by omega), put_filter a v r h2]
    · have hg : ∀ y, y ∈ x :: r → a ≤ y.f0 := fun y hy => by
        rcases List.mem_cons.1 hy with rfl | hy
        · omega
        · have := h1 y hy; omega
      rw [put_ge a v (x :: r) hg, put_ge a v _ (fun y hy => hg y (List.mem_filter.1 hy).1), List.filter_filter]
      simp only [Bool.and_self]
theorem mem_put {a v : Int} : ∀ {l : List S42} {x : S42}, x ∈ putL a v l → x = ⟨a, v⟩ ∨ (x ∈ l)
  | [], x, h => Or.inl (by simpa [putL] using h)
  | y :: r, x, h => by
    unfold putL at h
    split at h
    · rcases List.mem_cons.1 h with e | e
      · exact Or.inl e
      · exact Or.inr (List.mem_filter.1 e).1
    · rcases List.mem_cons.1 h with e | e
      · exact Or.inr (by rw [e]; exact List.mem_cons_self ..)
      · rcases mem_put e with e | e
        · exact Or.inl e
        · exact Or.inr (List.mem_cons_of_mem _ e)
theorem put_at {a v : Int} : ∀ {l : List S42} {x : S42}, x ∈ putL a v l → x.f0 = a → x.f1 = v
  | [], x, h, _ => by
    obtain rfl : x = ⟨a, v⟩ := by simpa [putL] using h
    rfl
  | y :: r, x, h, e0 => by
    unfold putL at h
    split at h
    · rcases List.mem_cons.1 h with e | e
      · rw [e]
      · have := (List.mem_filter.1 e).2
        simp at this
        exact absurd e0 this
    · rename_i c
      rcases List.mem_cons.1 h with e | e
      · rw [e] at e0; omega
      · exact put_at e e0
theorem put_pw (a v : Int) : ∀ l : List S42, l.Pairwise (fun x y => x.f0 < y.f0) → (putL a v l).Pairwise (fun x y => x.f0 < y.f0)
  | [], _ => by simp [putL]
  | x :: r, hp => by
    obtain ⟨h1, h2⟩ := List.pairwise_cons.1 hp
    unfold putL
    split
    · refine List.pairwise_cons.2 ⟨fun y hy => ?_, hp.filter _⟩
      have hm := List.mem_filter.1 hy
      have hne : y.f0 ≠ a := by simpa using hm.2
      rcases List.mem_cons.1 hm.1 with rfl | hy
      · show a < y.f0; omega
      · have := h1 y hy
        show a < y.f0; omega
    · rename_i c
      refine List.pairwise_cons.2 ⟨fun y hy => ?_, put_pw a v r h2⟩
      rcases mem_put hy with rfl | hy
      · show x.f0 < a; omega
      · exact h1 y hy
theorem setF_neg {l : List S42} (h : LOk l) (a : Int) {v : Int} (hv : ¬ v ≥ 0) : setF l a v = l.filter (fun y => decide (y.f0 ≠ a)) := by
  unfold setF
  rw [if_neg hv, setD_eq a l (lok_pw h)]
theorem setF_ok {l : List S42} (h : LOk l) {a v : Int} (ha : 0 ≤ a ∧ a ≤ 255) (hv : v ≤ 1000000000) : LOk (setF l a v) := by
  by_cases c : v ≥ 0
  · rw [setF_put a v c l (lok_pw h)]
    refine lok_of (fun x hx => ?_) (put_pw a v l (lok_pw h))
    rcases mem_put hx with rfl | hx
    · exact ⟨ha, c, hv⟩
    · exact lok_mem h x hx
  · rw [setF_neg h a c]
    exact lok_of (fun x hx => lok_mem h x (List.mem_filter.1 hx).1) ((lok_pw h).filter _)
theorem setF_at {l : List S42} (h : LOk l) {a v : Int} {x : S42} (hx : x ∈ setF l a v) (e : x.f0 = a) : x.f1 = v := by
  by_cases c : v ≥ 0
  · rw [setF_put a v c l (lok_pw h)] at hx
    exact put_at hx e
  · rw [setF_neg h a c] at hx
    have := (List.mem_filter.1 hx).2
    simp at this
    exact absurd e this
theorem setF_has {l : List S42} (h : LOk l) {a v : Int} (hv : -1 ≤ v) : hasF (setF l a v) a (-1) = v := by
  by_cases c : v ≥ 0
  · rw [setF_put a v c l (lok_pw h), has_put_eq]
  · rw [setF_neg h a c, has_filter_eq]
    omega
theorem setF_has_ne {l : List S42} (h : LOk l) {a b : Int} (hb : b ≠ a) (v : Int) : hasF (setF l a v) b (-1) = hasF l b (-1) := by
  by_cases c : v ≥ 0
  · rw [setF_put a v c l (lok_pw h), has_put_ne hb]
  · rw [setF_neg h a c, has_filter_ne hb]
theorem setF_filter {l : List S42} (h : LOk l) (a v : Int) : (setF l a v).filter (fun y => decide (y.f0 ≠ a)) = l.filter (fun y => decide (y.f0 ≠ a)) := by
  by_cases c : v ≥ 0
  · rw [setF_put a v c l (lok_pw h), filter_put]
  · rw [setF_neg h a c, List.filter_filter]
    simp only [Bool.and_self]
theorem has_in {l : List S42} (h : LOk l) (a : Int) : -1 ≤ hasF l a (-1) ∧ hasF l a (-1) ≤ 1000000000 := by
  rcases has_or a l (-1) with ⟨e, _⟩ | e
  · rw [e]; omega
  · have : 0 ≤ hasF l a (-1) ∧ hasF l a (-1) ≤ 1000000000 := (lok_mem h _ e).2
    omega
theorem set_back {l : List S42} (h : LOk l) {a v : Int} (ha : 0 ≤ a ∧ a ≤ 255) (hv : v ≤ 1000000000) : setF (setF l a v) a (hasF l a (-1)) = l := by
  have hs := setF_ok h ha hv
  by_cases c : hasF l a (-1) ≥ 0
  · rcases has_or a l (-1) with ⟨e, _⟩ | e
    · omega
    · rw [setF_put _ _ c _ (lok_pw hs), ← put_filter _ _ _ (lok_pw hs), setF_filter h, put_filter _ _ _ (lok_pw h), put_own _ _ _ (lok_pw h) e]
  · rw [setF_neg hs a c, setF_filter h]
    rcases has_or a l (-1) with ⟨_, e⟩ | e
    · exact List.filter_eq_self.2 (fun y hy => by simpa using e y hy)
    · have : 0 ≤ hasF l a (-1) ∧ hasF l a (-1) ≤ 1000000000 := (lok_mem h _ e).2
      omega
theorem put_has (j : Nat) : ∀ (l : List S42) (y : List Int) (h : Int), (∀ x, x ∈ l → 0 ≤ x.f0) → j < y.length → y.getD j 0 = leafN (j : Int) h → (l.foldl putLeaf y).getD j 0 = leafN (j : Int) (hasF l (j : Int) h)
  | [], y, h, _, _, e => e
  | x :: r, y, h, hx, hj, e => by
    have h0 := hx x (List.mem_cons_self ..)
    show (r.foldl putLeaf (putLeaf y x)).getD j 0 = leafN (j : Int) (hasF r (j : Int) (if x.f0 = (j : Int) then x.f1 else h))
    refine put_has j r _ _ (fun z hz => hx z (List.mem_cons_of_mem _ hz)) (by simpa [putLeaf] using hj) ?_
    unfold putLeaf
    by_cases c : x.f0 = (j : Int)
    · rw [if_pos c, c, Int.toNat_natCast, List.getD_eq_getElem?_getD, List.getElem?_set_self hj]
      rfl
    · rw [if_neg c, List.getD_eq_getElem?_getD, List.getElem?_set_ne (by omega), ← List.getD_eq_getElem?_getD]
      exact e
theorem row_has {l : List S42} (h : LOk l) {j : Nat} (hj : j < 256) : (rowF l).getD j 0 = leafN (j : Int) (hasF l (j : Int) (-1)) :=
  put_has j l _ (-1) (fun x hx => (lok_mem h x hx).1.1) (by simpa using hj) (by
    rw [List.getD_eq_getElem?_getD, List.getElem?_replicate, if_pos hj]
    unfold leafN
    rw [if_pos (by decide)]
    rfl)
theorem ups_get : ∀ (j : Nat) (x : List Int), 2 * j + 1 < x.length → (ups x).getD j 0 = pr (x.getD (2 * j) 0) (x.getD (2 * j + 1) 0)
  | 0, a :: b :: r, h => rfl
  | j + 1, a :: b :: r, h => ups_get j r (by simp at h; omega)
  | _, [], h => absurd h (by simp)
  | _, [_], h => absurd h (by simp)
theorem upn_eq (a : Nat) : ∀ (i d : Nat) (x y : List Int), x.length = 2 ^ (i + d) → y.length = 2 ^ (i + d) → (∀ j, j < 2 ^ (i + d) → j ≠ a → x.getD j 0 = y.getD j 0) → ∀ j, j ≠ a / 2 ^ i → j < 2 ^ d → (upn i x).getD j 0 = (upn i y).getD j 0
  | 0, d, x, y, hx, hy, h, j, hj, hd => h j (by rw [Nat.zero_add]; exact hd) (by simpa using hj)
  | i + 1, d, x, y, hx, hy, h, j, hj, hd => by
    have ea : i + 1 + d = i + (d + 1) := by omega
    have hp : 2 ^ (d + 1) = 2 * 2 ^ d := by rw [Nat.pow_succ]; omega
    have ed : a / 2 ^ (i + 1) = a / 2 ^ i / 2 := by rw [Nat.pow_succ, Nat.div_div_eq_div_mul]
    rw [ea] at hx hy h
    rw [upn_succ, upn_succ, ups_get j _ (by rw [upn_len i (d + 1) x hx]; omega), ups_get j _ (by rw [upn_len i (d + 1) y hy]; omega)]
    rw [ed] at hj
    rw [upn_eq a i (d + 1) x y hx hy h (2 * j) (by omega) (by omega), upn_eq a i (d + 1) x y hx hy h (2 * j + 1) (by omega) (by omega)]
theorem xor_all2 : ∀ b : Fin 256, b.val ^^^ 1 = if b.val % 2 = 0 then b.val + 1 else b.val - 1 := by decide +kernel
theorem xor_is {b : Nat} (h : b ≤ 255) : b ^^^ 1 = if b % 2 = 0 then b + 1 else b - 1 := xor_all2 ⟨b, by omega⟩
theorem xor_ne {b : Nat} (h : b ≤ 255) : b ^^^ 1 ≠ b := by
  rw [xor_is h]
  split <;> omega
theorem way_eq (a : Nat) (ha : a ≤ 255) (x y : List Int) (hx : x.length = 256) (hy : y.length = 256) (h : ∀ j, j < 256 → j ≠ a → x.getD j 0 = y.getD j 0) : ∀ d i, i + d = 8 → wayF x a d i = wayF y a d i
  | 0, i, hi => rfl
  | d + 1, i, hi => by
    unfold wayF
    have h8 : 2 ^ (i + (d + 1)) = 256 := by rw [hi]
    rw [way_eq a ha x y hx hy h d (i + 1) (by omega), rdn, rdn, upn_eq a i (d + 1) x y (by rw [h8]; exact hx) (by rw [h8]; exact hy) (by rw [h8]; exact h) _ (xor_ne (div_le a i ha)) (beside_lt a i d ha hi)]
theorem way_get (R : List Int) (a : Nat) : ∀ d i k, k < d → (wayF R a d i).getD k 0 = (upn (i + k) R).getD ((a / 2 ^ (i + k)) ^^^ 1) 0
  | 0, i, k, h => absurd h (by omega)
  | d + 1, i, 0, h => rfl
  | d + 1, i, k + 1, h => by
    have := way_get R a d (i + 1) k (by omega)
    rw [show i + 1 + k = i + (k + 1) by omega] at this
    exact this
theorem climb_up (R : List Int) (hR : R.length = 256) (a : Nat) (ha : a ≤ 255) (w : List Int) (hw : ∀ k, k < 8 → w.getD k 0 = (upn k R).getD ((a / 2 ^ k) ^^^ 1) 0) : ∀ d i, i + d = 8 → climb a w d i ((upn i R).getD (a / 2 ^ i) 0) = (upn 8 R).getD 0 0
  | 0, i, hi => by
    obtain rfl : i = 8 := by omega
    show (upn 8 R).getD (a / 2 ^ 8) 0 = _
    rw [show a / 2 ^ 8 = 0 by omega]
  | d + 1, i, hi => by
    have ed : a / 2 ^ (i + 1) = a / 2 ^ i / 2 := by rw [Nat.pow_succ, Nat.div_div_eq_div_mul]
    have hl := upn_len i (d + 1) R (by rw [hR, hi])
    have hp : 2 ^ (d + 1) = 2 * 2 ^ d := by rw [Nat.pow_succ]; omega
    have hlt : a / 2 ^ i < 2 ^ (d + 1) := Nat.div_lt_of_lt_mul (by rw [← Nat.pow_add, hi]; omega)
    have hx := xor_is (div_le a i ha)
    rw [← climb_up R hR a ha w hw d (i + 1) (by omega)]
    show climb a w d (i + 1) (pr (fst_ a i ((upn i R).getD (a / 2 ^ i) 0) (rd w (i : Int))) (snd_ a i ((upn i R).getD (a / 2 ^ i) 0) (rd w (i : Int)))) = _
    rw [rdn, hw i (by omega), upn_succ, ed, ups_get _ _ (by rw [hl]; omega)]
    refine congrArg (climb a w d (i + 1)) ?_
    unfold fst_ snd_
    generalize a / 2 ^ i = b at *
    by_cases c : b % 2 = 0
    · rw [if_pos c, if_pos c]
      rw [if_pos c] at hx
      rw [hx, show 2 * (b / 2) = b by omega]
    · rw [if_neg c, if_neg c]
      rw [if_neg c] at hx
      rw [hx, show 2 * (b / 2) = b - 1 by omega, show b - 1 + 1 = b by omega]
theorem climb_has {l : List S42} (h : LOk l) {a : Nat} (ha : a ≤ 255) : climb a (wayF (rowF l) a 8 0) 8 0 (leafN (a : Int) (hasF l (a : Int) (-1))) = peakF l := by
  have := climb_up (rowF l) (rowF_len l) a ha (wayF (rowF l) a 8 0) (fun k hk => by
    have := way_get (rowF l) a 8 0 k hk
    rw [Nat.zero_add] at this
    exact this) 8 0 rfl
  rw [Nat.pow_zero, Nat.div_one] at this
  show _ = (upn 8 (rowF l)).getD 0 0
  rw [← row_has h (by omega)]
  exact this
theorem way_set {l : List S42} (h : LOk l) {a : Nat} {v : Int} (ha : a ≤ 255) (hv : v ≤ 1000000000) : wayF (rowF (setF l (a : Int) v)) a 8 0 = wayF (rowF l) a 8 0 :=
  way_eq a ha _ _ (rowF_len _) (rowF_len _) (fun j hj hne => by
    rw [row_has (setF_ok h ⟨by omega, by omega⟩ hv) hj, row_has h hj, setF_has_ne h (by omega)]) 8 0 rfl

theorem set_short (x : List S42) (hx : x.length ≤ 100) (a v : Int) : ∃ y, Ev (fun k => spec_Set.f k x a v) y ∧ y.length ≤ x.length + 1 := by
  obtain ⟨out, ho, e1, _, e3, e4⟩ := set_ev x a v (by omega)
  refine ⟨out, e1, ?_⟩
  by_cases c : LOk x ∧ (0 ≤ a ∧ a ≤ 255) ∧ (-1 ≤ v ∧ v ≤ 1000000000)
  · rw [e3 c.1 c.2.1 c.2.2]
    by_cases g : v ≥ 0
    · rw [setF_put a v g x (lok_pw c.1)]
      exact put_len a v x
    · rw [setF_neg c.1 a g]
      have := List.length_filter_le (fun y : S42 => decide (y.f0 ≠ a)) x
      omega
  · rw [e4 c]
    simp

theorem and255 (n : Int) : 0 ≤ Go.bits .and .i64 n 255 ∧ Go.bits .and .i64 n 255 ≤ 255 := by
  have h : (BitVec.ofInt 64 255).toNat = 2 ^ 8 - 1 := by decide
  have key : (BitVec.ofInt 64 n &&& BitVec.ofInt 64 255).toNat = (n % ((2 ^ 64 : Nat) : Int)).toNat % 2 ^ 8 := by
    rw [BitVec.toNat_and, BitVec.toNat_ofInt, h, Nat.and_two_pow_sub_one_eq_mod]
  have e : Go.bits .and .i64 n 255 = IntKind.i64.wrap ((BitVec.ofInt 64 n &&& BitVec.ofInt 64 255).toNat : Nat) := rfl
  rw [e, key, IntKind.wrap_i64]
  omega
theorem new_l0 (x0 : List Int) : ∀ (d k : Nat) (x3 x4 : Int), 0 ≤ x4 → x4 ≤ (x0.length : Int) → (x0.length : Int) - x4 = d → d < k → (x0.length : Int) < 9223372036854775807 → ∃ h, spec_l1New.l0 k x0 x3 x4 = some (x0, 0, h)
  | 0, k, x3, x4, h0, h1, h2, h3, h4 => by
    obtain ⟨k, rfl⟩ : ∃ m, k = m + 1 := ⟨k - 1, by omega⟩
    simp only [spec_l1New.l0]
    rw [if_neg (by omega)]
    exact ⟨_, rfl⟩
  | d + 1, k, x3, x4, h0, h1, h2, h3, h4 => by
    obtain ⟨k, rfl⟩ : ∃ m, k = m + 1 := ⟨k - 1, by omega⟩
    simp only [spec_l1New.l0]
    rw [if_pos (by omega), if_pos h0, w64 (x := x4 + 1) (by omega) (by omega)]
    exact new_l0 x0 d k _ _ (by omega) (by omega) (by omega) (by omega) h4
theorem new_l0_same (x0 : List Int) : ∀ (k k' : Nat) (x3 x4 : Int) (r r'), spec_l1New.l0 k x0 x3 x4 = some r → spec_l1New.l0 k' x0 x3 x4 = some r' → r = r'
  | 0, _, _, _, _, _, h, _ => by simp [spec_l1New.l0] at h
  | _, 0, _, _, _, _, _, h => by simp [spec_l1New.l0] at h
  | k + 1, k' + 1, x3, x4, r, r', h, h' => by
    simp only [spec_l1New.l0] at h h'
    split at h
    · rename_i c
      rw [if_pos c] at h'
      split at h
      · rename_i c2
        rw [if_pos c2] at h'
        exact new_l0_same x0 k k' _ _ _ _ h h'
      · simp at h
    · rename_i c
      rw [if_neg c] at h'
      simp_all
theorem new_ev (x0 : List Int) (hl : (x0.length : Int) < 9223372036854775807) : ∃ h, Ev (fun k => spec_l1New.f k x0) (x0, 0, h) := by
  obtain ⟨h, e⟩ := new_l0 x0 x0.length (x0.length + 1) (wrap64 (111029 + (x0.length : Int))) 0 (by omega) (by omega) (by omega) (by omega) hl
  refine ⟨h, x0.length + 1, fun k hk => ?_⟩
  obtain ⟨h', e'⟩ := new_l0 x0 x0.length k (wrap64 (111029 + (x0.length : Int))) 0 (by omega) (by omega) (by omega) (by omega) hl
  show spec_l1New.l0 k x0 (wrap64 (111029 + (x0.length : Int))) 0 = some (x0, 0, h)
  rw [e', ← new_l0_same _ _ _ _ _ _ _ e e']
theorem byte_some (l : List Int) (hl : (l.length : Int) < 9223372036854775807) (i h : Int) (h0 : 0 ≤ i) (h1 : i ≤ l.length) : ∃ b i' h', spec_l1Byte.f l i h = some (b, i', h') ∧ 0 ≤ b ∧ b ≤ 255 ∧ 0 ≤ i' ∧ i' ≤ l.length := by
  unfold spec_l1Byte.f
  by_cases hlt : i < (l.length : Int)
  · rw [if_pos hlt, if_pos h0]
    exact ⟨_, _, _, rfl, (and255 _).1, (and255 _).2, by rw [w64 (by omega) (by omega)]; omega, by rw [w64 (by omega) (by omega)]; omega⟩
  · rw [if_neg hlt]
    exact ⟨_, _, _, rfl, (and255 _).1, (and255 _).2, h0, h1⟩
theorem tmod_in {a b : Int} (h0 : 0 ≤ a) (h1 : 0 < b) : 0 ≤ Int.tmod a b ∧ Int.tmod a b < b := by
  rw [Int.tmod_eq_emod_of_nonneg h0]
  exact ⟨Int.emod_nonneg _ (by omega), Int.emod_lt_of_pos _ h1⟩
theorem below_some (l : List Int) (hl : (l.length : Int) < 9223372036854775807) (i h n : Int) (h0 : 0 ≤ i) (h1 : i ≤ l.length) : ∃ b i' h', spec_l1Below.f l i h n = some (b, i', h') ∧ 0 ≤ b ∧ (0 < n → b < n) ∧ (n ≤ 0 → b = 0) ∧ 0 ≤ i' ∧ i' ≤ l.length := by
  unfold spec_l1Below.f
  by_cases hn : n ≤ 0
  · rw [if_pos hn]
    exact ⟨_, _, _, rfl, by omega, by omega, fun _ => rfl, h0, h1⟩
  · rw [if_neg hn]
    by_cases hn2 : n ≤ 256
    · rw [if_pos hn2]
      obtain ⟨b, i', h', e, hb0, hb1, hi0, hi1⟩ := byte_some l hl i h h0 h1
      rw [e]
      simp only [Option.bind_some]
      rw [if_neg (by omega)]
      have := tmod_in hb0 (b := n) (by omega)
      exact ⟨_, _, _, rfl, this.1, fun _ => this.2, by omega, hi0, hi1⟩
    · rw [if_neg hn2]
      obtain ⟨b1, i1, h1', e1, _, _, hi0, hi1⟩ := byte_some l hl i h h0 h1
      obtain ⟨b2, i2, h2', e2, _, _, hi0, hi1⟩ := byte_some l hl i1 h1' hi0 hi1
      obtain ⟨b3, i3, h3', e3, _, _, hi0, hi1⟩ := byte_some l hl i2 h2' hi0 hi1
      obtain ⟨b4, i4, h4', e4, _, _, hi0, hi1⟩ := byte_some l hl i3 h3' hi0 hi1
      rw [e1]; simp only [Option.bind_some]
      rw [e2]; simp only [Option.bind_some]
      rw [e3]; simp only [Option.bind_some]
      rw [e4]; simp only [Option.bind_some]
      rw [if_neg (by omega)]
      rw [w64 (x := b1 * 16777216) (by omega) (by omega), w64 (x := b2 * 65536) (by omega) (by omega), w64 (x := b3 * 256) (by omega) (by omega), w64 (x := b1 * 16777216 + b2 * 65536) (by omega) (by omega), w64 (x := b1 * 16777216 + b2 * 65536 + b3 * 256) (by omega) (by omega), w64 (x := b1 * 16777216 + b2 * 65536 + b3 * 256 + b4) (by omega) (by omega)]
      have := tmod_in (a := b1 * 16777216 + b2 * 65536 + b3 * 256 + b4) (by omega) (b := n) (by omega)
      exact ⟨_, _, _, rfl, this.1, fun _ => this.2, by omega, hi0, hi1⟩
theorem once_some (l : List Int) (hl : (l.length : Int) < 9223372036854775807) (i h n : Int) (h0 : 0 ≤ i) (h1 : i ≤ l.length) : ∃ b i' h', spec_l1Once.f l i h n = some (b, i', h') ∧ 0 ≤ i' ∧ i' ≤ l.length := by
  obtain ⟨b, i', h', e, _, _, _, a, c⟩ := below_some l hl i h n h0 h1
  exact ⟨_, _, _, by unfold spec_l1Once.f; rw [e]; rfl, a, c⟩
theorem at_some (l : List Int) (hl : (l.length : Int) < 9223372036854775807) (i h : Int) (h0 : 0 ≤ i) (h1 : i ≤ l.length) : ∃ b i' h', spec_l12DrawAt.f l i h = some (b, i', h') ∧ 0 ≤ i' ∧ i' ≤ l.length := by
  unfold spec_l12DrawAt.f
  obtain ⟨b1, i1, h1', e1, a1, c1⟩ := once_some l hl i h 10 h0 h1
  rw [e1]
  simp only [Option.bind_some]
  cases b1 with
  | true =>
    obtain ⟨b2, i2, h2, e2, p2, q2, _, a2, c2⟩ := below_some l hl i1 h1' 5 a1 c1
    have := q2 (by omega)
    simp only [if_true, e2, Option.bind_some]
    rw [if_pos p2, if_pos (by simp; omega)]
    exact ⟨_, _, _, rfl, a2, c2⟩
  | false =>
    obtain ⟨b2, i2, h2, e2, _, _, _, a2, c2⟩ := below_some l hl i1 h1' 256 a1 c1
    obtain ⟨b3, i3, h3, e3, p3, q3, _, a3, c3⟩ := below_some l hl i2 h2 5 a2 c2
    have := q3 (by omega)
    simp only [Bool.false_eq_true, if_false, e2, e3, Option.bind_some]
    rw [if_pos p3, if_pos (by simp; omega)]
    exact ⟨_, _, _, rfl, a3, c3⟩
theorem value_some (l : List Int) (hl : (l.length : Int) < 9223372036854775807) (i h : Int) (h0 : 0 ≤ i) (h1 : i ≤ l.length) : ∃ b i' h', spec_l12DrawValue.f l i h = some (b, i', h') ∧ i64_ b ∧ 0 ≤ i' ∧ i' ≤ l.length := by
  unfold spec_l12DrawValue.f
  obtain ⟨b1, i1, h1', e1, a1, c1⟩ := once_some l hl i h 10 h0 h1
  rw [e1]
  simp only [Option.bind_some]
  cases b1 with
  | true =>
    obtain ⟨b2, i2, h2, e2, p2, q2, _, a2, c2⟩ := below_some l hl i1 h1' 6 a1 c1
    have := q2 (by omega)
    simp only [if_true, e2, Option.bind_some]
    rw [if_pos p2, if_pos (by simp; omega)]
    refine ⟨_, _, _, rfl, rd_64 (fun y hy => ?_) _, a2, c2⟩
    simp only [List.mem_cons, List.not_mem_nil, or_false] at hy
    omega
  | false =>
    obtain ⟨b2, i2, h2, e2, p2, q2, _, a2, c2⟩ := below_some l hl i1 h1' 9000 a1 c1
    have := q2 (by omega)
    obtain ⟨b3, i3, h3, e3, p3, q3, _, a3, c3⟩ := below_some l hl i2 h2 4 a2 c2
    have := q3 (by omega)
    simp only [Bool.false_eq_true, if_false, e2, e3, Option.bind_some]
    rw [if_pos p3, if_pos (by simp; omega)]
    refine ⟨_, _, _, rfl, rd_64 (fun y hy => ?_) _, a3, c3⟩
    simp only [List.mem_cons, List.not_mem_nil, or_false] at hy
    omega
theorem draw_j1 (l : List Int) (hl : (l.length : Int) < 9223372036854775807) (x : List S42) (hx : x.length ≤ 99) (b : Bool) (hb : b = true → 0 < x.length) (i h : Int) (h0 : 0 ≤ i) (h1 : i ≤ l.length) : ∃ y i' h', Ev (fun k => spec_l12Draw.j1 k x b l i h) (y, i', h') ∧ y.length ≤ 99 ∧ 0 ≤ i' ∧ i' ≤ l.length := by
  cases b with
  | false =>
    refine ⟨x, i, h, Ev.succ ?_, hx, h0, h1⟩
    simp only [spec_l12Draw.j1]
    exact Ev.neg (by simp) (Ev.now _)
  | true =>
    have hx0 := hb rfl
    obtain ⟨b1, i1, h1', e1, p1, q1, _, a1, c1⟩ := below_some l hl i h (x.length : Int) h0 h1
    have := q1 (by omega)
    obtain ⟨b2, i2, h2', e2, p2, q2, _, a2, c2⟩ := below_some l hl i1 h1' 2 a1 c1
    have := q2 (by omega)
    by_cases d0 : b2 = 0
    · obtain ⟨b3, i3, h3', e3, a3, c3⟩ := at_some l hl i2 h2' a2 c2
      refine ⟨x.set b1.toNat ⟨b3, (rd_T42 x b1).f1⟩, i3, h3', Ev.succ ?_, ?_, a3, c3⟩
      · simp only [spec_l12Draw.j1, e1, e2, e3, Option.bind_some]
        exact Ev.pos (by simp) (Ev.pos (by omega) (Ev.pos (by omega) (Ev.pos d0 (Ev.now _))))
      · simpa using hx
    · obtain ⟨b3, i3, h3', e3, _, a3, c3⟩ := value_some l hl i2 h2' a2 c2
      refine ⟨x.set b1.toNat ⟨(rd_T42 x b1).f0, b3⟩, i3, h3', Ev.succ ?_, ?_, a3, c3⟩
      · simp only [spec_l12Draw.j1, e1, e2, e3, Option.bind_some]
        exact Ev.pos (by simp) (Ev.pos (by omega) (Ev.pos (by omega) (Ev.neg d0 (Ev.pos (by omega) (Ev.now _)))))
      · simpa using hx
theorem draw_l0 (l : List Int) (hl : (l.length : Int) < 9223372036854775807) : ∀ (d : Nat) (x : List S42) (i h : Int), x.length + d ≤ 99 → 0 ≤ i → i ≤ l.length → ∃ y i' h', Ev (fun k => spec_l12Draw.l0 k x d l i h) (y, i', h') ∧ y.length ≤ 99 ∧ 0 ≤ i' ∧ i' ≤ l.length
  | 0, x, i, h, hd, h0, h1 => by
    obtain ⟨b, i1, h1', e1, a1, c1⟩ := once_some l hl i h 12 h0 h1
    obtain ⟨y, i2, h2, e, z, a, c⟩ := draw_j1 l hl x (by omega) (b && decide ((x.length : Int) > 0)) (by simp) i1 h1' a1 c1
    refine ⟨y, i2, h2, Ev.succ ?_, z, a, c⟩
    simp only [spec_l12Draw.l0, e1, Option.bind_some]
    cases b with
    | true => exact Ev.neg (by omega) (Ev.pos (by simp) (by simpa using e))
    | false => exact Ev.neg (by omega) (Ev.neg (by simp) (by simpa using e))
  | d + 1, x, i, h, hd, h0, h1 => by
    obtain ⟨b, i1, h1', e1, a1, c1⟩ := at_some l hl i h h0 h1
    obtain ⟨v, i2, h2, e2, _, a2, c2⟩ := value_some l hl i1 h1' a1 c1
    obtain ⟨t, o1, ht⟩ := set_short x (by omega) b v
    have w : wrap64 (((d + 1 : Nat) : Int) - 1) = (d : Int) := by rw [w64 (by omega) (by omega)]; omega
    by_cases g : (t.length : Int) > 0
    · obtain ⟨y, i3, h3, e, z, a, c⟩ := draw_l0 l hl d t i2 h2 (by omega) a2 c2
      refine ⟨y, i3, h3, Ev.succ ?_, z, a, c⟩
      simp only [spec_l12Draw.l0, e1, e2, Option.bind_some, w]
      exact Ev.pos (by omega) (Ev.bind o1 (Ev.pos g e))
    · obtain ⟨y, i3, h3, e, z, a, c⟩ := draw_l0 l hl d x i2 h2 (by omega) a2 c2
      refine ⟨y, i3, h3, Ev.succ ?_, z, a, c⟩
      simp only [spec_l12Draw.l0, e1, e2, Option.bind_some, w]
      exact Ev.pos (by omega) (Ev.bind o1 (Ev.neg g e))
theorem draw_ev (l : List Int) (hl : (l.length : Int) < 9223372036854775807) (i h : Int) (h0 : 0 ≤ i) (h1 : i ≤ l.length) : ∃ y i' h', Ev (fun k => spec_l12Draw.f k l i h) (y, i', h') ∧ y.length ≤ 99 ∧ 0 ≤ i' ∧ i' ≤ l.length := by
  obtain ⟨b, i1, h1', e1, b0, b1, _, a1, c1⟩ := below_some l hl i h 8 h0 h1
  obtain ⟨d, rfl⟩ := Int.eq_ofNat_of_zero_le b0
  have := b1 (by omega)
  obtain ⟨y, i2, h2, e, z, a, c⟩ := draw_l0 l hl d [] i1 h1' (by simp; omega) a1 c1
  refine ⟨y, i2, h2, ?_, z, a, c⟩
  unfold spec_l12Draw.f
  rw [e1]
  exact e

theorem ok64 {x : Int} (h : i64_ x) : okInt .i64 x := by
  show (Lit.int .i64 x).wf = true
  simp [Lit.wf, IntKind.min, IntKind.max, IntKind.bits, IntKind.signed]
  exact ⟨by have := h.1; omega, by have := h.2; omega⟩
theorem row_ok {w : List Int} (h1 : w.length ≤ 8) (h : ∀ y, y ∈ w → i64_ y) : okList (okInt .i64) w := ⟨by omega, fun x hx => ok64 (h x hx)⟩
theorem like_l0 (x : List Int) (hx : x.length ≤ 1000) : ∀ (d i : Nat), i + d = x.length → Ev (fun k => laws_likeInts.l0 k x x i) true
  | 0, i, hi => by
    refine Ev.succ ?_
    simp only [laws_likeInts.l0]
    exact Ev.neg (by omega) (Ev.now _)
  | d + 1, i, hi => by
    have e := like_l0 x hx d (i + 1) (by omega)
    refine Ev.succ ?_
    simp only [laws_likeInts.l0]
    rw [w64 (x := (i : Int) + 1) (by omega) (by omega), cast_succ]
    exact Ev.pos (by omega) (Ev.pos (by omega) (Ev.pos (by omega) (Ev.pos (by simp) e)))
theorem like_ev (x : List Int) (hx : x.length ≤ 1000) : Ev (fun k => laws_likeInts.f k x x) true := by
  unfold laws_likeInts.f
  exact Ev.pos (by simp) (like_l0 x hx x.length 0 (by omega))
theorem srch_is (a : Nat) (way wi : List Int) : ∀ (d i : Nat) (m n : Int), climb a way (d + 1) i m = climb a wi (d + 1) i n → ∃ f, srch a way wi (d + 1) i m n = some f ∧ f.length = 4
  | 0, i, m, n, h => by
    have h' : pr (fst_ a i m (rd way i)) (snd_ a i m (rd way i)) = pr (fst_ a i n (rd wi i)) (snd_ a i n (rd wi i)) := h
    unfold srch
    rw [if_pos h']
    exact ⟨_, rfl, rfl⟩
  | d + 1, i, m, n, h => by
    have ih := srch_is a way wi d (i + 1) _ _ h
    by_cases e : pr (fst_ a i m (rd way i)) (snd_ a i m (rd way i)) = pr (fst_ a i n (rd wi i)) (snd_ a i n (rd wi i))
    · unfold srch
      rw [if_pos e]
      exact ⟨_, rfl, rfl⟩
    · unfold srch
      rw [if_neg e]
      exact ih
theorem iparted_is (a : Nat) (v o : Int) (way wi : List Int) (hw : okList (okInt .i64) way) (gw : okList (okInt .i64) wi) (ht : told (a : Int) v way = true) (gt : told (a : Int) o wi = true) (hvo : v ≠ o) (hc : climb a way 8 0 (leafN (a : Int) v) = climb a wi 8 0 (leafN (a : Int) o)) : ∃ f : List Int, Ev (fun k => impl_Parted.f k (a : Int) v way o wi) (f, true) ∧ f.length = 4 := by
  unfold impl_Parted.f
  simp only [itold, Option.bind_some, ht, gt]
  obtain ⟨c1, c2, h8⟩ := told_true ht
  obtain ⟨_, c3, g8⟩ := told_true gt
  have ha : a ≤ 255 := by omega
  have hv : i64_ v := ⟨by omega, by omega⟩
  have ho : i64_ o := ⟨by omega, by omega⟩
  have nb : (v == o) = false := by simpa using hvo
  rw [nb]
  have l1 := ipairs_ev a v way ha hv h8 hw
  have l2 := ipairs_ev a o wi ha ho g8 gw
  have p1 := prs_len a way 8 0 (leafN a v)
  have p2 := prs_len a wi 8 0 (leafN a o)
  obtain ⟨p, q, x1, x2, x3, x4⟩ := climb_prs a way hw h8 7 0 (leafN a v) (by omega) (leafN_64 _ _)
  obtain ⟨r, s, y1, y2, y3, y4⟩ := climb_prs a wi gw g8 7 0 (leafN a o) (by omega) (leafN_64 _ _)
  have ra : rd_L3 (own a v :: prs a way 8 0 (leafN a v)) 8 = [p, q] := getD_lt (i := 8) (by rw [List.getElem?_cons_succ]; exact x1)
  have rb : rd_L3 (own a o :: prs a wi 8 0 (leafN a o)) 8 = [r, s] := getD_lt (i := 8) (by rw [List.getElem?_cons_succ]; exact y1)
  have nA := num_ev 8 (by decide) p q x2 x3
  have nB := num_ev 8 (by decide) r s y2 y3
  rw [x4] at nA
  rw [y4] at nB
  have r0a : rd_L3 (own a v :: prs a way 8 0 (leafN a v)) 0 = own a v := rfl
  have r0b : rd_L3 (own a o :: prs a wi 8 0 (leafN a o)) 0 = own a o := rfl
  have lp := iloop a way wi ha h8 g8 hw gw (own a v :: prs a way 8 0 (leafN a v)) (own a o :: prs a wi 8 0 (leafN a o)) (by simp [p1]) (by simp [p2]) 8 0 (leafN a v) (leafN a o) (by omega) (leafN_64 _ _) (leafN_64 _ _) rfl rfl
  have e1 : wrap64 ((0 : Int) + 1) = ((0 + 1 : Nat) : Int) := by rw [w64 (by omega) (by omega)]; rfl
  have hown : ∀ x, own a x = [if x < 0 then 0 else (a : Int), if x < 0 then -1 else x] := by
    intro x; unfold own; by_cases h : x < 0 <;> simp [h]
  have cc : Ev (fun k => slices_Concat_int64_int64.f k [own a v, own a o]) (own a v ++ own a o) := by
    rw [hown v, hown o]; exact concat_ev _ _ _ _
  have key : ∃ f : List Int, Ev (fun k => impl_Parted.l0 k (own a v :: prs a way 8 0 (leafN a v)) (own a o :: prs a wi 8 0 (leafN a o)) ((own a v :: prs a way 8 0 (leafN a v)).length : Int) 0) (f, true) ∧ f.length = 4 := by
    by_cases h0 : leafN a v = leafN a o
    · refine ⟨own a v ++ own a o, Ev.succ ?_, by rw [hown, hown]; rfl⟩
      simp only [impl_Parted.l0, r0a, r0b, e1]
      refine Ev.pos (by simp [p1]) (Ev.pos (by decide) (Ev.pos (by simp [p1]) (Ev.bind (num0_ev a ha v hv) (Ev.pos (by simp [p2]) (Ev.bind (num0_ev a ha o ho) ?_)))))
      exact Ev.pos h0 (Ev.bind cc (Ev.now _))
    · obtain ⟨f, hf, hl⟩ := srch_is a way wi 7 0 _ _ hc
      rw [hf] at lp
      refine ⟨f, Ev.succ ?_, hl⟩
      simp only [impl_Parted.l0, r0a, r0b, e1]
      refine Ev.pos (by simp [p1]) (Ev.pos (by decide) (Ev.pos (by simp [p1]) (Ev.bind (num0_ev a ha v hv) (Ev.pos (by simp [p2]) (Ev.bind (num0_ev a ha o ho) ?_)))))
      exact Ev.neg h0 lp
  obtain ⟨f, hk, hl⟩ := key
  refine ⟨f, Ev.pos (by trivial) (Ev.pos (by trivial) (Ev.succ ?_)), hl⟩
  simp only [impl_Parted.j0]
  refine Ev.neg (by decide) (Ev.bind l1 (Ev.bind l2 (Ev.pos (by simp [p1]) ?_)))
  rw [ra]
  refine Ev.bind nA (Ev.pos (by simp [p2]) ?_)
  rw [rb]
  exact Ev.bind nB (Ev.pos hc hk)
theorem pick_l0 (l : List Int) (hb : ∀ y, y ∈ l → 0 ≤ y ∧ y ≤ 255) (hl : l.length ≤ 4096) (s n : Int) (hs : 0 ≤ s ∧ s ≤ 10) (hn : 0 < n) : ∀ (d i : Nat) (x : Int), i + d = l.length → 0 ≤ x → x ≤ 1000003 → ∃ r, Ev (fun k => laws_pick.l0 k l s n x i) r ∧ 0 ≤ r ∧ r < n
  | 0, i, x, hi, h0, h1 => by
    have := tmod_in h0 hn
    refine ⟨_, Ev.succ ?_, this⟩
    simp only [laws_pick.l0]
    exact Ev.neg (by omega) (Ev.neg (by omega) (Ev.now _))
  | d + 1, i, x, hi, h0, h1 => by
    have hlt : i < l.length := by omega
    have hy := hb _ (List.getElem_mem hlt)
    rw [← rdn_lt hlt, ← rdn] at hy
    generalize hv : rd l (i : Int) = y at hy
    have e1 : wrap64 (x * 131) = x * 131 := w64 (by omega) (by omega)
    have e2 : wrap64 y = y := w64 (by omega) (by omega)
    have e3 : wrap64 (x * 131 + y) = x * 131 + y := w64 (by omega) (by omega)
    have e4 : wrap64 (x * 131 + y + s) = x * 131 + y + s := w64 (by omega) (by omega)
    have hm := tmod_in (show 0 ≤ x * 131 + y + s by omega) (show (0 : Int) < 1000003 by omega)
    obtain ⟨r, e, h⟩ := pick_l0 l hb hl s n hs hn d (i + 1) (Int.tmod (x * 131 + y + s) 1000003) (by omega) hm.1 (by omega)
    refine ⟨r, Ev.succ ?_, h⟩
    simp only [laws_pick.l0, hv, e1, e2, e3, e4]
    rw [w64 (x := (i : Int) + 1) (by omega) (by omega), cast_succ]
    exact Ev.pos (by omega) (Ev.pos (by omega) e)
theorem pick_ev (l : List Int) (hb : ∀ y, y ∈ l → 0 ≤ y ∧ y ≤ 255) (hl : l.length ≤ 4096) (s n : Int) (hs : 0 ≤ s ∧ s ≤ 10) (hn : 0 < n) : ∃ r, Ev (fun k => laws_pick.f k l s n) r ∧ 0 ≤ r ∧ r < n := by
  unfold laws_pick.f
  have e1 : wrap64 (7919 * s) = 7919 * s := w64 (by omega) (by omega)
  have e2 : wrap64 ((l.length : Int) + 7919 * s) = (l.length : Int) + 7919 * s := w64 (by omega) (by omega)
  rw [e1, e2]
  exact pick_l0 l hb hl s n hs hn l.length 0 _ (by omega) (by omega) (by omega)
theorem at_l0 (x : List S42) (hx : x.length ≤ 1000) (a : Int) : ∀ (d i : Nat), i + d = x.length → ∃ r, Ev (fun k => spec_l12At.l0 k x a i) r
  | 0, i, hi => by
    refine ⟨-1, Ev.succ ?_⟩
    simp only [spec_l12At.l0]
    exact Ev.neg (by omega) (Ev.now _)
  | d + 1, i, hi => by
    obtain ⟨r, e⟩ := at_l0 x hx a d (i + 1) (by omega)
    by_cases c : (rd_T42 x (i : Int)).f0 = a
    · refine ⟨(rd_T42 x (i : Int)).f1, Ev.succ ?_⟩
      simp only [spec_l12At.l0]
      exact Ev.pos (by omega) (Ev.pos (by omega) (Ev.pos c (Ev.now _)))
    · refine ⟨r, Ev.succ ?_⟩
      simp only [spec_l12At.l0]
      rw [w64 (x := (i : Int) + 1) (by omega) (by omega), cast_succ]
      exact Ev.pos (by omega) (Ev.pos (by omega) (Ev.neg c e))
def RowOk (w : List Int) : Prop := w.length ≤ 8 ∧ ∀ y, y ∈ w → i64_ y
theorem DrawHolds_j1 (l : List Int) (hl : (l.length : Int) < 9223372036854775807) (a v p : Int) (u : List Int) (b : Bool) (hb : b = true → 0 < u.length) (hu : RowOk u) (i h : Int) (h0 : 0 ≤ i) (h1 : i ≤ l.length) : ∃ u', Ev (fun k => spec_DrawHolds.j1 k a u v p b l i h) (p, a, v, u') ∧ RowOk u' := by
  cases b with
  | false =>
    refine ⟨u, Ev.succ ?_, hu⟩
    simp only [spec_DrawHolds.j1]
    exact Ev.neg (by simp) (Ev.now _)
  | true =>
    have hpos := hb rfl
    obtain ⟨m, i1, h1', e1, m0, m1, _, a1, c1⟩ := below_some l hl i h (u.length : Int) h0 h1
    have := m1 (by omega)
    obtain ⟨n, i2, h2', e2, n0, n1, _, a2, c2⟩ := below_some l hl i1 h1' 99 a1 c1
    have := n1 (by omega)
    refine ⟨u.set m.toNat n, Ev.succ ?_, by rw [List.length_set]; exact hu.1, fun y hy => ?_⟩
    · simp only [spec_DrawHolds.j1, e1, e2, Option.bind_some]
      exact Ev.pos (by simp) (Ev.pos (by omega) (Ev.pos (by omega) (Ev.now _)))
    · rcases List.mem_or_eq_of_mem_set hy with h' | h'
      · exact hu.2 y h'
      · rw [h']; exact ⟨by omega, by omega⟩
theorem DrawHolds_j0 (l : List Int) (hl : (l.length : Int) < 9223372036854775807) (a v p : Int) (u : List Int) (hu : RowOk u) (i h : Int) (h0 : 0 ≤ i) (h1 : i ≤ l.length) : ∃ u', Ev (fun k => spec_DrawHolds.j0 k a u v p l i h) (p, a, v, u') ∧ RowOk u' := by
  obtain ⟨b, i1, h1', e1, a1, c1⟩ := once_some l hl i h 12 h0 h1
  cases b with
  | true =>
    obtain ⟨u', e, q⟩ := DrawHolds_j1 l hl a v p u (decide ((u.length : Int) > 0)) (by simp) hu i1 h1' a1 c1
    refine ⟨u', Ev.succ ?_, q⟩
    simp only [spec_DrawHolds.j0, e1, Option.bind_some]
    exact Ev.pos (by simp) e
  | false =>
    obtain ⟨u', e, q⟩ := DrawHolds_j1 l hl a v p u false (by simp) hu i1 h1' a1 c1
    refine ⟨u', Ev.succ ?_, q⟩
    simp only [spec_DrawHolds.j0, e1, Option.bind_some]
    exact Ev.neg (by simp) e
theorem DrawHolds_ev (l : List Int) (hl : (l.length : Int) < 9223372036854775807) : ∃ p a v u, Ev (fun k => spec_DrawHolds.f k l) (p, a, v, u) ∧ RowOk u := by
  obtain ⟨h, e0⟩ := new_ev l hl
  obtain ⟨x, i1, h1, e1, hx, a1, c1⟩ := draw_ev l hl 0 h (by omega) (by omega)
  obtain ⟨a, i2, h2, e2, a2, c2⟩ := at_some l hl i1 h1 a1 c1
  obtain ⟨w, w1, e3, _, _⟩ := way_ev x a (by omega)
  obtain ⟨v, e4⟩ := at_l0 x (by omega) a x.length 0 (by omega)
  obtain ⟨p, e5, _⟩ := peak_ev x (by omega)
  obtain ⟨b, i3, h3, e6, a3, c3⟩ := once_some l hl i2 h2 3 a2 c2
  have e4' : Ev (fun k => spec_l12At.f k x a) v := e4
  unfold spec_DrawHolds.f
  cases b with
  | true =>
    obtain ⟨v', i4, h4, e7, _, a4, c4⟩ := value_some l hl i3 h3 a3 c3
    obtain ⟨u, e, q⟩ := DrawHolds_j0 l hl a v' p w w1 i4 h4 a4 c4
    refine ⟨p, a, v', u, Ev.bind e0 (Ev.bind e1 ?_), q⟩
    simp only [e2, Option.bind_some]
    refine Ev.bind e3 (Ev.bind e4' (Ev.bind e5 ?_))
    simp only [e6, e7, Option.bind_some]
    exact Ev.pos (by simp) e
  | false =>
    obtain ⟨u, e, q⟩ := DrawHolds_j0 l hl a v p w w1 i3 h3 a3 c3
    refine ⟨p, a, v, u, Ev.bind e0 (Ev.bind e1 ?_), q⟩
    simp only [e2, Option.bind_some]
    refine Ev.bind e3 (Ev.bind e4' (Ev.bind e5 ?_))
    simp only [e6, Option.bind_some]
    exact Ev.neg (by simp) e
theorem DrawPeak_ev (l : List Int) (hl : (l.length : Int) < 9223372036854775807) : ∃ x, Ev (fun k => spec_DrawPeak.f k l) x ∧ x.length ≤ 99 := by
  obtain ⟨h, e0⟩ := new_ev l hl
  obtain ⟨x, i1, h1, e1, hx, a1, c1⟩ := draw_ev l hl 0 h (by omega) (by omega)
  refine ⟨x, ?_, hx⟩
  unfold spec_DrawPeak.f spec_DrawLeavesOk.f
  exact Ev.bind (Ev.bind e0 (Ev.bind e1 (Ev.now _))) (Ev.now _)
theorem DrawWay_ev (l : List Int) (hl : (l.length : Int) < 9223372036854775807) : ∃ x a, Ev (fun k => spec_DrawWay.f k l) (x, a) ∧ x.length ≤ 99 := by
  obtain ⟨h, e0⟩ := new_ev l hl
  obtain ⟨x, i1, h1, e1, hx, a1, c1⟩ := draw_ev l hl 0 h (by omega) (by omega)
  obtain ⟨a, i2, h2, e2, a2, c2⟩ := at_some l hl i1 h1 a1 c1
  refine ⟨x, a, ?_, hx⟩
  unfold spec_DrawWay.f
  refine Ev.bind e0 (Ev.bind e1 ?_)
  simp only [e2, Option.bind_some]
  exact Ev.now _
theorem DrawSet_ev (l : List Int) (hl : (l.length : Int) < 9223372036854775807) : ∃ x a v, Ev (fun k => spec_DrawSet.f k l) (x, a, v) ∧ x.length ≤ 99 ∧ i64_ v := by
  obtain ⟨h, e0⟩ := new_ev l hl
  obtain ⟨x, i1, h1, e1, hx, a1, c1⟩ := draw_ev l hl 0 h (by omega) (by omega)
  obtain ⟨a, i2, h2, e2, a2, c2⟩ := at_some l hl i1 h1 a1 c1
  obtain ⟨v, i3, h3, e3, hv, a3, c3⟩ := value_some l hl i2 h2 a2 c2
  refine ⟨x, a, v, ?_, hx, hv⟩
  unfold spec_DrawSet.f
  refine Ev.bind e0 (Ev.bind e1 ?_)
  simp only [e2, e3, Option.bind_some]
  exact Ev.now _
theorem llike_l0 (x : List S42) (hx : x.length ≤ 1000) : ∀ (d i : Nat), i + d = x.length → Ev (fun k => laws_likeLeaves.l0 k x x i) true
  | 0, i, hi => by
    refine Ev.succ ?_
    simp only [laws_likeLeaves.l0]
    exact Ev.neg (by omega) (Ev.now _)
  | d + 1, i, hi => by
    have e := llike_l0 x hx d (i + 1) (by omega)
    refine Ev.succ ?_
    simp only [laws_likeLeaves.l0]
    rw [w64 (x := (i : Int) + 1) (by omega) (by omega), cast_succ]
    exact Ev.pos (by omega) (Ev.pos (by omega) (Ev.pos (by omega) (Ev.neg (by simp) e)))
theorem llike_ev (x : List S42) (hx : x.length ≤ 1000) : Ev (fun k => laws_likeLeaves.f k x x) true := by
  unfold laws_likeLeaves.f
  exact Ev.pos (by simp) (llike_l0 x hx x.length 0 (by omega))
theorem pv_end (l : List Int) (hb : ∀ y, y ∈ l → 0 ≤ y ∧ y ≤ 255) (hl : l.length ≤ 4096) (x : List S42) (hx : LOk x) (n : Nat) (hn : n ≤ 255) : Ev (fun k => laws_FnProved.l0 k l x (n : Int) (hasF x (n : Int) (-1)) (x.length : Int)) true := by
  have ha : 0 ≤ (n : Int) ∧ (n : Int) ≤ 255 := ⟨by omega, by omega⟩
  have h1 := lok_len hx
  obtain ⟨w, w1, _, e1, e2⟩ := way_ev x (n : Int) (by omega)
  have hw := e2 hx ha.1 ha.2
  rw [Int.toNat_natCast] at hw
  obtain ⟨_, p2⟩ := peak_ok x hx (by omega)
  have hin := has_in hx (n : Int)
  have wl : w.length = 8 := by rw [hw, wayF_len]
  have ok := row_ok w1.1 w1.2
  have ht : told (n : Int) (hasF x (n : Int) (-1)) w = true := by
    unfold told
    rw [if_pos ⟨ha, hin⟩, wl]
    rfl
  have hc := climb_has hx hn
  rw [← hw] at hc
  obtain ⟨r, _, h2, h3⟩ := holds_ev (peakF x) (n : Int) (hasF x (n : Int) (-1)) w ok
  rw [Int.toNat_natCast] at h3
  obtain rfl := h3.2 ⟨ht, hc⟩
  obtain ⟨q, hq, q0, q1⟩ := pick_ev l hb hl 2 1000 (by omega) (by omega)
  have wq : wrap64 (q - 1) = q - 1 := w64 (by omega) (by omega)
  obtain ⟨r, _, h4, h5⟩ := holds_ev (peakF x) (n : Int) (q - 1) w ok
  rw [Int.toNat_natCast] at h5
  refine Ev.succ ?_
  simp only [laws_FnProved.l0]
  refine Ev.neg (by omega) (Ev.bind e1 (Ev.bind p2 (Ev.bind h2 (Ev.pos rfl (Ev.bind hq ?_)))))
  rw [wq]
  by_cases c : q - 1 = hasF x (n : Int) (-1)
  · exact Ev.pos c (Ev.now _)
  · refine Ev.neg c (Ev.bind p2 (Ev.bind h4 ?_))
    cases r with
    | false => exact Ev.neg (by simp) (Ev.now _)
    | true =>
      obtain ⟨g1, g2⟩ := h5.1 rfl
      obtain ⟨f, hf, hl4⟩ := iparted_is n (hasF x (n : Int) (-1)) (q - 1) w w ok ok ht g1 (fun e => c e.symm) (by rw [hc, g2])
      refine Ev.pos rfl (Ev.bind hf (Ev.pos rfl ?_))
      rw [hl4]
      exact Ev.now _
theorem pv_l0 (l : List Int) (x : List S42) (hx : x.length ≤ 1000) (a : Int) (r : Bool) : ∀ (d i : Nat) (h : Int), i + d = x.length → Ev (fun k => laws_FnProved.l0 k l x a (hasF (x.drop i) a h) (x.length : Int)) r → Ev (fun k => laws_FnProved.l0 k l x a h i) r
  | 0, i, h, hi, he => by
    rw [List.drop_eq_nil_of_le (by omega)] at he
    obtain rfl : i = x.length := by omega
    exact he
  | d + 1, i, h, hi, he => by
    have hl : i < x.length := by omega
    rw [List.drop_eq_getElem_cons hl, ← g_get hl] at he
    have he' : Ev (fun k => laws_FnProved.l0 k l x a (hasF (x.drop (i + 1)) a (if (x.getD i z42).f0 = a then (x.getD i z42).f1 else h)) (x.length : Int)) r := he
    refine Ev.succ ?_
    simp only [laws_FnProved.l0, rd_nat]
    rw [w64 (x := (i : Int) + 1) (by omega) (by omega), cast_succ]
    refine Ev.pos (by omega) (Ev.pos (by omega) ?_)
    by_cases c : (x.getD i z42).f0 = a
    · rw [if_pos c] at he'
      exact Ev.pos c (pv_l0 l x hx a r d (i + 1) _ (by omega) he')
    · rw [if_neg c] at he'
      exact Ev.neg c (pv_l0 l x hx a r d (i + 1) _ (by omega) he')
theorem bound_u8 {x : Int} (h : okInt .u8 x) : 0 ≤ x ∧ x ≤ 255 := by
  have h : (Lit.int .u8 x).wf = true := h
  simp [Lit.wf, IntKind.min, IntKind.max, IntKind.bits, IntKind.signed] at h
  omega
theorem FnProved : laws_FnProved.Pure := by
  intro l hok
  refine Ev.rounds (g := fun k => laws_FnProved.f k l) ?_
  unfold laws_FnProved.f laws_big.f
  simp only [Option.bind_some]
  refine Ev.ite (fun _ => Ev.now _) (fun hbig => ?_)
  have hl4 : l.length ≤ 4096 := by
    simp only [decide_eq_true_eq] at hbig
    omega
  have hl : (l.length : Int) < 9223372036854775807 := by omega
  have hb : ∀ y, y ∈ l → 0 ≤ y ∧ y ≤ 255 := fun y hy => bound_u8 (hok.2 y hy)
  obtain ⟨x, a, v, e0, hx, hv⟩ := DrawSet_ev l hl
  obtain ⟨out, ho, s1, s2, _, _⟩ := set_ev x a v (by omega)
  obtain ⟨p, a', v', u, d1, hu⟩ := DrawHolds_ev l hl
  obtain ⟨rh, t1, t2, _⟩ := holds_ev p a' v' u (row_ok hu.1 hu.2)
  obtain ⟨m, d2, hm⟩ := DrawPeak_ev l hl
  obtain ⟨y, b, d3, hy⟩ := DrawWay_ev l hl
  have lk := llike_ev out (by omega)
  obtain ⟨pk, k1, k2⟩ := peak_ev m (by omega)
  obtain ⟨w, w1, w2, w3, _⟩ := way_ev y b (by omega)
  have li := like_ev w (by have := w1.1; omega)
  obtain ⟨r, l1, l2, l3⟩ := leaves_iff m (by omega)
  refine Ev.bind e0 (Ev.bind s2 (Ev.bind d1 (Ev.bind t2 (Ev.bind d2 (Ev.bind d3 (Ev.bind s1 (Ev.bind lk (Ev.pos rfl (Ev.bind t1 (Ev.neg (by simp) (Ev.bind k2 (Ev.bind k1 (Ev.pos rfl (Ev.bind w3 (Ev.bind w2 (Ev.bind li (Ev.pos rfl (Ev.bind l2 (Ev.bind l1 (Ev.neg (by simp) (Ev.bind l1 ?_)))))))))))))))))))))
  cases r with
  | false =>
    refine Ev.neg (by simp) ?_
    have e : Ev (fun k => impl_Peak.f k m) (-1) := by
      unfold impl_Peak.f
      exact Ev.bind l2 (Ev.neg (by simp) (Ev.now _))
    exact Ev.bind e (Ev.now _)
  | true =>
    have h := l3.1 rfl
    obtain ⟨q, hq, q0, q1⟩ := pick_ev l hb hl4 1 10 (by omega) (by omega)
    obtain ⟨n, rfl⟩ := Int.eq_ofNat_of_zero_le q0
    exact Ev.pos rfl (Ev.bind hq (pv_l0 l m (by omega) (n : Int) true m.length 0 (-1) (by omega) (pv_end l hb hl4 m h n (by omega))))

end Go.Proofs.YtgpofolfflfgiaaDoor.Pure
