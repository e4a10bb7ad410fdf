/- The program's Records returns what the reference's Records returns, for every disk. No condition. -/
import Derived.Test.YtokfpmkhfindmaaDoorBoilFnExactRecords
import Derived.Test.YtokfpmkhfindmaaDoorPFnExactRecordsx4
import Derived.Test.YtokfpmkhfindmaaDoorAskFnExactRecords
namespace Go.Proofs.YtokfpmkhfindmaaDoor.Pure
open Go.RowKit Go.Proofs.YtokfpmkhfindmaaDoor.PFnExactRecords Go.Proofs.YtokfpmkhfindmaaDoorW.PrintWords Go.Proofs.YtokfpmkhfindmaaDoorW.PrintLast Go.Proofs.YtokfpmkhfindmaaDoorW.PrintMore
set_option maxRecDepth 100000
set_option linter.unusedVariables false
set_option linter.unusedSimpArgs false
def bs (l : List UInt8) : ByteArray := ⟨l.toArray⟩
theorem bs_data (l : List UInt8) : (bs l).data.toList = l := by simp [bs]
theorem bs_of (s : ByteArray) : bs s.data.toList = s := by cases s; simp [bs]
theorem bs_app (a b : List UInt8) : bs a ++ bs b = bs (a ++ b) := by
  apply bytes_inj
  simp [bs, ByteArray.toList_eq, ByteArray.data_append]
theorem bs_size (l : List UInt8) : (bs l).size = l.length := by simp [bs, ByteArray.size]
theorem size_data (s : ByteArray) : s.data.toList.length = s.size := by simp only [ByteArray.size, Array.length_toList]
theorem tm_nat (m : Nat) : Int.tmod (m : Int) 10 = ((m % 10 : Nat) : Int) := rfl
theorem td_nat (m : Nat) : Int.tdiv (m : Int) 10 = ((m / 10 : Nat) : Int) := rfl
theorem dig_bytes (m : Nat) (v : Int) (s : ByteArray) (h : v = 48 + ((m % 10 : Nat) : Int)) : strOfNums [v % 256] ++ s = bs (UInt8.ofNat (48 + m % 10) :: s.data.toList) := by
  have e : (v % 256).toNat = 48 + m % 10 := by omega
  have e2 : strOfNums [v % 256] = bs [UInt8.ofNat (48 + m % 10)] := by simp [strOfNums, bs, e]
  rw [e2]
  conv => lhs; rhs; rw [← bs_of s]
  rw [bs_app]; rfl
theorem j1_step (n : Int) (s : ByteArray) (neg : Bool) (r : ByteArray) (h0 : -9223372036854775808 ≤ n) (h1 : n ≤ 9223372036854775807) (hs : s.size ≤ 1000)
    (h : Ev (fun k => spec_l2Int.l0 k (Int.tdiv n 10) (bs (UInt8.ofNat (48 + n.natAbs % 10) :: s.data.toList)) neg) r) : Ev (fun k => spec_l2Int.j1 k n s neg true) r := by
  refine Ev.succ ?_
  simp only [spec_l2Int.j1, Option.bind_some]
  refine Ev.pos (by trivial) ?_
  have sz : ∀ v : Int, (strOfNums [v]).size = 1 := fun v => by simp [strOfNums, ByteArray.size]
  simp only [sz]
  obtain ⟨m, hm | hm⟩ := Int.eq_nat_or_neg n
  · subst hm
    rw [tm_nat, td_nat] at *
    rw [Int.natAbs_natCast] at h
    refine Ev.neg (by omega) (Ev.pos (by omega) ?_)
    rw [w64 (by omega) (by omega), w64 (by omega) (by omega), dig_bytes m _ s rfl]
    exact h
  · subst hm
    rw [Int.neg_tmod, Int.neg_tdiv, tm_nat, td_nat] at *
    rw [Int.natAbs_neg, Int.natAbs_natCast] at h
    by_cases hz : m % 10 = 0
    · refine Ev.neg (by omega) (Ev.pos (by omega) ?_)
      rw [w64 (x := -((m / 10 : Nat) : Int)) (by omega) (by omega), w64 (by omega) (by omega), dig_bytes m _ s (by omega)]
      exact h
    · refine Ev.pos (by omega) (Ev.pos (by omega) ?_)
      rw [w64 (x := -((m / 10 : Nat) : Int)) (by omega) (by omega), w64 (x := -(-((m % 10 : Nat) : Int))) (by omega) (by omega), w64 (by omega) (by omega), dig_bytes m _ s (by omega)]
      exact h
def fin (neg : Bool) (s : ByteArray) : ByteArray := if neg = true then (⟨#[45]⟩ : ByteArray) ++ s else s
theorem l0_end (s : ByteArray) (neg : Bool) (h : s.toList ≠ []) (hs : s.size ≤ 1002) : Ev (fun k => spec_l2Int.l0 k 0 s neg) (fin neg s) := by
  refine Ev.succ ?_
  simp only [spec_l2Int.l0]
  refine Ev.neg h (Ev.succ ?_)
  simp only [spec_l2Int.j1, fin]
  refine Ev.neg (by simp) ?_
  cases neg with
  | true => exact Ev.pos rfl (Ev.pos (by omega) (Ev.now _))
  | false => exact Ev.neg (by decide) (Ev.now _)
theorem int_l0 : ∀ (d : Nat) (n : Int) (s : ByteArray) (neg : Bool), n.natAbs < 10 ^ (d + 1) → -9223372036854775808 ≤ n → n ≤ 9223372036854775807 → (s.toList = [] ∨ n ≠ 0) → s.size + d ≤ 1000 → Ev (fun k => spec_l2Int.l0 k n s neg) (fin neg (bs (Lib.decDigits n.natAbs ++ s.data.toList))) := by
  intro d
  induction d with
  | zero =>
    intro n s neg hd h0 h1 hn hs
    have hd' : n.natAbs < 10 := by simpa using hd
    have go : Ev (fun k => spec_l2Int.j1 k n s neg true) (fin neg (bs (Lib.decDigits n.natAbs ++ s.data.toList))) := by
      refine j1_step n s neg _ h0 h1 (by omega) ?_
      have e : Int.tdiv n 10 = 0 := by
        obtain ⟨m, hm | hm⟩ := Int.eq_nat_or_neg n
        · subst hm; rw [td_nat]; rw [Int.natAbs_natCast] at hd'; omega
        · subst hm; rw [Int.neg_tdiv, td_nat]; rw [Int.natAbs_neg, Int.natAbs_natCast] at hd'; omega
      rw [e, Lib.decDigits, dif_pos hd', Nat.mod_eq_of_lt hd']
      exact l0_end _ neg (by simp [bs, ByteArray.toList_eq]) (by rw [bs_size]; simp only [List.length_cons, size_data]; omega)
    refine Ev.succ ?_
    simp only [spec_l2Int.l0]
    by_cases he : s.toList = []
    · exact Ev.pos he go
    · have hb : (n != 0) = true := by simpa using hn.resolve_left he
      rw [hb]
      exact Ev.neg he go
  | succ d ih =>
    intro n s neg hd h0 h1 hn hs
    have go : Ev (fun k => spec_l2Int.j1 k n s neg true) (fin neg (bs (Lib.decDigits n.natAbs ++ s.data.toList))) := by
      refine j1_step n s neg _ h0 h1 (by omega) ?_
      have e : (Int.tdiv n 10).natAbs = n.natAbs / 10 ∧ -9223372036854775808 ≤ Int.tdiv n 10 ∧ Int.tdiv n 10 ≤ 9223372036854775807 := by
        obtain ⟨m, hm | hm⟩ := Int.eq_nat_or_neg n
        · subst hm; rw [td_nat, Int.natAbs_natCast, Int.natAbs_natCast]; omega
        · subst hm; rw [Int.neg_tdiv, td_nat, Int.natAbs_neg, Int.natAbs_natCast, Int.natAbs_neg, Int.natAbs_natCast]; omega
      by_cases hlt : n.natAbs < 10
      · have e0 : Int.tdiv n 10 = 0 := by have := e.1; omega
        rw [e0, Lib.decDigits, dif_pos hlt, Nat.mod_eq_of_lt hlt]
        exact l0_end _ neg (by simp [bs, ByteArray.toList_eq]) (by rw [bs_size]; simp only [List.length_cons, size_data]; omega)
      · have := ih (Int.tdiv n 10) (bs (UInt8.ofNat (48 + n.natAbs % 10) :: s.data.toList)) neg (by rw [e.1]; rw [Nat.pow_succ] at hd; omega) e.2.1 e.2.2 (Or.inr (by have := e.1; omega)) (by rw [bs_size]; simp only [List.length_cons, size_data]; omega)
        rw [e.1, bs_data] at this
        rw [Lib.decDigits, dif_neg hlt, List.append_assoc]
        exact this
    refine Ev.succ ?_
    simp only [spec_l2Int.l0]
    by_cases he : s.toList = []
    · exact Ev.pos he go
    · have hb : (n != 0) = true := by simpa using hn.resolve_left he
      rw [hb]
      exact Ev.neg he go
theorem int_ev (n : Int) (h0 : -9223372036854775808 ≤ n) (h1 : n ≤ 9223372036854775807) : Ev (fun k => spec_l2Int.f k n) (bs (Lib.itoa n)) := by
  unfold spec_l2Int.f
  have := int_l0 20 n ⟨#[]⟩ (decide (n < 0)) (by omega) h0 h1 (Or.inl (by simp [ByteArray.toList_eq])) (by simp [ByteArray.size])
  refine cast (congrArg _ ?_) this
  unfold fin Lib.itoa
  by_cases h : n < 0
  · rw [if_pos (by simpa using h), if_pos h, show (⟨#[45]⟩ : ByteArray) = bs [45] from rfl, bs_app]
    simp
  · rw [if_neg (by simpa using h), if_neg h, show n.natAbs = n.toNat by omega]
    simp
theorem dec_some (n : Int) (h0 : -9223372036854775808 ≤ n) (h1 : n ≤ 9223372036854775807) : impl_decimal.f n = some (bs (Lib.itoa n)) := by
  unfold impl_decimal.f strconv_FormatInt_91.f
  rw [if_pos ⟨h0, h1, rfl⟩]
  rfl
theorem dig_len : ∀ (d m : Nat), m < 10 ^ (d + 1) → (Lib.decDigits m).length ≤ d + 1 := by
  intro d
  induction d with
  | zero => intro m h; rw [Lib.decDigits, dif_pos (by simpa using h)]; simp
  | succ d ih =>
    intro m h
    rw [Lib.decDigits]
    by_cases hm : m < 10
    · rw [dif_pos hm]; simp
    · rw [dif_neg hm, List.length_append]
      have := ih (m / 10) (by rw [Nat.pow_succ] at h; omega)
      simp; omega
theorem itoa_len (n : Int) (h0 : -9223372036854775808 ≤ n) (h1 : n ≤ 9223372036854775807) : (bs (Lib.itoa n)).size ≤ 22 := by
  rw [bs_size]
  unfold Lib.itoa
  split
  · have := dig_len 20 n.natAbs (by omega)
    simp; omega
  · have := dig_len 20 n.toNat (by omega)
    omega
def dstep (h : Int) (b : UInt8) : Int := Int.tmod (h * 1000003 + (b.toNat : Int) + 1) 2147483647
def dg (s : ByteArray) : Int := s.data.toList.foldl dstep 1
theorem dstep_in {h : Int} {b : UInt8} (h0 : 0 ≤ h) : 0 ≤ dstep h b ∧ dstep h b < 2147483647 := by
  unfold dstep
  have hb : (0 : Int) ≤ (b.toNat : Int) := by omega
  generalize (b.toNat : Int) = v at *
  rw [Int.tmod_eq_emod_of_nonneg (by omega)]
  omega
theorem dfold_in : ∀ (l : List UInt8) (h : Int), 0 ≤ h → h < 2147483647 → 0 ≤ l.foldl dstep h ∧ l.foldl dstep h < 2147483647
  | [], h, h0, h1 => ⟨h0, h1⟩
  | b :: l, h, h0, h1 => dfold_in l _ (dstep_in h0).1 (dstep_in h0).2
theorem dg_in (s : ByteArray) : 0 ≤ dg s ∧ dg s < 2147483647 := dfold_in _ 1 (by decide) (by decide)
theorem bt_data {s : ByteArray} {i : Nat} {b : UInt8} (h : s.data.toList[i]? = some b) : bt s (i : Int) = (b.toNat : Int) := by
  obtain ⟨hi, rfl⟩ := List.getElem?_eq_some_iff.1 h
  have hs : i < s.size := by rw [← size_data]; exact hi
  unfold bt
  rw [dif_pos (by simpa using hs)]
  simp [ByteArray.getElem_eq_getElem_data]
theorem dwrap {h v : Int} (h0 : 0 ≤ h) (h1 : h < 2147483647) (v0 : 0 ≤ v) (v1 : v ≤ 255) : wrap64 ((wrap64 ((wrap64 (h * 1000003)) + (wrap64 v))) + 1) = h * 1000003 + v + 1 := by
  rw [w64 (x := h * 1000003) (by omega) (by omega), w64 (x := v) (by omega) (by omega), w64 (x := h * 1000003 + v) (by omega) (by omega), w64 (by omega) (by omega)]
theorem sdig_l0 (s : ByteArray) (hs : s.size < 9223372036854775807) : ∀ (d i : Nat) (h : Int), i + d = s.size → 0 ≤ h → h < 2147483647 → Ev (fun k => spec_Digest.l0 k s h i) ((s.data.toList.drop i).foldl dstep h)
  | 0, i, h, hi, _, _ => by
    refine Ev.succ ?_
    simp only [spec_Digest.l0]
    refine Ev.neg (by omega) ?_
    rw [List.drop_of_length_le (by rw [size_data]; omega)]
    exact Ev.now _
  | d + 1, i, h, hi, h0, h1 => by
    obtain ⟨b, hb⟩ := get_some (l := s.data.toList) (i := i) (by rw [size_data]; omega)
    have hr := bt_range s i
    refine Ev.succ ?_
    simp only [spec_Digest.l0]
    refine Ev.pos (by omega) (Ev.pos (by omega) ?_)
    rw [dwrap h0 h1 hr.1 hr.2, bt_data hb, w64 (x := (i : Int) + 1) (by omega) (by omega), cast_succ]
    have := sdig_l0 s hs d (i + 1) (dstep h b) (by omega) (dstep_in h0).1 (dstep_in h0).2
    obtain ⟨hi', rfl⟩ := List.getElem?_eq_some_iff.1 hb
    rw [List.drop_eq_getElem_cons hi']
    exact this
theorem idig_l0 (s : ByteArray) (hs : s.size < 9223372036854775807) : ∀ (d i : Nat) (h : Int), i + d = s.size → 0 ≤ h → h < 2147483647 → Ev (fun k => impl_Digest.l0 k s h (s.size : Int) i) ((s.data.toList.drop i).foldl dstep h)
  | 0, i, h, hi, _, _ => by
    refine Ev.succ ?_
    simp only [impl_Digest.l0]
    refine Ev.neg (by omega) ?_
    rw [List.drop_of_length_le (by rw [size_data]; omega)]
    exact Ev.now _
  | d + 1, i, h, hi, h0, h1 => by
    obtain ⟨b, hb⟩ := get_some (l := s.data.toList) (i := i) (by rw [size_data]; omega)
    have hr := bt_range s i
    refine Ev.succ ?_
    simp only [impl_Digest.l0]
    refine Ev.pos (by omega) (Ev.pos (by omega) (Ev.pos (by omega) ?_))
    rw [dwrap h0 h1 hr.1 hr.2, bt_data hb, w64 (x := (i : Int) + 1) (by omega) (by omega), cast_succ]
    have := idig_l0 s hs d (i + 1) (dstep h b) (by omega) (dstep_in h0).1 (dstep_in h0).2
    obtain ⟨hi', rfl⟩ := List.getElem?_eq_some_iff.1 hb
    rw [List.drop_eq_getElem_cons hi']
    exact this
theorem sdig_ev (s : ByteArray) (hs : s.size < 9223372036854775807) : Ev (fun k => spec_Digest.f k s) (dg s) := sdig_l0 s hs s.size 0 1 (by omega) (by decide) (by decide)
theorem idig_ev (s : ByteArray) (hs : s.size < 9223372036854775807) : Ev (fun k => impl_Digest.f k s) (dg s) := idig_l0 s hs s.size 0 1 (by omega) (by decide) (by decide)
/-! the numbers that a record's head tells: at most 3000 -/
def d4 (n : Nat) : List UInt8 := if n < 10 then [UInt8.ofNat (48 + n)] else if n < 100 then [UInt8.ofNat (48 + n / 10), UInt8.ofNat (48 + n % 10)] else if n < 1000 then [UInt8.ofNat (48 + n / 100), UInt8.ofNat (48 + n / 10 % 10), UInt8.ofNat (48 + n % 10)] else [UInt8.ofNat (48 + n / 1000), UInt8.ofNat (48 + n / 100 % 10), UInt8.ofNat (48 + n / 10 % 10), UInt8.ofNat (48 + n % 10)]
theorem d4_eq (n : Nat) (h : n < 10000) : Lib.decDigits n = d4 n := by
  unfold d4
  by_cases c1 : n < 10
  · rw [if_pos c1, Lib.decDigits_one c1]
  · rw [if_neg c1]
    by_cases c2 : n < 100
    · rw [if_pos c2, Lib.decDigits_two c1 c2]
    · rw [if_neg c2]
      rw [Lib.decDigits, dif_neg c1]
      by_cases c3 : n < 1000
      · rw [if_pos c3, Lib.decDigits_two (by omega) (by omega), show n / 10 / 10 = n / 100 by omega]
        rfl
      · rw [if_neg c3, Lib.decDigits, dif_neg (by omega), Lib.decDigits_two (by omega) (by omega), show n / 10 / 10 / 10 = n / 1000 by omega, show n / 10 / 10 % 10 = n / 100 % 10 by omega]
        rfl
theorem parse_all : ∀ n : Fin 3001, Lib.parseIntB 64 (d4 n.val) = .ok (n.val : Int) := by decide +kernel
theorem l2num_all : ∀ n : Fin 3001, spec_l2Number.f 30 ⟨(d4 n.val).toArray⟩ = some ((n.val : Int), true) := by decide +kernel
theorem trim_all : ∀ n : Fin 3001, (Lib.trimPrefix (d4 n.val) [45]).length ≤ 10 := by decide +kernel
/-! the readers end, whatever the text -/
theorem number_some (s : ByteArray) (h : s.size ≤ 281474976710656) : ∃ r, impl_number.f s = some r := by
  unfold impl_number.f
  by_cases c : ((⟨(Lib.trimPrefix s.data.toList [45]).toArray⟩ : ByteArray).size : Int) > 10
  · rw [if_pos c]
    exact ⟨_, rfl⟩
  · rw [if_neg c, if_pos h]
    cases hp : Lib.parseIntB 64 s.data.toList with
    | ok v =>
      have hb := Lib.parseIntB_bounds hp
      have hd := dec_some v (by have := hb.1; simpa using this) (by have := hb.2; have e : ((2 ^ (64 - 1) : Nat) : Int) = 9223372036854775808 := (by decide); rw [e] at this; omega)
      simp only [hd, Option.bind_some]
      exact ⟨_, rfl⟩
    | range => exact ⟨_, rfl⟩
    | _ => exact ⟨_, rfl⟩
theorem j4_some (b : Bool) (n : Int) (c : Bool) : ∃ r, Ev (fun k => spec_l2Number.j4 k b n c) r := by
  cases c with
  | true => exact ⟨(0, false), Ev.succ (by simp only [spec_l2Number.j4]; exact Ev.pos (by trivial) (Ev.now _))⟩
  | false =>
    cases b with
    | true => exact ⟨(wrap64 (-n), true), Ev.succ (by simp only [spec_l2Number.j4]; exact Ev.neg (by decide) (Ev.pos (by trivial) (Ev.now _)))⟩
    | false => exact ⟨(n, true), Ev.succ (by simp only [spec_l2Number.j4]; exact Ev.neg (by decide) (Ev.neg (by decide) (Ev.now _)))⟩
theorem l2n_l0 (s : ByteArray) (hs : s.size ≤ 4611686018427387904) (f : Int) (hf : 0 ≤ f ∧ f < (s.size : Int)) (neg : Bool) : ∀ (d i : Nat) (n : Int), i + d = s.size → ∃ r, Ev (fun k => spec_l2Number.l0 k s f neg n (i : Int)) r
  | 0, i, n, hi => by
    by_cases c : bt s f = 48
    · cases neg with
      | true =>
        obtain ⟨r, e⟩ := j4_some true n true
        exact ⟨r, Ev.succ (by simp only [spec_l2Number.l0]; exact Ev.neg (by omega) (Ev.pos hf.1 (Ev.pos hf.2 (Ev.pos c (Ev.pos (by trivial) e)))))⟩
      | false =>
        obtain ⟨r, e⟩ := j4_some false n (decide ((s.size : Int) > 1))
        exact ⟨r, Ev.succ (by simp only [spec_l2Number.l0]; exact Ev.neg (by omega) (Ev.pos hf.1 (Ev.pos hf.2 (Ev.pos c (Ev.neg (by decide) e)))))⟩
    · obtain ⟨r, e⟩ := j4_some neg n false
      exact ⟨r, Ev.succ (by simp only [spec_l2Number.l0]; exact Ev.neg (by omega) (Ev.pos hf.1 (Ev.pos hf.2 (Ev.neg c e))))⟩
  | d + 1, i, n, hi => by
    by_cases c1 : bt s (i : Int) < 48
    · exact ⟨(0, false), Ev.succ (by simp only [spec_l2Number.l0]; exact Ev.pos (by omega) (Ev.pos (by omega) (Ev.pos c1 (Ev.now _))))⟩
    · by_cases c2 : bt s (i : Int) > 57
      · exact ⟨(0, false), Ev.succ (by simp only [spec_l2Number.l0]; exact Ev.pos (by omega) (Ev.pos (by omega) (Ev.neg c1 (Ev.pos c2 (Ev.now _)))))⟩
      · obtain ⟨r, e⟩ := l2n_l0 s hs f hf neg d (i + 1) (wrap64 (wrap64 (n * 10) + (bt s (i : Int) - 48) % 256)) (by omega)
        have wi : Aside0 (wrap64 ((i : Int) + 1) = ((i + 1 : Nat) : Int)) := ⟨by rw [w64 (by omega) (by omega)]; omega⟩
        refine ⟨r, Ev.succ ?_⟩
        simp only [spec_l2Number.l0, wi.out]
        exact Ev.pos (by omega) (Ev.pos (by omega) (Ev.neg c1 (Ev.neg c2 e)))
theorem l2n_j1 (s : ByteArray) (hs : s.size ≤ 4611686018427387904) (f : Nat) (hf : f ≤ 1) (neg : Bool) : ∃ r, Ev (fun k => spec_l2Number.j1 k s (f : Int) neg) r := by
  have w : Aside0 (wrap64 ((s.size : Int) - (f : Int)) = (s.size : Int) - (f : Int)) := ⟨w64 (by omega) (by omega)⟩
  have no : ∀ n, Ev (fun k => spec_l2Number.j2 k s (f : Int) neg n true) ((0, false) : Int × Bool) := fun n => Ev.succ (by simp only [spec_l2Number.j2]; exact Ev.pos (by trivial) (Ev.now _))
  by_cases c : (s.size : Int) - (f : Int) < 1
  · exact ⟨_, Ev.succ (by simp only [spec_l2Number.j1, w.out]; exact Ev.pos c (no 0))⟩
  · by_cases c2 : (s.size : Int) - (f : Int) > 10
    · exact ⟨_, Ev.succ (by simp only [spec_l2Number.j1, w.out, decide_eq_true c2]; exact Ev.neg c (no 0))⟩
    · obtain ⟨r, e⟩ := l2n_l0 s hs (f : Int) ⟨by omega, by omega⟩ neg (s.size - f) f 0 (by omega)
      exact ⟨r, Ev.succ (by simp only [spec_l2Number.j1, w.out, decide_eq_false c2]; exact Ev.neg c (Ev.succ (by simp only [spec_l2Number.j2]; exact Ev.neg (by decide) e)))⟩
theorem l2n_some (s : ByteArray) (hs : s.size ≤ 4611686018427387904) : ∃ r, Ev (fun k => spec_l2Number.f k s) r := by
  obtain ⟨r0, e0⟩ := l2n_j1 s hs 0 (by omega) false
  obtain ⟨r1, e1⟩ := l2n_j1 s hs 1 (by omega) true
  have j0f : Ev (fun k => spec_l2Number.j0 k s 0 false false) r0 := Ev.succ (by simp only [spec_l2Number.j0]; exact Ev.neg (by decide) e0)
  have j0t : Ev (fun k => spec_l2Number.j0 k s 0 false true) r1 := Ev.succ (by simp only [spec_l2Number.j0]; exact Ev.pos (by trivial) e1)
  unfold spec_l2Number.f
  by_cases c : s.toList = ([] : List UInt8)
  · exact ⟨r0, Ev.pos c j0f⟩
  · have hp : 0 < (s.size : Int) := by
      have : s.data.toList ≠ [] := by simpa [ByteArray.toList_eq] using c
      have := List.length_pos_iff.2 this
      rw [size_data] at this
      omega
    cases hb : bt s 0 == 45 with
    | true => exact ⟨r1, Ev.neg c (Ev.pos hp j0t)⟩
    | false => exact ⟨r0, Ev.neg c (Ev.pos hp j0f)⟩
/-! a record's text, told -/
def recL (t : ByteArray) : List UInt8 := Lib.itoa (t.size : Int) ++ [32] ++ Lib.itoa (dg t) ++ [10] ++ t.data.toList ++ [10]
def recB (t : ByteArray) : ByteArray := if t.size > 3000 then ⟨#[]⟩ else bs (recL t)
theorem rec_ev2 (a : ByteArray) : Ev (fun k => spec_Record.f k a) (recB a) ∧ Ev (fun k => impl_Record.f k a) (recB a) := by
  unfold spec_Record.f impl_Record.f recB
  by_cases c : a.size > 3000
  · rw [if_pos c]
    exact ⟨Ev.pos (by omega) (Ev.now _), Ev.pos (by omega) (Ev.now _)⟩
  · rw [if_neg c]
    have hd := dg_in a
    have i1 := int_ev (a.size : Int) (by omega) (by omega)
    have i2 := int_ev (dg a) (by omega) (by omega)
    have d1 := dec_some (a.size : Int) (by omega) (by omega)
    have d2 := dec_some (dg a) (by omega) (by omega)
    have l1 := itoa_len (a.size : Int) (by omega) (by omega)
    have l2 := itoa_len (dg a) (by omega) (by omega)
    have g1 := sdig_ev a (by omega)
    have g2 := idig_ev a (by omega)
    have e : ((((bs (Lib.itoa (a.size : Int)) ++ (⟨#[32]⟩ : ByteArray)) ++ bs (Lib.itoa (dg a))) ++ (⟨#[10]⟩ : ByteArray)) ++ a) ++ (⟨#[10]⟩ : ByteArray) = bs (recL a) := by
      have hb : ∀ X : List UInt8, bs X ++ a = bs (X ++ a.data.toList) := fun X => by rw [← bs_app, bs_of]
      rw [show (⟨#[32]⟩ : ByteArray) = bs [32] from rfl, show (⟨#[10]⟩ : ByteArray) = bs [10] from rfl, bs_app, bs_app, bs_app, hb, bs_app]
      rfl
    have z32 : (⟨#[32]⟩ : ByteArray).size = 1 := rfl
    have z10 : (⟨#[10]⟩ : ByteArray).size = 1 := rfl
    rw [← e]
    constructor
    · refine Ev.neg (by omega) (Ev.bind i1 (Ev.pos (by omega) (Ev.bind g1 (Ev.bind i2 (Ev.pos ?_ (Ev.pos ?_ (Ev.pos ?_ (Ev.pos ?_ (Ev.now _)))))))))
      all_goals (simp only [ByteArray.size_append, z32, z10]; omega)
    · refine Ev.neg (by omega) (Ev.bind (Ev.const d1) (Ev.pos (by omega) (Ev.bind g2 (Ev.bind (Ev.const d2) (Ev.pos ?_ (Ev.pos ?_ (Ev.pos ?_ (Ev.pos ?_ (Ev.now _)))))))))
      all_goals (simp only [ByteArray.size_append, z32, z10]; omega)
/-! the words of a line -/
theorem words_keep (s : ByteArray) (hs : s.size ≤ 1048576) (w : ByteArray) : ∀ (d i f : Nat) (out : List ByteArray), i + d = s.size + 1 → f ≤ i → out.length ≤ i → out[0]? = some w →
    ∃ L, Ev (fun k => spec_l2Words.l0 k s out (f : Int) (i : Int)) L ∧ L[0]? = some w
  | 0, i, f, out, hi, hf, ho, h0 => ⟨out, Ev.succ (by simp only [spec_l2Words.l0]; exact Ev.neg (by omega) (Ev.now _)), h0⟩
  | d + 1, i, f, out, hi, hf, ho, h0 => by
    have wi : Aside0 (wrap64 ((i : Int) + 1) = ((i + 1 : Nat) : Int)) := ⟨by rw [w64 (by omega) (by omega)]; omega⟩
    have hn : ∀ x : ByteArray, (out ++ [x])[0]? = some w := fun x => by
      cases out with
      | nil => simp at h0
      | cons a l => simpa using h0
    by_cases c : (i : Int) = (s.size : Int)
    · obtain ⟨L, e, h⟩ := words_keep s hs w d (i + 1) (i + 1) (out ++ [s.extract ((f : Int)).toNat ((i : Int)).toNat]) (by omega) (by omega) (by simp; omega) (hn _)
      exact ⟨L, Ev.succ (by simp only [spec_l2Words.l0, wi.out]; exact Ev.pos (by omega) (Ev.pos c (Ev.pos (by omega) (Ev.pos (by omega) (Ev.pos (by omega) e))))), h⟩
    · by_cases b : bt s (i : Int) = 32
      · obtain ⟨L, e, h⟩ := words_keep s hs w d (i + 1) (i + 1) (out ++ [s.extract ((f : Int)).toNat ((i : Int)).toNat]) (by omega) (by omega) (by simp; omega) (hn _)
        exact ⟨L, Ev.succ (by simp only [spec_l2Words.l0, wi.out]; exact Ev.pos (by omega) (Ev.neg c (Ev.pos (by omega) (Ev.pos (by omega) (Ev.pos b (Ev.pos (by omega) (Ev.pos (by omega) (Ev.pos (by omega) e)))))))), h⟩
      · obtain ⟨L, e, h⟩ := words_keep s hs w d (i + 1) f out (by omega) (by omega) (by omega) h0
        exact ⟨L, Ev.succ (by simp only [spec_l2Words.l0, wi.out]; exact Ev.pos (by omega) (Ev.neg c (Ev.pos (by omega) (Ev.pos (by omega) (Ev.neg b e))))), h⟩
theorem words_first (s : ByteArray) (hs : s.size ≤ 1048576) : ∀ (d i : Nat), i + d = s.size → (∀ j : Nat, j < i → bt s (j : Int) ≠ 32) →
    ∃ L p, Ev (fun k => spec_l2Words.l0 k s [] 0 (i : Int)) L ∧ p ≤ s.size ∧ (∀ j : Nat, j < p → bt s (j : Int) ≠ 32) ∧ (p = s.size ∨ bt s (p : Int) = 32) ∧ L[0]? = some (s.extract 0 p)
  | 0, i, hi, hj => by
    have wi : Aside0 (wrap64 ((i : Int) + 1) = ((i + 1 : Nat) : Int)) := ⟨by rw [w64 (by omega) (by omega)]; omega⟩
    obtain ⟨L, e, h⟩ := words_keep s hs (s.extract 0 i) 0 (i + 1) (i + 1) ([] ++ [s.extract ((0 : Int)).toNat ((i : Int)).toNat]) (by omega) (by omega) (by simp) (by simp)
    exact ⟨L, i, Ev.succ (by simp only [spec_l2Words.l0, wi.out]; exact Ev.pos (by omega) (Ev.pos (by omega) (Ev.pos (by omega) (Ev.pos (by omega) (Ev.pos (by simp) e))))), by omega, hj, Or.inl (by omega), h⟩
  | d + 1, i, hi, hj => by
    have wi : Aside0 (wrap64 ((i : Int) + 1) = ((i + 1 : Nat) : Int)) := ⟨by rw [w64 (by omega) (by omega)]; omega⟩
    by_cases b : bt s (i : Int) = 32
    · obtain ⟨L, e, h⟩ := words_keep s hs (s.extract 0 i) (d + 1) (i + 1) (i + 1) ([] ++ [s.extract ((0 : Int)).toNat ((i : Int)).toNat]) (by omega) (by omega) (by simp) (by simp)
      exact ⟨L, i, Ev.succ (by simp only [spec_l2Words.l0, wi.out]; exact Ev.pos (by omega) (Ev.neg (by omega) (Ev.pos (by omega) (Ev.pos (by omega) (Ev.pos b (Ev.pos (by omega) (Ev.pos (by omega) (Ev.pos (by simp) e)))))))), by omega, hj, Or.inr b, h⟩
    · obtain ⟨L, p, e, h⟩ := words_first s hs d (i + 1) (by omega) (fun j hj' => by
        by_cases hji : j = i
        · subst hji; exact b
        · exact hj j (by omega))
      exact ⟨L, p, Ev.succ (by simp only [spec_l2Words.l0, wi.out]; exact Ev.pos (by omega) (Ev.neg (by omega) (Ev.pos (by omega) (Ev.pos (by omega) (Ev.neg b e))))), h⟩
/-! the reference's first record -/
def noR : ByteArray × Int := (⟨#[]⟩, 0)
def outS (s : ByteArray) (e : Nat) (n : Int) (ok : Bool) : ByteArray × Int :=
  if e = s.size then noR else if ok = true then (if 0 ≤ n ∧ n ≤ 3000 then (if n > (s.size : Int) - ((e : Int) + 1) then noR else if (recB (s.extract (e + 1) (e + 1 + n.toNat))).size > s.size then noR else if (s.extract 0 (recB (s.extract (e + 1) (e + 1 + n.toNat))).size).toList = (recB (s.extract (e + 1) (e + 1 + n.toNat))).toList then (s.extract (e + 1) (e + 1 + n.toNat), ((recB (s.extract (e + 1) (e + 1 + n.toNat))).size : Int)) else noR) else noR) else noR
theorem in_all (a b c : Int) : spec_l1In.f a b c = some (decide (b ≤ a ∧ a ≤ c)) := by
  unfold spec_l1In.f
  split
  · rename_i h; congr 1; simp; omega
  · rename_i h; congr 1; simp; omega
theorem l10_j1 (s : ByteArray) (hs : s.size ≤ 1048576) (e : Nat) (he : e ≤ s.size) (L : List ByteArray) (w0 : ByteArray) (n : Int) (ok : Bool) (hw : Ev (fun k => spec_l2Words.f k (s.extract 0 e)) L) (h0 : L[0]? = some w0) (hn : Ev (fun k => spec_l2Number.f k w0) (n, ok)) :
    Ev (fun k => spec_l10Record.j1 k s (e : Int)) (outS s e n ok) := by
  have hL : 0 < L.length := by
    cases L with
    | nil => simp at h0
    | cons a l => simp
  have hr : rdOf ByteArray.empty L 0 = w0 := by
    cases L with
    | nil => simp at h0
    | cons a l => simpa [rdOf] using h0
  have we : Aside0 (wrap64 ((e : Int) + 1) = (e : Int) + 1) := ⟨w64 (by omega) (by omega)⟩
  have wd : Aside0 (wrap64 ((s.size : Int) - ((e : Int) + 1)) = (s.size : Int) - ((e : Int) + 1)) := ⟨w64 (by omega) (by omega)⟩
  have no : Ev (fun k => spec_l10Record.j2 k s n ((e : Int) + 1) true) noR := Ev.succ (by simp only [spec_l10Record.j2]; exact Ev.pos (by trivial) (Ev.now _))
  have key : Ev (fun k => if (e : Int) = (s.size : Int) then spec_l10Record.j2 k s n ((e : Int) + 1) true else (if ok = true then ((spec_l1In.f n 0 3000).bind fun t125 => (if t125 = true then (spec_l10Record.j2 k s n ((e : Int) + 1) (decide (n > (s.size : Int) - ((e : Int) + 1)))) else (spec_l10Record.j2 k s n ((e : Int) + 1) true))) else (spec_l10Record.j2 k s n ((e : Int) + 1) true))) (outS s e n ok) := by
    unfold outS
    by_cases c1 : e = s.size
    · rw [if_pos c1]
      exact Ev.pos (by omega) no
    · rw [if_neg c1]
      refine Ev.neg (by omega) ?_
      cases ok with
      | false => exact Ev.neg (by decide) no
      | true =>
        rw [if_pos rfl, in_all]
        refine Ev.pos rfl ?_
        simp only [Option.bind_some]
        by_cases c2 : 0 ≤ n ∧ n ≤ 3000
        · rw [if_pos c2, decide_eq_true c2]
          refine Ev.pos rfl ?_
          by_cases c3 : n > (s.size : Int) - ((e : Int) + 1)
          · rw [if_pos c3, decide_eq_true c3]
            exact no
          · rw [if_neg c3, decide_eq_false c3]
            obtain ⟨m, rfl⟩ := Int.eq_ofNat_of_zero_le c2.1
            have ws : Aside0 (wrap64 ((e : Int) + 1 + (m : Int)) = ((e + 1 + m : Nat) : Int)) := ⟨by rw [w64 (by omega) (by omega)]; omega⟩
            have r1 := (rec_ev2 (s.extract (e + 1) (e + 1 + m))).1
            have e1 : ((e : Int) + 1).toNat = e + 1 := by omega
            rw [Int.toNat_natCast]
            refine Ev.succ ?_
            simp only [spec_l10Record.j2, ws.out, Int.toNat_natCast, e1]
            refine Ev.neg (by decide) (Ev.pos (by omega) (Ev.pos (by omega) (Ev.pos (by omega) (Ev.bind r1 ?_))))
            by_cases c4 : (recB (s.extract (e + 1) (e + 1 + m))).size > s.size
            · rw [if_pos c4]
              exact Ev.pos (by omega) (Ev.now _)
            · rw [if_neg c4]
              refine Ev.neg (by omega) (Ev.pos (by omega) (Ev.pos (by omega) ?_))
              by_cases c5 : (s.extract 0 (recB (s.extract (e + 1) (e + 1 + m))).size).toList = (recB (s.extract (e + 1) (e + 1 + m))).toList
              · exact (congrArg (Ev _) (if_pos c5)).mpr (Ev.pos c5 (Ev.now _))
              · exact (congrArg (Ev _) (if_neg c5)).mpr (Ev.neg c5 (Ev.now _))
        · rw [if_neg c2, decide_eq_false c2]
          exact Ev.neg (by decide) no
  refine Ev.succ ?_
  simp only [spec_l10Record.j1, Int.toNat_natCast]
  refine Ev.pos (by omega) (Ev.pos (by omega) (Ev.bind hw (Ev.pos (by omega) ?_)))
  rw [hr]
  refine Ev.bind hn ?_
  simp only [we.out, wd.out]
  exact key
theorem l10_find (s : ByteArray) (hs : s.size ≤ 1048576) : ∀ (d i : Nat), i + d = s.size → (∀ j : Nat, j < i → bt s (j : Int) ≠ 10) →
    ∃ e, e ≤ s.size ∧ (∀ j : Nat, j < e → bt s (j : Int) ≠ 10) ∧ (e = s.size ∨ bt s (e : Int) = 10) ∧ ∀ r, Ev (fun k => spec_l10Record.j1 k s (e : Int)) r → Ev (fun k => spec_l10Record.l0 k s (i : Int)) r
  | 0, i, hi, hj => ⟨i, by omega, hj, Or.inl (by omega), fun r h => Ev.succ (by simp only [spec_l10Record.l0]; exact Ev.neg (by omega) h)⟩
  | d + 1, i, hi, hj => by
    by_cases b : bt s (i : Int) = 10
    · exact ⟨i, by omega, hj, Or.inr b, fun r h => Ev.succ (by simp only [spec_l10Record.l0]; exact Ev.pos (by omega) (Ev.pos (by omega) (Ev.pos b h)))⟩
    · obtain ⟨e, h1, h2, h3, h4⟩ := l10_find s hs d (i + 1) (by omega) (fun j hj' => by
        by_cases hji : j = i
        · subst hji; exact b
        · exact hj j (by omega))
      have wi : Aside0 (wrap64 ((i : Int) + 1) = ((i + 1 : Nat) : Int)) := ⟨by rw [w64 (by omega) (by omega)]; omega⟩
      exact ⟨e, h1, h2, h3, fun r h => Ev.succ (by simp only [spec_l10Record.l0, wi.out]; exact Ev.pos (by omega) (Ev.pos (by omega) (Ev.neg b (h4 r h))))⟩
theorem ext_list (s : ByteArray) (a b : Nat) : (s.extract a b).data.toList = (s.data.toList.take b).drop a := by
  rw [ByteArray.data_extract]
  simp [Array.toList_extract, List.extract, List.drop_take]
theorem toList_data (s : ByteArray) : s.toList = s.data.toList := by simp [ByteArray.toList_eq]
theorem outS_pre (s : ByteArray) (hs : s.size ≤ 1048576) (e : Nat) (n : Int) (ok : Bool) : outS s e n ok = noR ∨ ∃ t : ByteArray, t.size ≤ 3000 ∧ recL t <+: s.data.toList ∧ outS s e n ok = (t, ((recL t).length : Int)) := by
  unfold outS
  by_cases c1 : e = s.size
  · rw [if_pos c1]; exact Or.inl rfl
  rw [if_neg c1]
  by_cases c2 : ok = true
  · rw [if_pos c2]
    by_cases c3 : 0 ≤ n ∧ n ≤ 3000
    · rw [if_pos c3]
      by_cases c4 : n > (s.size : Int) - ((e : Int) + 1)
      · rw [if_pos c4]; exact Or.inl rfl
      rw [if_neg c4]
      generalize hx : s.extract (e + 1) (e + 1 + n.toNat) = t
      have hts : t.size ≤ 3000 := by
        rw [← hx, ← size_data, ext_list, List.length_drop, List.length_take]
        omega
      by_cases c5 : (recB t).size > s.size
      · rw [if_pos c5]; exact Or.inl rfl
      rw [if_neg c5]
      have hb : recB t = bs (recL t) := by unfold recB; rw [if_neg (by omega)]
      by_cases c6 : (s.extract 0 (recB t).size).toList = (recB t).toList
      · rw [if_pos c6]
        refine Or.inr ⟨t, hts, ?_, by rw [hb, bs_size]⟩
        rw [toList_data, toList_data, ext_list, hb, bs_data, bs_size, List.drop_zero] at c6
        rw [← c6]
        exact List.take_prefix _ _
      · rw [if_neg c6]; exact Or.inl rfl
    · rw [if_neg c3]; exact Or.inl rfl
  · rw [if_neg c2]; exact Or.inl rfl
theorem spec_first (s : ByteArray) (hs : s.size ≤ 1048576) : ∃ r, Ev (fun k => spec_l10Record.f k s) r ∧ (r = noR ∨ ∃ t : ByteArray, t.size ≤ 3000 ∧ recL t <+: s.data.toList ∧ r = (t, ((recL t).length : Int))) := by
  obtain ⟨e, h1, _, _, h4⟩ := l10_find s hs s.size 0 (by omega) (fun j hj => by omega)
  have hl : (s.extract 0 e).size ≤ 1048576 := by
    rw [← size_data, ext_list, List.length_drop, List.length_take]
    have := size_data s
    omega
  obtain ⟨L, p, w1, _, _, _, w5⟩ := words_first (s.extract 0 e) hl (s.extract 0 e).size 0 (by omega) (fun j hj => by omega)
  have hp : ((s.extract 0 e).extract 0 p).size ≤ 4611686018427387904 := by
    rw [← size_data, ext_list, List.length_drop, List.length_take]
    have := size_data (s.extract 0 e)
    omega
  obtain ⟨⟨n, ok⟩, hn⟩ := l2n_some _ hp
  exact ⟨_, h4 _ (l10_j1 s hs e h1 L _ n ok w1 w5 hn), outS_pre s hs e n ok⟩
/-! the program's first record -/
theorem cutA_size (s p : ByteArray) : (cutA s p).size ≤ s.size := by
  have : s.data.toList.length = s.size := size_data s
  show (Lib.cut s.data.toList p.data.toList).1.toArray.size ≤ _
  unfold Lib.cut
  split
  · simp only [List.size_toArray, List.length_take]; omega
  · simp only [List.size_toArray]; omega
theorem impl_first (s : ByteArray) (hs : s.size ≤ 1048576) : ∃ r, Ev (fun k => impl_firstRecord.f k s) r ∧ (r.2 = true → r.1.size ≤ 3000 ∧ recL r.1 <+: s.data.toList) := by
  obtain ⟨⟨n, ok⟩, hn⟩ := number_some (cutA s ⟨#[32]⟩) (by have := cutA_size s ⟨#[32]⟩; omega)
  unfold impl_firstRecord.f
  by_cases c1 : cutO s ⟨#[32]⟩ = true ∧ cutO (cutB s ⟨#[32]⟩) ⟨#[10]⟩ = true ∧ ok = true
  · by_cases c2 : 0 ≤ n ∧ n ≤ ((cutB (cutB s ⟨#[32]⟩) ⟨#[10]⟩).size : Int)
    · refine ⟨_, Ev.pos (by omega) (Ev.bind (Ev.const hn) (Ev.pos c1 (Ev.pos c2 (Ev.bind (rec_ev2 _).2 (Ev.now _))))), ?_⟩
      dsimp only
      generalize (cutB (cutB s ⟨#[32]⟩) ⟨#[10]⟩).extract 0 n.toNat = t
      intro h
      rw [Bool.and_eq_true] at h
      have ht : ¬ t.size > 3000 := by
        intro h3
        have e : recB t = ⟨#[]⟩ := by unfold recB; rw [if_pos h3]
        rw [e] at h
        exact absurd h.1 (by simp [toList_data])
      have e : recB t = bs (recL t) := by unfold recB; rw [if_neg ht]
      refine ⟨by omega, ?_⟩
      have := h.2
      rw [e, bs_data] at this
      exact List.isPrefixOf_iff_prefix.1 this
    · exact ⟨_, Ev.pos (by omega) (Ev.bind (Ev.const hn) (Ev.pos c1 (Ev.neg c2 (Ev.now _)))), fun h => absurd h (by decide)⟩
  · exact ⟨_, Ev.pos (by omega) (Ev.bind (Ev.const hn) (Ev.neg c1 (Ev.now _))), fun h => absurd h (by decide)⟩
theorem idx_one (c : UInt8) : ∀ (A rest : List UInt8), c ∉ A → Lib.index (A ++ c :: rest) [c] = (A.length : Int)
  | [], rest, _ => by simp [Lib.index]
  | b :: A, rest, h => by
    have hb : c ≠ b := fun e => h (by simp [e])
    have ih := idx_one c A rest (fun e => h (by simp [e]))
    simp only [List.cons_append, Lib.index]
    rw [if_neg (by simp [List.isPrefixOf, hb]), ih, if_neg (by first | (simp; done) | (simp; omega))]
    simp
theorem cut_one (c : UInt8) (A rest : List UInt8) (h : c ∉ A) : Lib.cut (A ++ c :: rest) [c] = (A, rest, true) := by
  unfold Lib.cut
  rw [idx_one c A rest h, if_pos (by omega)]
  simp
/-! a record's head -/
theorem dig_no (c : UInt8) (hc : c = 32 ∨ c = 10) : ∀ (f n : Nat), n < 10 ^ (f + 1) → c ∉ Lib.decDigits n
  | 0, n, hn => by
    rw [Lib.decDigits_one (by omega)]
    have : n < 10 := by omega
    intro h
    rw [List.mem_singleton] at h
    have h2 := congrArg UInt8.toNat h
    rcases hc with rfl | rfl <;> simp at h2 <;> omega
  | f + 1, n, hn => by
    by_cases c1 : n < 10
    · exact dig_no c hc 0 n (by omega)
    · rw [Lib.decDigits, dif_neg c1]
      intro h
      rcases List.mem_append.1 h with h | h
      · exact dig_no c hc f (n / 10) (by rw [Nat.pow_succ] at hn; omega) h
      · rw [List.mem_singleton] at h
        have h2 := congrArg UInt8.toNat h
        rcases hc with rfl | rfl <;> simp at h2 <;> omega
theorem itoa_d4 (n : Nat) (h : n ≤ 3000) : Lib.itoa (n : Int) = d4 n := by rw [Lib.itoa_nonneg, d4_eq n (by omega)]
theorem d4_len (n : Nat) : (d4 n).length ≤ 4 := by
  unfold d4
  repeat' split
  all_goals simp
theorem num_at (n : Nat) (h : n ≤ 3000) : impl_number.f ⟨(d4 n).toArray⟩ = some ((n : Int), true) := by
  have h1 := parse_all ⟨n, by omega⟩
  have h3 := trim_all ⟨n, by omega⟩
  dsimp only at h1 h3
  have hd := dec_some (n : Int) (by omega) (by omega)
  have hl := d4_len n
  unfold impl_number.f
  rw [if_neg (by show ¬ (((Lib.trimPrefix (d4 n) [45]).toArray.size : Nat) : Int) > 10; rw [List.size_toArray]; omega), if_pos (by show (d4 n).toArray.size ≤ _; rw [List.size_toArray]; omega)]
  rw [show (⟨(d4 n).toArray⟩ : ByteArray).data.toList = d4 n from bs_data _, h1]
  simp only [hd, Option.bind_some]
  rw [itoa_d4 n h]
  congr 2
  rw [beq_iff_eq]
  rfl
theorem l2_at (n : Nat) (h : n ≤ 3000) : Ev (fun k => spec_l2Number.f k ⟨(d4 n).toArray⟩) ((n : Int), true) :=
  Ev.of (fun k => spec_l2Number.mono _ k) (l2num_all ⟨n, by omega⟩)
theorem rec_shape (t : ByteArray) : ∃ G : List UInt8, recL t = Lib.itoa (t.size : Int) ++ 32 :: (G ++ 10 :: (t.data.toList ++ [10])) ∧ (32 : UInt8) ∉ G ∧ (10 : UInt8) ∉ G := by
  have hd := dg_in t
  obtain ⟨m, hm⟩ := Int.eq_ofNat_of_zero_le hd.1
  refine ⟨Lib.decDigits m, ?_, dig_no 32 (Or.inl rfl) 9 m (by omega), dig_no 10 (Or.inr rfl) 9 m (by omega)⟩
  unfold recL
  rw [hm, Lib.itoa_nonneg m]
  simp
theorem impl_at (s t : ByteArray) (hs : s.size ≤ 1048576) (ht : t.size ≤ 3000) (hp : recL t <+: s.data.toList) : Ev (fun k => impl_firstRecord.f k s) (t, true) := by
  obtain ⟨G, hG, g32, g10⟩ := rec_shape t
  obtain ⟨tail, hl⟩ := hp
  have hz : (32 : UInt8) ∉ Lib.itoa (t.size : Int) := by rw [Lib.itoa_nonneg]; exact dig_no 32 (Or.inl rfl) 9 t.size (by omega)
  have el : s.data.toList = Lib.itoa (t.size : Int) ++ 32 :: (G ++ 10 :: (t.data.toList ++ 10 :: tail)) := by rw [← hl, hG]; simp
  have k1 : Lib.cut s.data.toList (⟨#[32]⟩ : ByteArray).data.toList = (Lib.itoa (t.size : Int), G ++ 10 :: (t.data.toList ++ 10 :: tail), true) := by rw [el]; exact cut_one 32 _ _ hz
  have cA : cutA s ⟨#[32]⟩ = ⟨(d4 t.size).toArray⟩ := by unfold cutA; rw [k1, itoa_d4 _ ht]
  have cO : cutO s ⟨#[32]⟩ = true := by unfold cutO; rw [k1]
  have cB : cutB s ⟨#[32]⟩ = bs (G ++ 10 :: (t.data.toList ++ 10 :: tail)) := by unfold cutB; rw [k1]; rfl
  have k2 : Lib.cut (bs (G ++ 10 :: (t.data.toList ++ 10 :: tail))).data.toList (⟨#[10]⟩ : ByteArray).data.toList = (G, t.data.toList ++ 10 :: tail, true) := by rw [bs_data]; exact cut_one 10 _ _ g10
  have cO2 : cutO (bs (G ++ 10 :: (t.data.toList ++ 10 :: tail))) ⟨#[10]⟩ = true := by unfold cutO; rw [k2]
  have cB2 : cutB (bs (G ++ 10 :: (t.data.toList ++ 10 :: tail))) ⟨#[10]⟩ = bs (t.data.toList ++ 10 :: tail) := by unfold cutB; rw [k2]; rfl
  have hx : (bs (t.data.toList ++ 10 :: tail)).extract 0 t.size = t := by
    rw [← bs_of ((bs (t.data.toList ++ 10 :: tail)).extract 0 t.size), ext_list, bs_data, List.drop_zero, ← size_data t, List.take_left, bs_of]
  have hb : recB t = bs (recL t) := by unfold recB; rw [if_neg (by omega)]
  unfold impl_firstRecord.f
  rw [cA, cO, cB, cO2, cB2]
  refine Ev.pos (by omega) (Ev.bind (Ev.const (num_at t.size ht)) (Ev.pos ⟨rfl, rfl, rfl⟩ (Ev.pos ⟨by omega, by rw [bs_size, List.length_append, size_data]; omega⟩ ?_)))
  rw [Int.toNat_natCast, hx]
  have r2 := (rec_ev2 t).2
  refine Ev.bind r2 ?_
  have e : ((recB t).toList != ([] : List UInt8) && Lib.hasPrefix s.data.toList (recB t).data.toList) = true := by
    rw [hb, toList_data, bs_data, Bool.and_eq_true]
    constructor
    · rw [bne_iff_ne, hG]; simp
    · exact List.isPrefixOf_iff_prefix.2 ⟨tail, hl⟩
  rw [e]
  exact Ev.now _
theorem bt_at (s : ByteArray) (A rest : List UInt8) (c : UInt8) (h : s.data.toList = A ++ c :: rest) : bt s (A.length : Int) = (c.toNat : Int) := bt_data (by rw [h, List.getElem?_append_right (Nat.le_refl _)]; simp)
theorem bt_no (s : ByteArray) (A rest : List UInt8) (c : UInt8) (h : s.data.toList = A ++ rest) (hc : c ∉ A) (j : Nat) (hj : j < A.length) : bt s (j : Int) ≠ (c.toNat : Int) := by
  have e : s.data.toList[j]? = some (A[j]) := by rw [h, List.getElem?_append_left hj]; exact List.getElem?_eq_getElem hj
  rw [bt_data e]
  intro he
  have : A[j] = c := UInt8.toNat_inj.1 (by omega)
  exact hc (this ▸ List.getElem_mem hj)
theorem place_eq (s : ByteArray) (A rest : List UInt8) (c : UInt8) (h : s.data.toList = A ++ c :: rest) (hc : c ∉ A) (e : Nat) (h1 : e ≤ s.size) (h2 : ∀ j : Nat, j < e → bt s (j : Int) ≠ (c.toNat : Int)) (h3 : e = s.size ∨ bt s (e : Int) = (c.toNat : Int)) : e = A.length := by
  have hl := size_data s
  rw [h, List.length_append, List.length_cons] at hl
  rcases Nat.lt_trichotomy e A.length with h4 | h4 | h4
  · rcases h3 with h3 | h3
    · omega
    · exact absurd h3 (bt_no s A (c :: rest) c h hc e h4)
  · exact h4
  · exact absurd (bt_at s A rest c h) (h2 _ h4)
theorem spec_at (s t : ByteArray) (hs : s.size ≤ 1048576) (ht : t.size ≤ 3000) (hp : recL t <+: s.data.toList) : Ev (fun k => spec_l10Record.f k s) (t, ((recL t).length : Int)) := by
  obtain ⟨G, hG, g32, g10⟩ := rec_shape t
  have hpp := hp
  obtain ⟨tail, hl⟩ := hp
  have hz : (32 : UInt8) ∉ Lib.itoa (t.size : Int) := by rw [Lib.itoa_nonneg]; exact dig_no 32 (Or.inl rfl) 9 t.size (by omega)
  have hz10 : (10 : UInt8) ∉ Lib.itoa (t.size : Int) := by rw [Lib.itoa_nonneg]; exact dig_no 10 (Or.inr rfl) 9 t.size (by omega)
  have el : s.data.toList = (Lib.itoa (t.size : Int) ++ 32 :: G) ++ 10 :: (t.data.toList ++ 10 :: tail) := by rw [← hl, hG]; simp
  obtain ⟨e, h1, h2, h3, h4⟩ := l10_find s hs s.size 0 (by omega) (fun j hj => by omega)
  have he : e = (Lib.itoa (t.size : Int) ++ 32 :: G).length := place_eq s _ _ 10 el (by simp [hz10, g10]) e h1 h2 h3
  have he2 : e = (Lib.itoa (t.size : Int)).length + (G.length + 1) := by rw [he, List.length_append, List.length_cons]
  have hlen := size_data s
  simp only [el, List.length_append, List.length_cons] at hlen
  have tl0 := size_data t
  have hline : (s.extract 0 e).data.toList = Lib.itoa (t.size : Int) ++ 32 :: G := by rw [ext_list, List.drop_zero, el, he, List.take_left]
  have hls := size_data (s.extract 0 e)
  rw [hline, List.length_append, List.length_cons] at hls
  obtain ⟨L, p, w1, w2, w3, w4, w5⟩ := words_first (s.extract 0 e) (by omega) (s.extract 0 e).size 0 (by omega) (fun j hj => by omega)
  have hpv : p = (Lib.itoa (t.size : Int)).length := place_eq (s.extract 0 e) _ _ 32 hline hz p w2 w3 w4
  have hw0 : (s.extract 0 e).extract 0 p = ⟨(d4 t.size).toArray⟩ := by
    rw [← bs_of ((s.extract 0 e).extract 0 p), ext_list, List.drop_zero, hline, hpv, List.take_left, itoa_d4 _ ht]
    rfl
  rw [hw0] at w5
  have key := h4 _ (l10_j1 s hs e h1 L _ _ _ w1 w5 (l2_at t.size ht))
  have tl := size_data t
  have hx : s.extract (e + 1) (e + 1 + t.size) = t := by
    rw [← bs_of (s.extract (e + 1) (e + 1 + t.size)), ext_list, List.drop_take, show e + 1 + t.size - (e + 1) = t.size by omega, el, he, List.drop_append, List.drop_eq_nil_of_le (by omega), List.nil_append, show (Lib.itoa (t.size : Int) ++ 32 :: G).length + 1 - (Lib.itoa (t.size : Int) ++ 32 :: G).length = 1 by omega, List.drop_one, List.tail_cons, ← tl, List.take_left, bs_of]
  have hb : recB t = bs (recL t) := by unfold recB; rw [if_neg (by omega)]
  have hrl : (recL t).length ≤ s.size := by have := hpp.length_le; rw [size_data] at this; exact this
  have hout : outS s e (t.size : Int) true = (t, ((recL t).length : Int)) := by
    unfold outS
    rw [if_neg (by omega), if_pos rfl, if_pos ⟨by omega, by omega⟩, if_neg (by omega), Int.toNat_natCast, hx, hb, bs_size, if_neg (by omega), if_pos]
    rw [toList_data, toList_data, ext_list, bs_data, List.drop_zero]
    exact (List.prefix_iff_eq_take.1 hpp).symm
  rw [hout] at key
  exact key
theorem first_both (s : ByteArray) (hs : s.size ≤ 1048576) : ∃ (rs : ByteArray × Int) (ri : ByteArray × Bool), Ev (fun k => spec_l10Record.f k s) rs ∧ Ev (fun k => impl_firstRecord.f k s) ri ∧ ((rs.2 = 0 ∧ ri.2 = false) ∨ ∃ t : ByteArray, t.size ≤ 3000 ∧ (recL t).length ≤ s.size ∧ 0 < (recL t).length ∧ rs = (t, ((recL t).length : Int)) ∧ ri = (t, true)) := by
  have pos : ∀ t : ByteArray, 0 < (recL t).length := fun t => by unfold recL; simp only [List.length_append, List.length_cons, List.length_nil]; omega
  obtain ⟨rs, e1, h1⟩ := spec_first s hs
  rcases h1 with h1 | ⟨t, ht, hp, h1⟩
  · obtain ⟨ri, e2, h2⟩ := impl_first s hs
    cases hb : ri.2 with
    | false => exact ⟨rs, ri, e1, e2, Or.inl ⟨by rw [h1]; rfl, hb⟩⟩
    | true =>
      obtain ⟨ht, hp⟩ := h2 hb
      have := Ev.uniq e1 (spec_at s ri.1 hs ht hp)
      rw [h1] at this
      have h3 := congrArg Prod.snd this
      have h4 := pos ri.1
      simp only [noR] at h3
      omega
  · refine ⟨rs, (t, true), e1, impl_at s t hs ht hp, Or.inr ⟨t, ht, ?_, pos t, h1, rfl⟩⟩
    have := hp.length_le
    rw [size_data] at this
    exact this
theorem loops (D : ByteArray) (hs : D.size ≤ 1048576) : ∀ (d at_ : Nat) (out : List ByteArray), at_ + d = D.size → out.length ≤ at_ →
    ∃ r : List ByteArray × Int, Ev (fun k => spec_Records.l0 k D out (at_ : Int)) r ∧ Ev (fun k => impl_Records.l0 k D out (at_ : Int)) r ∧ r.1.length ≤ 1048576 := by
  intro d
  induction d using Nat.strongRecOn with
  | _ d ih =>
    intro at_ out ha ho
    have hx : (D.extract at_ D.size).size = D.size - at_ := by
      have := size_data D
      rw [← size_data, ext_list, List.length_drop, List.length_take]
      omega
    obtain ⟨rs, ri, e1, e2, h⟩ := first_both (D.extract at_ D.size) (by omega)
    rcases h with ⟨h1, h2⟩ | ⟨t, ht, hl, hp, rfl, rfl⟩
    · refine ⟨(out, (at_ : Int)), Ev.succ ?_, Ev.succ ?_, by dsimp only; omega⟩
      · simp only [spec_Records.l0, Int.toNat_natCast]
        exact Ev.pos (by omega) (Ev.pos (by omega) (Ev.bind e1 (Ev.pos h1 (Ev.now _))))
      · simp only [impl_Records.l0, Int.toNat_natCast]
        exact Ev.pos (by omega) (Ev.pos (by omega) (Ev.bind e2 (Ev.neg (by rw [h2]; decide) (Ev.now _))))
    · obtain ⟨r, j1, j2, j3⟩ := ih (d - (recL t).length) (by omega) (at_ + (recL t).length) (out ++ [t]) (by omega) (by simp; omega)
      have hb : ((recB t).size : Int) = ((recL t).length : Int) := by unfold recB; rw [if_neg (by omega), bs_size]
      have wi : Aside0 (wrap64 ((at_ : Int) + ((recL t).length : Int)) = ((at_ + (recL t).length : Nat) : Int)) := ⟨by rw [w64 (by omega) (by omega)]; omega⟩
      refine ⟨r, Ev.succ ?_, Ev.succ ?_, j3⟩
      · simp only [spec_Records.l0, Int.toNat_natCast]
        refine Ev.pos (by omega) (Ev.pos (by omega) (Ev.bind e1 ?_))
        dsimp only
        rw [wi.out]
        exact Ev.neg (by omega) (Ev.pos (by omega) j1)
      · simp only [impl_Records.l0, Int.toNat_natCast]
        refine Ev.pos (by omega) (Ev.pos (by omega) (Ev.bind e2 (Ev.pos rfl (Ev.pos (by omega) (Ev.bind (rec_ev2 t).2 ?_)))))
        dsimp only
        rw [hb, wi.out]
        exact j2
theorem ct_ls : ∀ y : List ByteArray, (ctList ctOne) y = y.length
  | [] => by simp [ctList]
  | x :: y => by
    have := ct_ls y
    simp only [ctList, ctOne, List.map_cons, List.sum_cons, List.length_cons] at this ⊢
    omega
theorem FnExactRecords : laws_FnExactRecords.Pure := by
  intro s _
  refine Ev.rounds (g := fun k => laws_FnExactRecords.f k s) ?_
  unfold laws_FnExactRecords.f
  refine Ev.ite (fun _ => Ev.now _) (fun h => ?_)
  obtain ⟨⟨l, n⟩, h1, h2, h3⟩ := loops s (by omega) s.size 0 [] (by omega) (by simp)
  dsimp only at h3
  have hc := ct_ls l
  obtain ⟨r, z, q, m, g, _⟩ := laws_markStringS_ev l 1 (by omega) (by omega) ⟨by omega, fun _ _ => trivial⟩
  have p : ¬ r < 0 := by omega
  have e := laws_eqStringS_ev l ⟨by omega, fun _ _ => trivial⟩
  exact Ev.bind h1 (Ev.bind h2 (Ev.bind e (Ev.pos rfl (Ev.pos rfl (Ev.bind m (Ev.bind g (Ev.neg p (Ev.pos rfl (Ev.bind h2 (Ev.bind e (Ev.pos rfl (Ev.pos rfl (Ev.bind g (Ev.neg p (Ev.pos rfl (Ev.now _))))))))))))))))
end Go.Proofs.YtokfpmkhfindmaaDoor.Pure
