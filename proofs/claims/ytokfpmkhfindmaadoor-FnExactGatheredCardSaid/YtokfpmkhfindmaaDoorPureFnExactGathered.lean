/- The program's Gathered returns what the reference's Gathered returns, for every list of votes and every number of servers. No condition. -/
import Derived.Test.YtokfpmkhfindmaaDoorBoilFnExactGathered
namespace Go.Proofs.YtokfpmkhfindmaaDoor.Pure
open Go.RowKit Go.Proofs.YtokfpmkhfindmaaDoor.PFnExactGathered Go.Proofs.YtokfpmkhfindmaaDoorW.PrintWords Go.Proofs.YtokfpmkhfindmaaDoorW.PrintLast Go.Proofs.YtokfpmkhfindmaaDoorW.PrintMore
set_option maxRecDepth 100000
set_option linter.unusedVariables false
set_option linter.unusedSimpArgs false
theorem bound_i64 {x : Int} (h : okInt .i64 x) : -9223372036854775808 ≤ x ∧ x ≤ 9223372036854775807 := by
  have h : (Lit.int .i64 x).wf = true := h
  simp [Lit.wf, IntKind.min, IntKind.max, IntKind.bits, IntKind.signed] at h
  omega
def bs (l : List UInt8) : ByteArray := ⟨l.toArray⟩
theorem bs_data (l : List UInt8) : (bs l).data.toList = l := by simp [bs]
theorem bs_of (s : ByteArray) : bs s.data.toList = s := by cases s; simp [bs]
theorem bs_app (a b : List UInt8) : bs a ++ bs b = bs (a ++ b) := by
  apply bytes_inj
  simp [bs, ByteArray.toList_eq, ByteArray.data_append]
theorem bs_size (l : List UInt8) : (bs l).size = l.length := by simp [bs, ByteArray.size]
theorem size_data (s : ByteArray) : s.data.toList.length = s.size := by simp only [ByteArray.size, Array.length_toList]
theorem tm_nat (m : Nat) : Int.tmod (m : Int) 10 = ((m % 10 : Nat) : Int) := rfl
theorem td_nat (m : Nat) : Int.tdiv (m : Int) 10 = ((m / 10 : Nat) : Int) := rfl
theorem dig_bytes (m : Nat) (v : Int) (s : ByteArray) (h : v = 48 + ((m % 10 : Nat) : Int)) : strOfNums [v % 256] ++ s = bs (UInt8.ofNat (48 + m % 10) :: s.data.toList) := by
  have e : (v % 256).toNat = 48 + m % 10 := by omega
  have e2 : strOfNums [v % 256] = bs [UInt8.ofNat (48 + m % 10)] := by simp [strOfNums, bs, e]
  rw [e2]
  conv => lhs; rhs; rw [← bs_of s]
  rw [bs_app]; rfl
theorem j1_step (n : Int) (s : ByteArray) (neg : Bool) (r : ByteArray) (h0 : -9223372036854775808 ≤ n) (h1 : n ≤ 9223372036854775807) (hs : s.size ≤ 1000)
    (h : Ev (fun k => spec_l2Int.l0 k (Int.tdiv n 10) (bs (UInt8.ofNat (48 + n.natAbs % 10) :: s.data.toList)) neg) r) : Ev (fun k => spec_l2Int.j1 k n s neg true) r := by
  refine Ev.succ ?_
  simp only [spec_l2Int.j1, Option.bind_some]
  refine Ev.pos (by trivial) ?_
  have sz : ∀ v : Int, (strOfNums [v]).size = 1 := fun v => by simp [strOfNums, ByteArray.size]
  simp only [sz]
  obtain ⟨m, hm | hm⟩ := Int.eq_nat_or_neg n
  · subst hm
    rw [tm_nat, td_nat] at *
    rw [Int.natAbs_natCast] at h
    refine Ev.neg (by omega) (Ev.pos (by omega) ?_)
    rw [w64 (by omega) (by omega), w64 (by omega) (by omega), dig_bytes m _ s rfl]
    exact h
  · subst hm
    rw [Int.neg_tmod, Int.neg_tdiv, tm_nat, td_nat] at *
    rw [Int.natAbs_neg, Int.natAbs_natCast] at h
    by_cases hz : m % 10 = 0
    · refine Ev.neg (by omega) (Ev.pos (by omega) ?_)
      rw [w64 (x := -((m / 10 : Nat) : Int)) (by omega) (by omega), w64 (by omega) (by omega), dig_bytes m _ s (by omega)]
      exact h
    · refine Ev.pos (by omega) (Ev.pos (by omega) ?_)
      rw [w64 (x := -((m / 10 : Nat) : Int)) (by omega) (by omega), w64 (x := -(-((m % 10 : Nat) : Int))) (by omega) (by omega), w64 (by omega) (by omega), dig_bytes m _ s (by omega)]
      exact h
def fin (neg : Bool) (s : ByteArray) : ByteArray := if neg = true then (⟨#[45]⟩ : ByteArray) ++ s else s
theorem l0_end (s : ByteArray) (neg : Bool) (h : s.toList ≠ []) (hs : s.size ≤ 1002) : Ev (fun k => spec_l2Int.l0 k 0 s neg) (fin neg s) := by
  refine Ev.succ ?_
  simp only [spec_l2Int.l0]
  refine Ev.neg h (Ev.succ ?_)
  simp only [spec_l2Int.j1, fin]
  refine Ev.neg (by simp) ?_
  cases neg with
  | true => exact Ev.pos rfl (Ev.pos (by omega) (Ev.now _))
  | false => exact Ev.neg (by decide) (Ev.now _)
theorem int_l0 : ∀ (d : Nat) (n : Int) (s : ByteArray) (neg : Bool), n.natAbs < 10 ^ (d + 1) → -9223372036854775808 ≤ n → n ≤ 9223372036854775807 → (s.toList = [] ∨ n ≠ 0) → s.size + d ≤ 1000 → Ev (fun k => spec_l2Int.l0 k n s neg) (fin neg (bs (Lib.decDigits n.natAbs ++ s.data.toList))) := by
  intro d
  induction d with
  | zero =>
    intro n s neg hd h0 h1 hn hs
    have hd' : n.natAbs < 10 := by simpa using hd
    have go : Ev (fun k => spec_l2Int.j1 k n s neg true) (fin neg (bs (Lib.decDigits n.natAbs ++ s.data.toList))) := by
      refine j1_step n s neg _ h0 h1 (by omega) ?_
      have e : Int.tdiv n 10 = 0 := by
        obtain ⟨m, hm | hm⟩ := Int.eq_nat_or_neg n
        · subst hm; rw [td_nat]; rw [Int.natAbs_natCast] at hd'; omega
        · subst hm; rw [Int.neg_tdiv, td_nat]; rw [Int.natAbs_neg, Int.natAbs_natCast] at hd'; omega
      rw [e, Lib.decDigits, dif_pos hd', Nat.mod_eq_of_lt hd']
      exact l0_end _ neg (by simp [bs, ByteArray.toList_eq]) (by rw [bs_size]; simp only [List.length_cons, size_data]; omega)
    refine Ev.succ ?_
    simp only [spec_l2Int.l0]
    by_cases he : s.toList = []
    · exact Ev.pos he go
    · have hb : (n != 0) = true := by simpa using hn.resolve_left he
      rw [hb]
      exact Ev.neg he go
  | succ d ih =>
    intro n s neg hd h0 h1 hn hs
    have go : Ev (fun k => spec_l2Int.j1 k n s neg true) (fin neg (bs (Lib.decDigits n.natAbs ++ s.data.toList))) := by
      refine j1_step n s neg _ h0 h1 (by omega) ?_
      have e : (Int.tdiv n 10).natAbs = n.natAbs / 10 ∧ -9223372036854775808 ≤ Int.tdiv n 10 ∧ Int.tdiv n 10 ≤ 9223372036854775807 := by
        obtain ⟨m, hm | hm⟩ := Int.eq_nat_or_neg n
        · subst hm; rw [td_nat, Int.natAbs_natCast, Int.natAbs_natCast]; omega
        · subst hm; rw [Int.neg_tdiv, td_nat, Int.natAbs_neg, Int.natAbs_natCast, Int.natAbs_neg, Int.natAbs_natCast]; omega
      by_cases hlt : n.natAbs < 10
      · have e0 : Int.tdiv n 10 = 0 := by have := e.1; omega
        rw [e0, Lib.decDigits, dif_pos hlt, Nat.mod_eq_of_lt hlt]
        exact l0_end _ neg (by simp [bs, ByteArray.toList_eq]) (by rw [bs_size]; simp only [List.length_cons, size_data]; omega)
      · have := ih (Int.tdiv n 10) (bs (UInt8.ofNat (48 + n.natAbs % 10) :: s.data.toList)) neg (by rw [e.1]; rw [Nat.pow_succ] at hd; omega) e.2.1 e.2.2 (Or.inr (by have := e.1; omega)) (by rw [bs_size]; simp only [List.length_cons, size_data]; omega)
        rw [e.1, bs_data] at this
        rw [Lib.decDigits, dif_neg hlt, List.append_assoc]
        exact this
    refine Ev.succ ?_
    simp only [spec_l2Int.l0]
    by_cases he : s.toList = []
    · exact Ev.pos he go
    · have hb : (n != 0) = true := by simpa using hn.resolve_left he
      rw [hb]
      exact Ev.neg he go
theorem int_ev (n : Int) (h0 : -9223372036854775808 ≤ n) (h1 : n ≤ 9223372036854775807) : Ev (fun k => spec_l2Int.f k n) (bs (Lib.itoa n)) := by
  unfold spec_l2Int.f
  have := int_l0 20 n ⟨#[]⟩ (decide (n < 0)) (by omega) h0 h1 (Or.inl (by simp [ByteArray.toList_eq])) (by simp [ByteArray.size])
  refine cast (congrArg _ ?_) this
  unfold fin Lib.itoa
  by_cases h : n < 0
  · rw [if_pos (by simpa using h), if_pos h, show (⟨#[45]⟩ : ByteArray) = bs [45] from rfl, bs_app]
    simp
  · rw [if_neg (by simpa using h), if_neg h, show n.natAbs = n.toNat by omega]
    simp
theorem dec_some (n : Int) (h0 : -9223372036854775808 ≤ n) (h1 : n ≤ 9223372036854775807) : impl_decimal.f n = some (bs (Lib.itoa n)) := by
  unfold impl_decimal.f strconv_FormatInt.f
  rw [if_pos ⟨h0, h1, rfl⟩]
  rfl
theorem dig_len : ∀ (d m : Nat), m < 10 ^ (d + 1) → (Lib.decDigits m).length ≤ d + 1 := by
  intro d
  induction d with
  | zero => intro m h; rw [Lib.decDigits, dif_pos (by simpa using h)]; simp
  | succ d ih =>
    intro m h
    rw [Lib.decDigits]
    by_cases hm : m < 10
    · rw [dif_pos hm]; simp
    · rw [dif_neg hm, List.length_append]
      have := ih (m / 10) (by rw [Nat.pow_succ] at h; omega)
      simp; omega
theorem itoa_len (n : Int) (h0 : -9223372036854775808 ≤ n) (h1 : n ≤ 9223372036854775807) : (bs (Lib.itoa n)).size ≤ 22 := by
  rw [bs_size]
  unfold Lib.itoa
  split
  · have := dig_len 20 n.natAbs (by omega)
    simp; omega
  · have := dig_len 20 n.toNat (by omega)
    omega
def dstep (h : Int) (b : UInt8) : Int := Int.tmod (h * 1000003 + (b.toNat : Int) + 1) 2147483647
def dg (s : ByteArray) : Int := s.data.toList.foldl dstep 1
theorem dstep_in {h : Int} {b : UInt8} (h0 : 0 ≤ h) : 0 ≤ dstep h b ∧ dstep h b < 2147483647 := by
  unfold dstep
  have hb : (0 : Int) ≤ (b.toNat : Int) := by omega
  generalize (b.toNat : Int) = v at *
  rw [Int.tmod_eq_emod_of_nonneg (by omega)]
  omega
theorem dfold_in : ∀ (l : List UInt8) (h : Int), 0 ≤ h → h < 2147483647 → 0 ≤ l.foldl dstep h ∧ l.foldl dstep h < 2147483647
  | [], h, h0, h1 => ⟨h0, h1⟩
  | b :: l, h, h0, h1 => dfold_in l _ (dstep_in h0).1 (dstep_in h0).2
theorem dg_in (s : ByteArray) : 0 ≤ dg s ∧ dg s < 2147483647 := dfold_in _ 1 (by decide) (by decide)
theorem bt_data {s : ByteArray} {i : Nat} {b : UInt8} (h : s.data.toList[i]? = some b) : bt s (i : Int) = (b.toNat : Int) := by
  obtain ⟨hi, rfl⟩ := List.getElem?_eq_some_iff.1 h
  have hs : i < s.size := by rw [← size_data]; exact hi
  unfold bt
  rw [dif_pos (by simpa using hs)]
  simp [ByteArray.getElem_eq_getElem_data]
theorem dwrap {h v : Int} (h0 : 0 ≤ h) (h1 : h < 2147483647) (v0 : 0 ≤ v) (v1 : v ≤ 255) : wrap64 ((wrap64 ((wrap64 (h * 1000003)) + (wrap64 v))) + 1) = h * 1000003 + v + 1 := by
  rw [w64 (x := h * 1000003) (by omega) (by omega), w64 (x := v) (by omega) (by omega), w64 (x := h * 1000003 + v) (by omega) (by omega), w64 (by omega) (by omega)]
theorem sdig_l0 (s : ByteArray) (hs : s.size < 9223372036854775807) : ∀ (d i : Nat) (h : Int), i + d = s.size → 0 ≤ h → h < 2147483647 → Ev (fun k => spec_Digest.l0 k s h i) ((s.data.toList.drop i).foldl dstep h)
  | 0, i, h, hi, _, _ => by
    refine Ev.succ ?_
    simp only [spec_Digest.l0]
    refine Ev.neg (by omega) ?_
    rw [List.drop_of_length_le (by rw [size_data]; omega)]
    exact Ev.now _
  | d + 1, i, h, hi, h0, h1 => by
    obtain ⟨b, hb⟩ := get_some (l := s.data.toList) (i := i) (by rw [size_data]; omega)
    have hr := bt_range s i
    refine Ev.succ ?_
    simp only [spec_Digest.l0]
    refine Ev.pos (by omega) (Ev.pos (by omega) ?_)
    rw [dwrap h0 h1 hr.1 hr.2, bt_data hb, w64 (x := (i : Int) + 1) (by omega) (by omega), cast_succ]
    have := sdig_l0 s hs d (i + 1) (dstep h b) (by omega) (dstep_in h0).1 (dstep_in h0).2
    obtain ⟨hi', rfl⟩ := List.getElem?_eq_some_iff.1 hb
    rw [List.drop_eq_getElem_cons hi']
    exact this
theorem idig_l0 (s : ByteArray) (hs : s.size < 9223372036854775807) : ∀ (d i : Nat) (h : Int), i + d = s.size → 0 ≤ h → h < 2147483647 → Ev (fun k => impl_Digest.l0 k s h (s.size : Int) i) ((s.data.toList.drop i).foldl dstep h)
  | 0, i, h, hi, _, _ => by
    refine Ev.succ ?_
    simp only [impl_Digest.l0]
    refine Ev.neg (by omega) ?_
    rw [List.drop_of_length_le (by rw [size_data]; omega)]
    exact Ev.now _
  | d + 1, i, h, hi, h0, h1 => by
    obtain ⟨b, hb⟩ := get_some (l := s.data.toList) (i := i) (by rw [size_data]; omega)
    have hr := bt_range s i
    refine Ev.succ ?_
    simp only [impl_Digest.l0]
    refine Ev.pos (by omega) (Ev.pos (by omega) (Ev.pos (by omega) ?_))
    rw [dwrap h0 h1 hr.1 hr.2, bt_data hb, w64 (x := (i : Int) + 1) (by omega) (by omega), cast_succ]
    have := idig_l0 s hs d (i + 1) (dstep h b) (by omega) (dstep_in h0).1 (dstep_in h0).2
    obtain ⟨hi', rfl⟩ := List.getElem?_eq_some_iff.1 hb
    rw [List.drop_eq_getElem_cons hi']
    exact this
theorem sdig_ev (s : ByteArray) (hs : s.size < 9223372036854775807) : Ev (fun k => spec_Digest.f k s) (dg s) := sdig_l0 s hs s.size 0 1 (by omega) (by decide) (by decide)
theorem idig_ev (s : ByteArray) (hs : s.size < 9223372036854775807) : Ev (fun k => impl_Digest.f k s) (dg s) := idig_l0 s hs s.size 0 1 (by omega) (by decide) (by decide)

def ballot (v n : Int) : ByteArray := (((⟨#[118, 111, 116, 101, 32]⟩ : ByteArray) ++ bs (Lib.itoa v)) ++ (⟨#[32]⟩ : ByteArray)) ++ bs (Lib.itoa n)
def tagText (b : Int) (t : ByteArray) : ByteArray := (((⟨#[115, 101, 99, 114, 101, 116]⟩ : ByteArray) ++ bs (Lib.itoa b)) ++ (⟨#[47]⟩ : ByteArray)) ++ t
theorem l1 : (⟨#[118, 111, 116, 101, 32]⟩ : ByteArray).size = 5 := rfl
theorem l2 : (⟨#[32]⟩ : ByteArray).size = 1 := rfl
theorem l3 : (⟨#[115, 101, 99, 114, 101, 116]⟩ : ByteArray).size = 6 := rfl
theorem l4 : (⟨#[47]⟩ : ByteArray).size = 1 := rfl
abbrev i64 (x : Int) : Prop := -9223372036854775808 ≤ x ∧ x ≤ 9223372036854775807
theorem ballot_len (v n : Int) (hv : i64 v) (hn : i64 n) : (ballot v n).size ≤ 50 := by
  unfold ballot
  have z1 := itoa_len v hv.1 hv.2
  have z2 := itoa_len n hn.1 hn.2
  simp only [ByteArray.size_append, l1, l2]; omega
theorem sballot (v n : Int) (hv : i64 v) (hn : i64 n) : Ev (fun k => spec_l15Ballot.f k v n) (ballot v n) := by
  unfold spec_l15Ballot.f ballot
  have z1 := itoa_len v hv.1 hv.2
  have z2 := itoa_len n hn.1 hn.2
  exact Ev.bind (int_ev v hv.1 hv.2) (Ev.pos (by omega) (Ev.pos (by simp only [ByteArray.size_append, l1, l2, l3, l4]; omega) (Ev.bind (int_ev n hn.1 hn.2) (Ev.pos (by simp only [ByteArray.size_append, l1, l2, l3, l4]; omega) (Ev.now _)))))
theorem iballot (v n : Int) (hv : i64 v) (hn : i64 n) : impl_ballot.f v n = some (ballot v n) := by
  unfold impl_ballot.f ballot
  have z1 := itoa_len v hv.1 hv.2
  have z2 := itoa_len n hn.1 hn.2
  simp only [dec_some v hv.1 hv.2, dec_some n hn.1 hn.2, Option.bind_some]
  rw [if_pos (by omega), if_pos (by simp only [ByteArray.size_append, l1, l2, l3, l4]; omega), if_pos (by simp only [ByteArray.size_append, l1, l2, l3, l4]; omega)]
theorem stag (b : Int) (t : ByteArray) (hb : i64 b) (ht : t.size ≤ 1000) : Ev (fun k => spec_l2Tag.f k b t) (dg (tagText b t)) := by
  unfold spec_l2Tag.f tagText
  have z1 := itoa_len b hb.1 hb.2
  exact Ev.bind (int_ev b hb.1 hb.2) (Ev.pos (by omega) (Ev.pos (by simp only [ByteArray.size_append, l1, l2, l3, l4]; omega) (Ev.pos (by simp only [ByteArray.size_append, l1, l2, l3, l4]; omega) (Ev.bind (sdig_ev _ (by simp only [ByteArray.size_append, l1, l2, l3, l4]; omega)) (Ev.now _)))))
theorem itag (b : Int) (t : ByteArray) (h0 : 0 ≤ b) (h1 : b ≤ 6) (ht : t.size ≤ 1000) : Ev (fun k => impl_Tag.f k b t) (dg (tagText b t)) := by
  unfold impl_Tag.f tagText
  have z1 := itoa_len b (by omega) (by omega)
  have e : impl_isServer.f b = some true := by unfold impl_isServer.f impl_within.f; rw [if_pos (by omega)]; simp; omega
  refine Ev.bind (Ev.const e) (Ev.pos rfl (Ev.bind (Ev.const (dec_some b (by omega) (by omega))) (Ev.pos (by omega) (Ev.pos (by simp only [ByteArray.size_append, l1, l2, l3, l4]; omega) (Ev.pos (by simp only [ByteArray.size_append, l1, l2, l3, l4]; omega) (Ev.bind (idig_ev _ (by simp only [ByteArray.size_append, l1, l2, l3, l4]; omega)) (Ev.now _)))))))
theorem within_eq (a b c : Int) : impl_within.f a b c = some (decide (b ≤ a ∧ a ≤ c)) := by
  unfold impl_within.f
  by_cases h : a ≥ b
  · rw [if_pos h]; congr 1; simp; omega
  · rw [if_neg h]; congr 1; simp; omega
theorem in_eq (a b c : Int) : spec_l1In.f a b c = some (decide (b ≤ a ∧ a ≤ c)) := within_eq a b c

theorem quorum_eq (n : Int) : impl_Quorum.f n = some (if n = 1 then 1 else if n = 4 then 3 else if n = 7 then 5 else -1) := by
  unfold impl_Quorum.f
  by_cases h1 : n = 1
  · subst h1; decide +kernel
  · by_cases h4 : n = 4
    · subst h4; decide +kernel
    · by_cases h7 : n = 7
      · subst h7; decide +kernel
      · rw [if_neg h1, if_neg h4, if_neg h7, if_neg h1, if_neg h4, if_neg h7]
theorem servers_eq (n : Int) : spec_l15Servers.f n = some (decide (n = 1 ∨ n = 4 ∨ n = 7)) := by
  unfold spec_l15Servers.f
  by_cases h1 : n = 1
  · subst h1; decide +kernel
  · by_cases h4 : n = 4
    · subst h4; decide +kernel
    · by_cases h7 : n = 7
      · subst h7; decide +kernel
      · rw [if_neg h1, if_neg h4]; simp [h1, h4, h7]
/-- What both say of a vote. -/
def okVote (v n b t m : Int) : Bool := if (m = 1 ∨ m = 4 ∨ m = 7) ∧ (0 ≤ b ∧ b ≤ m - 1) ∧ (1 ≤ v ∧ v ≤ 100000) ∧ (0 ≤ n ∧ n ≤ 2147483646) then dg (tagText b (ballot v n)) == t else false
theorem svote (v n b t m : Int) (hb : i64 b) (hm : i64 m) : Ev (fun k => spec_VoteOk.f k v n b t m) (okVote v n b t m) := by
  unfold spec_VoteOk.f okVote spec_l15Name.f
  simp only [servers_eq, in_eq, Option.bind_some]
  by_cases c0 : m = 1 ∨ m = 4 ∨ m = 7
  · rw [w64 (by omega) (by omega)]
    refine Ev.pos (by simpa using c0) ?_
    by_cases c1 : 0 ≤ b ∧ b ≤ m - 1
    · refine Ev.pos (by simpa using c1) ?_
      by_cases c2 : 1 ≤ v ∧ v ≤ 100000
      · refine Ev.pos (by simpa using c2) ?_
        by_cases c3 : 0 ≤ n ∧ n ≤ 2147483646
        · refine Ev.pos (by simpa using c3) ?_
          rw [if_pos ⟨c0, c1, c2, c3⟩]
          have hv : i64 v := ⟨by omega, by omega⟩
          have hn : i64 n := ⟨by omega, by omega⟩
          have hl := ballot_len v n hv hn
          unfold spec_l15Voted.f
          refine Ev.bind (Ev.bind (sballot v n hv hn) (Ev.bind (stag b _ hb (by omega)) (Ev.now _))) ?_
          simp only [beq_self_eq_true, Bool.true_and]
          exact Ev.now _
        · rw [if_neg (fun h => c3 h.2.2.2)]
          exact Ev.neg (by simpa using c3) (Ev.now _)
      · rw [if_neg (fun h => c2 h.2.2.1)]
        exact Ev.neg (by simpa using c2) (Ev.now _)
    · rw [if_neg (fun h => c1 h.2.1)]
      exact Ev.neg (by simpa using c1) (Ev.now _)
  · rw [if_neg (show ¬((m = 1 ∨ m = 4 ∨ m = 7) ∧ (0 ≤ b ∧ b ≤ m - 1) ∧ (1 ≤ v ∧ v ≤ 100000) ∧ (0 ≤ n ∧ n ≤ 2147483646)) from fun h => c0 h.1)]
    exact Ev.neg (by simpa using c0) (Ev.now _)
theorem ivote (v n b t m : Int) (hm : i64 m) : Ev (fun k => impl_VoteOk.f k v n b t m) (okVote v n b t m) := by
  unfold impl_VoteOk.f okVote impl_isView.f impl_isName.f
  simp only [quorum_eq, within_eq, Option.bind_some]
  by_cases c0 : m = 1 ∨ m = 4 ∨ m = 7
  · rw [w64 (by omega) (by omega)]
    refine Ev.pos (by rcases c0 with h | h | h <;> subst h <;> decide) ?_
    by_cases c1 : 0 ≤ b ∧ b ≤ m - 1
    · refine Ev.pos (by simpa using c1) ?_
      by_cases c2 : 1 ≤ v ∧ v ≤ 100000
      · refine Ev.pos (by simpa using c2) ?_
        by_cases c3 : 0 ≤ n ∧ n ≤ 2147483646
        · refine Ev.pos (by simpa using c3) ?_
          rw [if_pos ⟨c0, c1, c2, c3⟩]
          have hv : i64 v := ⟨by omega, by omega⟩
          have hn : i64 n := ⟨by omega, by omega⟩
          have hl := ballot_len v n hv hn
          unfold impl_Signed.f
          have hd := dg_in (tagText b (ballot v n))
          refine Ev.bind (Ev.const (iballot v n hv hn)) ?_
          by_cases ht : t = -1
          · refine Ev.bind (Ev.pos ht (Ev.now _)) ?_
            rw [show (dg (tagText b (ballot v n)) == t) = false by simp; omega]
            exact Ev.now _
          · refine Ev.bind (Ev.neg ht (Ev.bind (itag b _ (by omega) (by omega) (by omega)) (Ev.now _))) ?_
            rw [show (t == dg (tagText b (ballot v n))) = (dg (tagText b (ballot v n)) == t) from Bool.beq_comm ..]
            exact Ev.now _
        · rw [if_neg (fun h => c3 h.2.2.2)]
          exact Ev.neg (by simpa using c3) (Ev.now _)
      · rw [if_neg (fun h => c2 h.2.2.1)]
        exact Ev.neg (by simpa using c2) (Ev.now _)
    · rw [if_neg (fun h => c1 h.2.1)]
      exact Ev.neg (by simpa using c1) (Ev.now _)
  · rw [if_neg (show ¬((m = 1 ∨ m = 4 ∨ m = 7) ∧ (0 ≤ b ∧ b ≤ m - 1) ∧ (1 ≤ v ∧ v ≤ 100000) ∧ (0 ≤ n ∧ n ≤ 2147483646)) from fun h => c0 h.1)]
    refine Ev.neg ?_ (Ev.now _)
    rw [if_neg (fun h => c0 (Or.inl h)), if_neg (fun h => c0 (Or.inr (Or.inl h))), if_neg (fun h => c0 (Or.inr (Or.inr h)))]
    decide
/-! what is gathered -/
theorem ev_all {α β : Type} {g : Nat → α → Option β} {v : α → β} : ∀ l : List α, (∀ x, x ∈ l → Ev (fun k => g k x) (v x)) → ∃ K, ∀ k, K ≤ k → ∀ x, x ∈ l → g k x = some (v x)
  | [], _ => ⟨0, fun k _ x hx => by simp at hx⟩
  | x :: l, h => by
    obtain ⟨K1, h1⟩ := h x (List.mem_cons_self ..)
    obtain ⟨K2, h2⟩ := ev_all l (fun y hy => h y (List.mem_cons_of_mem _ hy))
    refine ⟨max K1 K2, fun k hk y hy => ?_⟩
    rcases List.mem_cons.1 hy with rfl | hy
    · exact h1 k (by omega)
    · exact h2 k (by omega) y hy
/-- Is this the vote that is looked for. -/
def isV (b v n m : Int) (x : S43) : Bool := decide (x.f2 = b) && (decide (x.f0 = v) && (decide (x.f1 = n) && okVote x.f0 x.f1 x.f2 x.f3 m))
theorem find_congr {α : Type} {p q : α → Bool} : ∀ l : List α, (∀ x, x ∈ l → p x = q x) → l.findIdx? p = l.findIdx? q
  | [], _ => rfl
  | x :: l, h => by rw [List.findIdx?_cons, List.findIdx?_cons, h x (List.mem_cons_self ..), find_congr l (fun y hy => h y (List.mem_cons_of_mem _ hy))]
theorem idx_ev (l : List S43) (b v n m : Int) (hm : i64 m) : Ev (fun k => impl_Vote.f k l b v n m) (idxP (isV b v n m) l) := by
  obtain ⟨K, hK⟩ := ev_all (g := fun k (x : S43) => impl_VoteOk.f k x.f0 x.f1 x.f2 x.f3 m) (v := fun x => okVote x.f0 x.f1 x.f2 x.f3 m) l (fun x _ => ivote _ _ _ _ m hm)
  refine ⟨K, fun k hk => ?_⟩
  have h := hK k hk
  show impl_Vote.f k l b v n m = _
  unfold impl_Vote.f
  rw [if_pos (List.all_eq_true.2 (fun x hx => by rw [h x hx]; rfl))]
  unfold idxP
  rw [find_congr (q := isV b v n m) l (fun x hx => by unfold gathP isV; rw [h x hx]; rfl)]
theorem rdv {l : List S43} {i : Nat} (hi : i < l.length) : rd_T43 l (i : Int) = l[i] := by
  show l.getD i _ = l[i]
  rw [List.getD_eq_getElem?_getD, List.getElem?_eq_getElem hi]
  rfl
/-- One step of the reference's search, where nothing fits. -/
theorem s_skip (l : List S43) (hl : l.length ≤ 4611686018427387904) (m b v n : Int) (hm : i64 m) (hb : i64 b) (B T : List Int) (r : Int × Int × List Int × List Int × Bool) (j : Nat) (hj : j ≤ l.length) : ∀ (d i : Nat), i + d = j → (∀ t (ht : t < l.length), i ≤ t → t < j → isV b v n m l[t] = false) → Ev (fun k => spec_Gathered.l1 k l m b (j : Int) v n B T) r → Ev (fun k => spec_Gathered.l1 k l m b (i : Int) v n B T) r
  | 0, i, hi, _, he => by
    obtain rfl : i = j := by omega
    exact he
  | d + 1, i, hi, hf, he => by
    have hlt : i < l.length := by omega
    have ih := s_skip l hl m b v n hm hb B T r j hj d (i + 1) (by omega) (fun t ht h1 h2 => hf t ht (by omega) h2) he
    have h0 := hf i hlt (by omega) (by omega)
    have e1 : wrap64 ((i : Int) + 1) = ((i + 1 : Nat) : Int) := by rw [w64 (by omega) (by omega), cast_succ]
    refine Ev.succ ?_
    simp only [spec_Gathered.l1, rdv hlt, e1]
    unfold isV at h0
    refine Ev.pos (by omega) (Ev.pos (by omega) ?_)
    by_cases c1 : l[i].f2 = b
    · refine Ev.pos c1 ?_
      by_cases c2 : l[i].f0 = v
      · refine Ev.pos c2 ?_
        by_cases c3 : l[i].f1 = n
        · refine Ev.pos c3 ?_
          rw [decide_eq_true c1, decide_eq_true c2, decide_eq_true c3, Bool.true_and, Bool.true_and, Bool.true_and] at h0
          have ev := svote l[i].f0 l[i].f1 l[i].f2 l[i].f3 m (by rw [c1]; exact hb) hm
          rw [h0] at ev
          exact Ev.bind ev (Ev.neg (by simp) ih)
        · exact Ev.neg c3 ih
      · exact Ev.neg c2 ih
    · exact Ev.neg c1 ih
theorem squorum (n : Int) (h : n = 1 ∨ n = 4 ∨ n = 7) : spec_Quorum.f n = impl_Quorum.f n := by
  rcases h with rfl | rfl | rfl <;> decide +kernel
def Prf (r : Int × Int × List Int × List Int × Bool) : Prop := r.2.2.1.length ≤ 7 ∧ r.2.2.2.1.length ≤ 7
theorem g_l0 (l : List S43) (hl : l.length ≤ 1048576) (m : Nat) (hm : (m : Int) = 1 ∨ (m : Int) = 4 ∨ (m : Int) = 7) (v n : Int) : ∀ (d i : Nat) (B T : List Int), i + d = m → B.length ≤ i → T.length ≤ i →
    ∃ r, Ev (fun k => spec_Gathered.l0 k l (m : Int) (i : Int) v n B T) r ∧ Ev (fun k => impl_Gathered.l0 k l (m : Int) (i : Int) (m : Int) v n B T) r ∧ Prf r
  | 0, i, B, T, hi, hB, hT => by
    have hq := squorum (m : Int) hm
    have hq2 := quorum_eq (m : Int)
    generalize (if (m : Int) = 1 then (1 : Int) else if (m : Int) = 4 then 3 else if (m : Int) = 7 then 5 else -1) = q at hq2
    rw [hq2] at hq
    by_cases c : (B.length : Int) < q
    · refine ⟨(0, 0, [], [], false), Ev.succ ?_, Ev.succ ?_, by simp [Prf]⟩
      · simp only [spec_Gathered.l0, hq, Option.bind_some]
        exact Ev.neg (by omega) (Ev.pos c (Ev.now _))
      · simp only [impl_Gathered.l0, hq2, Option.bind_some]
        exact Ev.neg (by omega) (Ev.pos c (Ev.now _))
    · refine ⟨(v, n, B, T, true), Ev.succ ?_, Ev.succ ?_, ⟨by dsimp only; omega, by dsimp only; omega⟩⟩
      · simp only [spec_Gathered.l0, hq, Option.bind_some]
        exact Ev.neg (by omega) (Ev.neg c (Ev.now _))
      · simp only [impl_Gathered.l0, hq2, Option.bind_some]
        exact Ev.neg (by omega) (Ev.neg c (Ev.now _))
  | d + 1, i, B, T, hi, hB, hT => by
    have hm64 : i64 (m : Int) := ⟨by omega, by omega⟩
    have hi64 : i64 (i : Int) := ⟨by omega, by omega⟩
    have e1 : wrap64 ((i : Int) + 1) = ((i + 1 : Nat) : Int) := by rw [w64 (by omega) (by omega), cast_succ]
    have hx := idx_ev l (i : Int) v n (m : Int) hm64
    cases hf : l.findIdx? (isV (i : Int) v n (m : Int)) with
    | none =>
      have hi1 : idxP (isV (i : Int) v n (m : Int)) l = -1 := by unfold idxP; rw [hf]
      rw [hi1] at hx
      obtain ⟨r, j1, j2, j3⟩ := g_l0 l hl m hm v n d (i + 1) B T (by omega) (by omega) (by omega)
      refine ⟨r, Ev.succ ?_, Ev.succ ?_, j3⟩
      · simp only [spec_Gathered.l0]
        refine Ev.pos (by omega) (s_skip l (by omega) (m : Int) (i : Int) v n hm64 hi64 B T r l.length (Nat.le_refl _) l.length 0 (by omega) (fun t ht _ _ => ?_) (Ev.succ ?_))
        · have := (List.findIdx?_eq_none_iff.1 hf) l[t] (List.getElem_mem ht)
          exact this
        · simp only [spec_Gathered.l1, e1]
          exact Ev.neg (by omega) j1
      · simp only [impl_Gathered.l0, e1]
        exact Ev.pos (by omega) (Ev.bind hx (Ev.neg (by omega) j2))
    | some j =>
      have hi1 : idxP (isV (i : Int) v n (m : Int)) l = (j : Int) := by unfold idxP; rw [hf]
      rw [hi1] at hx
      rw [List.findIdx?_eq_some_iff_getElem] at hf
      obtain ⟨hjl, hp, hbef⟩ := hf
      obtain ⟨r, j1, j2, j3⟩ := g_l0 l hl m hm v n d (i + 1) (B ++ [(i : Int)]) (T ++ [l[j].f3]) (by omega) (by simp; omega) (by simp; omega)
      have hB7 : B.length < 17592186044416 := by omega
      have hT7 : T.length < 17592186044416 := by omega
      refine ⟨r, Ev.succ ?_, Ev.succ ?_, j3⟩
      · simp only [spec_Gathered.l0]
        refine Ev.pos (by omega) (s_skip l (by omega) (m : Int) (i : Int) v n hm64 hi64 B T r j (by omega) j 0 (by omega) (fun t ht _ h2 => ?_) (Ev.succ ?_))
        · have := hbef t h2
          simpa using this
        · simp only [spec_Gathered.l1, rdv hjl, e1]
          unfold isV at hp
          simp only [Bool.and_eq_true, decide_eq_true_eq] at hp
          obtain ⟨p1, p2, p3, p4⟩ := hp
          have ev := svote l[j].f0 l[j].f1 l[j].f2 l[j].f3 (m : Int) (by rw [p1]; exact hi64) hm64
          rw [p4] at ev
          exact Ev.pos (by omega) (Ev.pos (by omega) (Ev.pos p1 (Ev.pos p2 (Ev.pos p3 (Ev.bind ev (Ev.pos rfl (Ev.pos hB7 (Ev.pos hT7 j1))))))))
      · simp only [impl_Gathered.l0, e1]
        refine Ev.pos (by omega) (Ev.bind hx (Ev.pos (by omega) (Ev.pos hB7 (Ev.pos (by omega) (Ev.pos (by omega) (Ev.pos hT7 ?_))))))
        rw [rdv hjl]
        exact j2
theorem gathered_ev (l : List S43) (m : Int) (hl : l.length ≤ 1048576) : ∃ r, Ev (fun k => spec_Gathered.f k l m) r ∧ Ev (fun k => impl_Gathered.f k l m) r ∧ Prf r := by
  have no1 : ∀ c, c = true → Ev (fun k => spec_Gathered.j0 k l m c) (0, 0, [], [], false) := fun c hc => Ev.succ (by simp only [spec_Gathered.j0]; exact Ev.pos hc (Ev.now _))
  have no2 : ∀ c, c = true → Ev (fun k => impl_Gathered.j0 k l c m) (0, 0, [], [], false) := fun c hc => Ev.succ (by simp only [impl_Gathered.j0]; exact Ev.pos hc (Ev.now _))
  unfold spec_Gathered.f impl_Gathered.f
  by_cases c0 : (l.length : Int) = 0
  · exact ⟨_, Ev.pos c0 (no1 _ rfl), Ev.pos c0 (no2 _ rfl), by simp [Prf]⟩
  · simp only [servers_eq, quorum_eq, Option.bind_some]
    by_cases c1 : m = 1 ∨ m = 4 ∨ m = 7
    · have e1 : (!decide (m = 1 ∨ m = 4 ∨ m = 7)) = false := by rw [decide_eq_true c1]; rfl
      have e2 : decide ((if m = 1 then (1 : Int) else if m = 4 then 3 else if m = 7 then 5 else -1) < 0) = false := by
        rcases c1 with rfl | rfl | rfl <;> decide
      rw [e1, e2]
      obtain ⟨n, rfl⟩ := Int.eq_ofNat_of_zero_le (show 0 ≤ m by omega)
      obtain ⟨r, j1, j2, j3⟩ := g_l0 l hl n c1 (rd_T43 l 0).f0 (rd_T43 l 0).f1 n 0 [] [] (by omega) (by simp) (by simp)
      refine ⟨r, Ev.neg c0 (Ev.succ ?_), Ev.neg c0 (Ev.succ ?_), j3⟩
      · simp only [spec_Gathered.j0]
        exact Ev.neg (by simp) (Ev.pos (by omega) j1)
      · simp only [impl_Gathered.j0]
        exact Ev.neg (by simp) (Ev.pos (by omega) j2)
    · have e1 : (!decide (m = 1 ∨ m = 4 ∨ m = 7)) = true := by rw [decide_eq_false c1]; rfl
      have e2 : decide ((if m = 1 then (1 : Int) else if m = 4 then 3 else if m = 7 then 5 else -1) < 0) = true := by
        rw [if_neg (fun h => c1 (Or.inl h)), if_neg (fun h => c1 (Or.inr (Or.inl h))), if_neg (fun h => c1 (Or.inr (Or.inr h)))]
        decide
      exact ⟨_, Ev.neg c0 (no1 _ e1), Ev.neg c0 (no2 _ e2), by simp [Prf]⟩
theorem ct_one : ∀ y : List Int, (ctList ctOne) y = y.length
  | [] => by simp [ctList]
  | x :: y => by
    have := ct_one y
    simp only [ctList, ctOne, List.map_cons, List.sum_cons, List.length_cons] at this ⊢
    omega
theorem ct_le : ∀ y : List S43, (ctList ctS43) y ≤ 4 * y.length
  | [] => by simp [ctList]
  | x :: y => by
    have := ct_le y
    simp only [ctList, ctS43, ctOne, List.map_cons, List.sum_cons, List.length_cons] at this ⊢
    omega
theorem FnExactGathered : laws_FnExactGathered.Pure := by
  intro l m hok _
  refine Ev.rounds (g := fun k => laws_FnExactGathered.f k l m) ?_
  unfold laws_FnExactGathered.f
  obtain ⟨u, hu, _, hu1, hp⟩ := laws_szVoteS_ev l 1048576 (by omega) (by omega) hok
  refine Ev.bind hu (Ev.ite (fun _ => Ev.now _) (fun h => ?_))
  have hsm := hp (by omega)
  have hl1 := hsm.1
  have ht := laws_toVoteS_ev l hsm
  have hm : (l.map cv65).length ≤ 1048576 := by simpa using hl1
  generalize l.map cv65 = x at ht hm
  obtain ⟨⟨v, n, B, T, b⟩, h1, h2, h3, h4⟩ := gathered_ev x m hm
  dsimp only at h3 h4
  have hc := ct_le x
  have hB := ct_one B
  have hT := ct_one T
  have ex := laws_eqVoteS_ev x ⟨by omega, fun _ _ => ⟨trivial, trivial, trivial, trivial⟩⟩
  have ep := laws_eqProof_ev v n B T trivial trivial ⟨by omega, fun _ _ => trivial⟩ ⟨by omega, fun _ _ => trivial⟩
  obtain ⟨r1, z1, q1, m1, _, _⟩ := laws_markVoteS_ev x 1 (by omega) (by omega) ⟨by omega, fun _ _ => ⟨trivial, trivial, trivial, trivial⟩⟩
  obtain ⟨r2, zb, zt, q2, m2, g2, _, _⟩ := laws_markProof_ev v n B T 1 (by omega) (by omega) ⟨by omega, fun _ _ => trivial⟩ ⟨by omega, fun _ _ => trivial⟩
  have p1 : ¬ r1 < 0 := by omega
  have p2 : ¬ r2 < 0 := by omega
  exact Ev.bind ht (Ev.bind h1 (Ev.bind ht (Ev.bind h2 (Ev.bind ep (Ev.pos rfl (Ev.neg (by simp) (Ev.bind ht (Ev.bind ex (Ev.pos rfl (Ev.bind m1 (Ev.neg p1 (Ev.bind ep (Ev.pos rfl (Ev.bind m2 (Ev.bind g2 (Ev.neg p2 (Ev.pos rfl (Ev.bind ht (Ev.bind h2 (Ev.bind ep (Ev.pos rfl (Ev.neg (by simp) (Ev.bind g2 (Ev.neg p2 (Ev.pos rfl (Ev.now _))))))))))))))))))))))))))

end Go.Proofs.YtokfpmkhfindmaaDoor.Pure
