/- What is gathered is right, shows a quorum's votes, and one vote less than a quorum is none. No condition. -/
import Derived.Test.YtokfpmkhfindmaaDoorBoilFnProofs
namespace Go.Proofs.YtokfpmkhfindmaaDoor.Pure
open Go.RowKit Go.Proofs.YtokfpmkhfindmaaDoor.PFnProofs Go.Proofs.YtokfpmkhfindmaaDoorW.PrintWords Go.Proofs.YtokfpmkhfindmaaDoorW.PrintLast Go.Proofs.YtokfpmkhfindmaaDoorW.PrintMore
set_option maxRecDepth 100000
set_option linter.unusedVariables false
set_option linter.unusedSimpArgs false
theorem bound_i64 {x : Int} (h : okInt .i64 x) : -9223372036854775808 ≤ x ∧ x ≤ 9223372036854775807 := by
  have h : (Lit.int .i64 x).wf = true := h
  simp [Lit.wf, IntKind.min, IntKind.max, IntKind.bits, IntKind.signed] at h
  omega
def bs (l : List UInt8) : ByteArray := ⟨l.toArray⟩
theorem bs_data (l : List UInt8) : (bs l).data.toList = l := by simp [bs]
theorem bs_of (s : ByteArray) : bs s.data.toList = s := by cases s; simp [bs]
theorem bs_app (a b : List UInt8) : bs a ++ bs b = bs (a ++ b) := by
  apply bytes_inj
  simp [bs, ByteArray.toList_eq, ByteArray.data_append]
theorem bs_size (l : List UInt8) : (bs l).size = l.length := by simp [bs, ByteArray.size]
theorem size_data (s : ByteArray) : s.data.toList.length = s.size := by simp only [ByteArray.size, Array.length_toList]
theorem tm_nat (m : Nat) : Int.tmod (m : Int) 10 = ((m % 10 : Nat) : Int) := rfl
theorem td_nat (m : Nat) : Int.tdiv (m : Int) 10 = ((m / 10 : Nat) : Int) := rfl
theorem dig_bytes (m : Nat) (v : Int) (s : ByteArray) (h : v = 48 + ((m % 10 : Nat) : Int)) : strOfNums [v % 256] ++ s = bs (UInt8.ofNat (48 + m % 10) :: s.data.toList) := by
  have e : (v % 256).toNat = 48 + m % 10 := by omega
  have e2 : strOfNums [v % 256] = bs [UInt8.ofNat (48 + m % 10)] := by simp [strOfNums, bs, e]
  rw [e2]
  conv => lhs; rhs; rw [← bs_of s]
  rw [bs_app]; rfl
theorem j1_step (n : Int) (s : ByteArray) (neg : Bool) (r : ByteArray) (h0 : -9223372036854775808 ≤ n) (h1 : n ≤ 9223372036854775807) (hs : s.size ≤ 1000)
    (h : Ev (fun k => spec_l2Int.l0 k (Int.tdiv n 10) (bs (UInt8.ofNat (48 + n.natAbs % 10) :: s.data.toList)) neg) r) : Ev (fun k => spec_l2Int.j1 k n s neg true) r := by
  refine Ev.succ ?_
  simp only [spec_l2Int.j1, Option.bind_some]
  refine Ev.pos (by trivial) ?_
  have sz : ∀ v : Int, (strOfNums [v]).size = 1 := fun v => by simp [strOfNums, ByteArray.size]
  simp only [sz]
  obtain ⟨m, hm | hm⟩ := Int.eq_nat_or_neg n
  · subst hm
    rw [tm_nat, td_nat] at *
    rw [Int.natAbs_natCast] at h
    refine Ev.neg (by omega) (Ev.pos (by omega) ?_)
    rw [w64 (by omega) (by omega), w64 (by omega) (by omega), dig_bytes m _ s rfl]
    exact h
  · subst hm
    rw [Int.neg_tmod, Int.neg_tdiv, tm_nat, td_nat] at *
    rw [Int.natAbs_neg, Int.natAbs_natCast] at h
    by_cases hz : m % 10 = 0
    · refine Ev.neg (by omega) (Ev.pos (by omega) ?_)
      rw [w64 (x := -((m / 10 : Nat) : Int)) (by omega) (by omega), w64 (by omega) (by omega), dig_bytes m _ s (by omega)]
      exact h
    · refine Ev.pos (by omega) (Ev.pos (by omega) ?_)
      rw [w64 (x := -((m / 10 : Nat) : Int)) (by omega) (by omega), w64 (x := -(-((m % 10 : Nat) : Int))) (by omega) (by omega), w64 (by omega) (by omega), dig_bytes m _ s (by omega)]
      exact h
def fin (neg : Bool) (s : ByteArray) : ByteArray := if neg = true then (⟨#[45]⟩ : ByteArray) ++ s else s
theorem l0_end (s : ByteArray) (neg : Bool) (h : s.toList ≠ []) (hs : s.size ≤ 1002) : Ev (fun k => spec_l2Int.l0 k 0 s neg) (fin neg s) := by
  refine Ev.succ ?_
  simp only [spec_l2Int.l0]
  refine Ev.neg h (Ev.succ ?_)
  simp only [spec_l2Int.j1, fin]
  refine Ev.neg (by simp) ?_
  cases neg with
  | true => exact Ev.pos rfl (Ev.pos (by omega) (Ev.now _))
  | false => exact Ev.neg (by decide) (Ev.now _)
theorem int_l0 : ∀ (d : Nat) (n : Int) (s : ByteArray) (neg : Bool), n.natAbs < 10 ^ (d + 1) → -9223372036854775808 ≤ n → n ≤ 9223372036854775807 → (s.toList = [] ∨ n ≠ 0) → s.size + d ≤ 1000 → Ev (fun k => spec_l2Int.l0 k n s neg) (fin neg (bs (Lib.decDigits n.natAbs ++ s.data.toList))) := by
  intro d
  induction d with
  | zero =>
    intro n s neg hd h0 h1 hn hs
    have hd' : n.natAbs < 10 := by simpa using hd
    have go : Ev (fun k => spec_l2Int.j1 k n s neg true) (fin neg (bs (Lib.decDigits n.natAbs ++ s.data.toList))) := by
      refine j1_step n s neg _ h0 h1 (by omega) ?_
      have e : Int.tdiv n 10 = 0 := by
        obtain ⟨m, hm | hm⟩ := Int.eq_nat_or_neg n
        · subst hm; rw [td_nat]; rw [Int.natAbs_natCast] at hd'; omega
        · subst hm; rw [Int.neg_tdiv, td_nat]; rw [Int.natAbs_neg, Int.natAbs_natCast] at hd'; omega
      rw [e, Lib.decDigits, dif_pos hd', Nat.mod_eq_of_lt hd']
      exact l0_end _ neg (by simp [bs, ByteArray.toList_eq]) (by rw [bs_size]; simp only [List.length_cons, size_data]; omega)
    refine Ev.succ ?_
    simp only [spec_l2Int.l0]
    by_cases he : s.toList = []
    · exact Ev.pos he go
    · have hb : (n != 0) = true := by simpa using hn.resolve_left he
      rw [hb]
      exact Ev.neg he go
  | succ d ih =>
    intro n s neg hd h0 h1 hn hs
    have go : Ev (fun k => spec_l2Int.j1 k n s neg true) (fin neg (bs (Lib.decDigits n.natAbs ++ s.data.toList))) := by
      refine j1_step n s neg _ h0 h1 (by omega) ?_
      have e : (Int.tdiv n 10).natAbs = n.natAbs / 10 ∧ -9223372036854775808 ≤ Int.tdiv n 10 ∧ Int.tdiv n 10 ≤ 9223372036854775807 := by
        obtain ⟨m, hm | hm⟩ := Int.eq_nat_or_neg n
        · subst hm; rw [td_nat, Int.natAbs_natCast, Int.natAbs_natCast]; omega
        · subst hm; rw [Int.neg_tdiv, td_nat, Int.natAbs_neg, Int.natAbs_natCast, Int.natAbs_neg, Int.natAbs_natCast]; omega
      by_cases hlt : n.natAbs < 10
      · have e0 : Int.tdiv n 10 = 0 := by have := e.1; omega
        rw [e0, Lib.decDigits, dif_pos hlt, Nat.mod_eq_of_lt hlt]
        exact l0_end _ neg (by simp [bs, ByteArray.toList_eq]) (by rw [bs_size]; simp only [List.length_cons, size_data]; omega)
      · have := ih (Int.tdiv n 10) (bs (UInt8.ofNat (48 + n.natAbs % 10) :: s.data.toList)) neg (by rw [e.1]; rw [Nat.pow_succ] at hd; omega) e.2.1 e.2.2 (Or.inr (by have := e.1; omega)) (by rw [bs_size]; simp only [List.length_cons, size_data]; omega)
        rw [e.1, bs_data] at this
        rw [Lib.decDigits, dif_neg hlt, List.append_assoc]
        exact this
    refine Ev.succ ?_
    simp only [spec_l2Int.l0]
    by_cases he : s.toList = []
    · exact Ev.pos he go
    · have hb : (n != 0) = true := by simpa using hn.resolve_left he
      rw [hb]
      exact Ev.neg he go
theorem int_ev (n : Int) (h0 : -9223372036854775808 ≤ n) (h1 : n ≤ 9223372036854775807) : Ev (fun k => spec_l2Int.f k n) (bs (Lib.itoa n)) := by
  unfold spec_l2Int.f
  have := int_l0 20 n ⟨#[]⟩ (decide (n < 0)) (by omega) h0 h1 (Or.inl (by simp [ByteArray.toList_eq])) (by simp [ByteArray.size])
  refine cast (congrArg _ ?_) this
  unfold fin Lib.itoa
  by_cases h : n < 0
  · rw [if_pos (by simpa using h), if_pos h, show (⟨#[45]⟩ : ByteArray) = bs [45] from rfl, bs_app]
    simp
  · rw [if_neg (by simpa using h), if_neg h, show n.natAbs = n.toNat by omega]
    simp
theorem dec_some (n : Int) (h0 : -9223372036854775808 ≤ n) (h1 : n ≤ 9223372036854775807) : impl_decimal.f n = some (bs (Lib.itoa n)) := by
  unfold impl_decimal.f strconv_FormatInt.f
  rw [if_pos ⟨h0, h1, rfl⟩]
  rfl
theorem dig_len : ∀ (d m : Nat), m < 10 ^ (d + 1) → (Lib.decDigits m).length ≤ d + 1 := by
  intro d
  induction d with
  | zero => intro m h; rw [Lib.decDigits, dif_pos (by simpa using h)]; simp
  | succ d ih =>
    intro m h
    rw [Lib.decDigits]
    by_cases hm : m < 10
    · rw [dif_pos hm]; simp
    · rw [dif_neg hm, List.length_append]
      have := ih (m / 10) (by rw [Nat.pow_succ] at h; omega)
      simp; omega
theorem itoa_len (n : Int) (h0 : -9223372036854775808 ≤ n) (h1 : n ≤ 9223372036854775807) : (bs (Lib.itoa n)).size ≤ 22 := by
  rw [bs_size]
  unfold Lib.itoa
  split
  · have := dig_len 20 n.natAbs (by omega)
    simp; omega
  · have := dig_len 20 n.toNat (by omega)
    omega
def dstep (h : Int) (b : UInt8) : Int := Int.tmod (h * 1000003 + (b.toNat : Int) + 1) 2147483647
def dg (s : ByteArray) : Int := s.data.toList.foldl dstep 1
theorem dstep_in {h : Int} {b : UInt8} (h0 : 0 ≤ h) : 0 ≤ dstep h b ∧ dstep h b < 2147483647 := by
  unfold dstep
  have hb : (0 : Int) ≤ (b.toNat : Int) := by omega
  generalize (b.toNat : Int) = v at *
  rw [Int.tmod_eq_emod_of_nonneg (by omega)]
  omega
theorem dfold_in : ∀ (l : List UInt8) (h : Int), 0 ≤ h → h < 2147483647 → 0 ≤ l.foldl dstep h ∧ l.foldl dstep h < 2147483647
  | [], h, h0, h1 => ⟨h0, h1⟩
  | b :: l, h, h0, h1 => dfold_in l _ (dstep_in h0).1 (dstep_in h0).2
theorem dg_in (s : ByteArray) : 0 ≤ dg s ∧ dg s < 2147483647 := dfold_in _ 1 (by decide) (by decide)
theorem bt_data {s : ByteArray} {i : Nat} {b : UInt8} (h : s.data.toList[i]? = some b) : bt s (i : Int) = (b.toNat : Int) := by
  obtain ⟨hi, rfl⟩ := List.getElem?_eq_some_iff.1 h
  have hs : i < s.size := by rw [← size_data]; exact hi
  unfold bt
  rw [dif_pos (by simpa using hs)]
  simp [ByteArray.getElem_eq_getElem_data]
theorem dwrap {h v : Int} (h0 : 0 ≤ h) (h1 : h < 2147483647) (v0 : 0 ≤ v) (v1 : v ≤ 255) : wrap64 ((wrap64 ((wrap64 (h * 1000003)) + (wrap64 v))) + 1) = h * 1000003 + v + 1 := by
  rw [w64 (x := h * 1000003) (by omega) (by omega), w64 (x := v) (by omega) (by omega), w64 (x := h * 1000003 + v) (by omega) (by omega), w64 (by omega) (by omega)]
theorem sdig_l0 (s : ByteArray) (hs : s.size < 9223372036854775807) : ∀ (d i : Nat) (h : Int), i + d = s.size → 0 ≤ h → h < 2147483647 → Ev (fun k => spec_Digest.l0 k s h i) ((s.data.toList.drop i).foldl dstep h)
  | 0, i, h, hi, _, _ => by
    refine Ev.succ ?_
    simp only [spec_Digest.l0]
    refine Ev.neg (by omega) ?_
    rw [List.drop_of_length_le (by rw [size_data]; omega)]
    exact Ev.now _
  | d + 1, i, h, hi, h0, h1 => by
    obtain ⟨b, hb⟩ := get_some (l := s.data.toList) (i := i) (by rw [size_data]; omega)
    have hr := bt_range s i
    refine Ev.succ ?_
    simp only [spec_Digest.l0]
    refine Ev.pos (by omega) (Ev.pos (by omega) ?_)
    rw [dwrap h0 h1 hr.1 hr.2, bt_data hb, w64 (x := (i : Int) + 1) (by omega) (by omega), cast_succ]
    have := sdig_l0 s hs d (i + 1) (dstep h b) (by omega) (dstep_in h0).1 (dstep_in h0).2
    obtain ⟨hi', rfl⟩ := List.getElem?_eq_some_iff.1 hb
    rw [List.drop_eq_getElem_cons hi']
    exact this
theorem idig_l0 (s : ByteArray) (hs : s.size < 9223372036854775807) : ∀ (d i : Nat) (h : Int), i + d = s.size → 0 ≤ h → h < 2147483647 → Ev (fun k => impl_Digest.l0 k s h (s.size : Int) i) ((s.data.toList.drop i).foldl dstep h)
  | 0, i, h, hi, _, _ => by
    refine Ev.succ ?_
    simp only [impl_Digest.l0]
    refine Ev.neg (by omega) ?_
    rw [List.drop_of_length_le (by rw [size_data]; omega)]
    exact Ev.now _
  | d + 1, i, h, hi, h0, h1 => by
    obtain ⟨b, hb⟩ := get_some (l := s.data.toList) (i := i) (by rw [size_data]; omega)
    have hr := bt_range s i
    refine Ev.succ ?_
    simp only [impl_Digest.l0]
    refine Ev.pos (by omega) (Ev.pos (by omega) (Ev.pos (by omega) ?_))
    rw [dwrap h0 h1 hr.1 hr.2, bt_data hb, w64 (x := (i : Int) + 1) (by omega) (by omega), cast_succ]
    have := idig_l0 s hs d (i + 1) (dstep h b) (by omega) (dstep_in h0).1 (dstep_in h0).2
    obtain ⟨hi', rfl⟩ := List.getElem?_eq_some_iff.1 hb
    rw [List.drop_eq_getElem_cons hi']
    exact this
theorem sdig_ev (s : ByteArray) (hs : s.size < 9223372036854775807) : Ev (fun k => spec_Digest.f k s) (dg s) := sdig_l0 s hs s.size 0 1 (by omega) (by decide) (by decide)
theorem idig_ev (s : ByteArray) (hs : s.size < 9223372036854775807) : Ev (fun k => impl_Digest.f k s) (dg s) := idig_l0 s hs s.size 0 1 (by omega) (by decide) (by decide)

def ballot (v n : Int) : ByteArray := (((⟨#[118, 111, 116, 101, 32]⟩ : ByteArray) ++ bs (Lib.itoa v)) ++ (⟨#[32]⟩ : ByteArray)) ++ bs (Lib.itoa n)
def tagText (b : Int) (t : ByteArray) : ByteArray := (((⟨#[115, 101, 99, 114, 101, 116]⟩ : ByteArray) ++ bs (Lib.itoa b)) ++ (⟨#[47]⟩ : ByteArray)) ++ t
theorem l1 : (⟨#[118, 111, 116, 101, 32]⟩ : ByteArray).size = 5 := rfl
theorem l2 : (⟨#[32]⟩ : ByteArray).size = 1 := rfl
theorem l3 : (⟨#[115, 101, 99, 114, 101, 116]⟩ : ByteArray).size = 6 := rfl
theorem l4 : (⟨#[47]⟩ : ByteArray).size = 1 := rfl
abbrev i64 (x : Int) : Prop := -9223372036854775808 ≤ x ∧ x ≤ 9223372036854775807
theorem ballot_len (v n : Int) (hv : i64 v) (hn : i64 n) : (ballot v n).size ≤ 50 := by
  unfold ballot
  have z1 := itoa_len v hv.1 hv.2
  have z2 := itoa_len n hn.1 hn.2
  simp only [ByteArray.size_append, l1, l2]; omega
theorem sballot (v n : Int) (hv : i64 v) (hn : i64 n) : Ev (fun k => spec_l15Ballot.f k v n) (ballot v n) := by
  unfold spec_l15Ballot.f ballot
  have z1 := itoa_len v hv.1 hv.2
  have z2 := itoa_len n hn.1 hn.2
  exact Ev.bind (int_ev v hv.1 hv.2) (Ev.pos (by omega) (Ev.pos (by simp only [ByteArray.size_append, l1, l2, l3, l4]; omega) (Ev.bind (int_ev n hn.1 hn.2) (Ev.pos (by simp only [ByteArray.size_append, l1, l2, l3, l4]; omega) (Ev.now _)))))
theorem iballot (v n : Int) (hv : i64 v) (hn : i64 n) : impl_ballot.f v n = some (ballot v n) := by
  unfold impl_ballot.f ballot
  have z1 := itoa_len v hv.1 hv.2
  have z2 := itoa_len n hn.1 hn.2
  simp only [dec_some v hv.1 hv.2, dec_some n hn.1 hn.2, Option.bind_some]
  rw [if_pos (by omega), if_pos (by simp only [ByteArray.size_append, l1, l2, l3, l4]; omega), if_pos (by simp only [ByteArray.size_append, l1, l2, l3, l4]; omega)]
theorem stag (b : Int) (t : ByteArray) (hb : i64 b) (ht : t.size ≤ 1000) : Ev (fun k => spec_l2Tag.f k b t) (dg (tagText b t)) := by
  unfold spec_l2Tag.f tagText
  have z1 := itoa_len b hb.1 hb.2
  exact Ev.bind (int_ev b hb.1 hb.2) (Ev.pos (by omega) (Ev.pos (by simp only [ByteArray.size_append, l1, l2, l3, l4]; omega) (Ev.pos (by simp only [ByteArray.size_append, l1, l2, l3, l4]; omega) (Ev.bind (sdig_ev _ (by simp only [ByteArray.size_append, l1, l2, l3, l4]; omega)) (Ev.now _)))))
theorem itag (b : Int) (t : ByteArray) (h0 : 0 ≤ b) (h1 : b ≤ 6) (ht : t.size ≤ 1000) : Ev (fun k => impl_Tag.f k b t) (dg (tagText b t)) := by
  unfold impl_Tag.f tagText
  have z1 := itoa_len b (by omega) (by omega)
  have e : impl_isServer.f b = some true := by unfold impl_isServer.f impl_within.f; rw [if_pos (by omega)]; simp; omega
  refine Ev.bind (Ev.const e) (Ev.pos rfl (Ev.bind (Ev.const (dec_some b (by omega) (by omega))) (Ev.pos (by omega) (Ev.pos (by simp only [ByteArray.size_append, l1, l2, l3, l4]; omega) (Ev.pos (by simp only [ByteArray.size_append, l1, l2, l3, l4]; omega) (Ev.bind (idig_ev _ (by simp only [ByteArray.size_append, l1, l2, l3, l4]; omega)) (Ev.now _)))))))
theorem within_eq (a b c : Int) : impl_within.f a b c = some (decide (b ≤ a ∧ a ≤ c)) := by
  unfold impl_within.f
  by_cases h : a ≥ b
  · rw [if_pos h]; congr 1; simp; omega
  · rw [if_neg h]; congr 1; simp; omega
theorem in_eq (a b c : Int) : spec_l1In.f a b c = some (decide (b ≤ a ∧ a ≤ c)) := within_eq a b c

theorem quorum_eq (n : Int) : impl_Quorum.f n = some (if n = 1 then 1 else if n = 4 then 3 else if n = 7 then 5 else -1) := by
  unfold impl_Quorum.f
  by_cases h1 : n = 1
  · subst h1; decide +kernel
  · by_cases h4 : n = 4
    · subst h4; decide +kernel
    · by_cases h7 : n = 7
      · subst h7; decide +kernel
      · rw [if_neg h1, if_neg h4, if_neg h7, if_neg h1, if_neg h4, if_neg h7]
theorem servers_eq (n : Int) : spec_l15Servers.f n = some (decide (n = 1 ∨ n = 4 ∨ n = 7)) := by
  unfold spec_l15Servers.f
  by_cases h1 : n = 1
  · subst h1; decide +kernel
  · by_cases h4 : n = 4
    · subst h4; decide +kernel
    · by_cases h7 : n = 7
      · subst h7; decide +kernel
      · rw [if_neg h1, if_neg h4]; simp [h1, h4, h7]
/-- What both say of a vote. -/
def okVote (v n b t m : Int) : Bool := if (m = 1 ∨ m = 4 ∨ m = 7) ∧ (0 ≤ b ∧ b ≤ m - 1) ∧ (1 ≤ v ∧ v ≤ 100000) ∧ (0 ≤ n ∧ n ≤ 2147483646) then dg (tagText b (ballot v n)) == t else false
theorem svote (v n b t m : Int) (hb : i64 b) (hm : i64 m) : Ev (fun k => spec_VoteOk.f k v n b t m) (okVote v n b t m) := by
  unfold spec_VoteOk.f okVote spec_l15Name.f
  simp only [servers_eq, in_eq, Option.bind_some]
  by_cases c0 : m = 1 ∨ m = 4 ∨ m = 7
  · rw [w64 (by omega) (by omega)]
    refine Ev.pos (by simpa using c0) ?_
    by_cases c1 : 0 ≤ b ∧ b ≤ m - 1
    · refine Ev.pos (by simpa using c1) ?_
      by_cases c2 : 1 ≤ v ∧ v ≤ 100000
      · refine Ev.pos (by simpa using c2) ?_
        by_cases c3 : 0 ≤ n ∧ n ≤ 2147483646
        · refine Ev.pos (by simpa using c3) ?_
          rw [if_pos ⟨c0, c1, c2, c3⟩]
          have hv : i64 v := ⟨by omega, by omega⟩
          have hn : i64 n := ⟨by omega, by omega⟩
          have hl := ballot_len v n hv hn
          unfold spec_l15Voted.f
          refine Ev.bind (Ev.bind (sballot v n hv hn) (Ev.bind (stag b _ hb (by omega)) (Ev.now _))) ?_
          simp only [beq_self_eq_true, Bool.true_and]
          exact Ev.now _
        · rw [if_neg (fun h => c3 h.2.2.2)]
          exact Ev.neg (by simpa using c3) (Ev.now _)
      · rw [if_neg (fun h => c2 h.2.2.1)]
        exact Ev.neg (by simpa using c2) (Ev.now _)
    · rw [if_neg (fun h => c1 h.2.1)]
      exact Ev.neg (by simpa using c1) (Ev.now _)
  · rw [if_neg (show ¬((m = 1 ∨ m = 4 ∨ m = 7) ∧ (0 ≤ b ∧ b ≤ m - 1) ∧ (1 ≤ v ∧ v ≤ 100000) ∧ (0 ≤ n ∧ n ≤ 2147483646)) from fun h => c0 h.1)]
    exact Ev.neg (by simpa using c0) (Ev.now _)
theorem ivote (v n b t m : Int) (hm : i64 m) : Ev (fun k => impl_VoteOk.f k v n b t m) (okVote v n b t m) := by
  unfold impl_VoteOk.f okVote impl_isView.f impl_isName.f
  simp only [quorum_eq, within_eq, Option.bind_some]
  by_cases c0 : m = 1 ∨ m = 4 ∨ m = 7
  · rw [w64 (by omega) (by omega)]
    refine Ev.pos (by rcases c0 with h | h | h <;> subst h <;> decide) ?_
    by_cases c1 : 0 ≤ b ∧ b ≤ m - 1
    · refine Ev.pos (by simpa using c1) ?_
      by_cases c2 : 1 ≤ v ∧ v ≤ 100000
      · refine Ev.pos (by simpa using c2) ?_
        by_cases c3 : 0 ≤ n ∧ n ≤ 2147483646
        · refine Ev.pos (by simpa using c3) ?_
          rw [if_pos ⟨c0, c1, c2, c3⟩]
          have hv : i64 v := ⟨by omega, by omega⟩
          have hn : i64 n := ⟨by omega, by omega⟩
          have hl := ballot_len v n hv hn
          unfold impl_Signed.f
          have hd := dg_in (tagText b (ballot v n))
          refine Ev.bind (Ev.const (iballot v n hv hn)) ?_
          by_cases ht : t = -1
          · refine Ev.bind (Ev.pos ht (Ev.now _)) ?_
            rw [show (dg (tagText b (ballot v n)) == t) = false by simp; omega]
            exact Ev.now _
          · refine Ev.bind (Ev.neg ht (Ev.bind (itag b _ (by omega) (by omega) (by omega)) (Ev.now _))) ?_
            rw [show (t == dg (tagText b (ballot v n))) = (dg (tagText b (ballot v n)) == t) from Bool.beq_comm ..]
            exact Ev.now _
        · rw [if_neg (fun h => c3 h.2.2.2)]
          exact Ev.neg (by simpa using c3) (Ev.now _)
      · rw [if_neg (fun h => c2 h.2.2.1)]
        exact Ev.neg (by simpa using c2) (Ev.now _)
    · rw [if_neg (fun h => c1 h.2.1)]
      exact Ev.neg (by simpa using c1) (Ev.now _)
  · rw [if_neg (show ¬((m = 1 ∨ m = 4 ∨ m = 7) ∧ (0 ≤ b ∧ b ≤ m - 1) ∧ (1 ≤ v ∧ v ≤ 100000) ∧ (0 ≤ n ∧ n ≤ 2147483646)) from fun h => c0 h.1)]
    refine Ev.neg ?_ (Ev.now _)
    rw [if_neg (fun h => c0 (Or.inl h)), if_neg (fun h => c0 (Or.inr (Or.inl h))), if_neg (fun h => c0 (Or.inr (Or.inr h)))]
    decide

theorem loop_ev (v n m : Int) (bys ts : List Int) (hm : i64 m) (hb : okList (okInt .i64) bys) (hl : bys.length = ts.length) (hz : bys.length ≤ 1048576) : ∀ (d i : Nat), i + d = bys.length → ∃ r, Ev (fun k => spec_ProofOk.l0 k m i v n bys ts) r ∧ Ev (fun k => impl_ProofOk.l0 k m bys (bys.length : Int) i v n bys ts) r
  | 0, i, hi => by
    refine ⟨true, Ev.succ ?_, Ev.succ ?_⟩
    · simp only [spec_ProofOk.l0]
      exact Ev.neg (by omega) (Ev.now _)
    · simp only [impl_ProofOk.l0]
      exact Ev.neg (by omega) (Ev.now _)
  | d + 1, i, hi => by
    obtain ⟨x, hx⟩ := get_some (l := bys) (i := i) (by omega)
    obtain ⟨t, ht⟩ := get_some (l := ts) (i := i) (by omega)
    obtain ⟨r, h1, h2⟩ := loop_ev v n m bys ts hm hb hl hz d (i + 1) (by omega)
    have s1 := svote v n x t m (bound_i64 (all_get hb.2 hx)) hm
    have i1 := ivote v n x t m hm
    have key : ∃ r, Ev (fun k => spec_ProofOk.l0 (k + 1) m i v n bys ts) r ∧ Ev (fun k => impl_ProofOk.l0 (k + 1) m bys (bys.length : Int) i v n bys ts) r := by
      simp only [spec_ProofOk.l0, impl_ProofOk.l0, rd_get hx, rd_get ht]
      rw [w64 (x := (i : Int) + 1) (by omega) (by omega), w64 (x := (i : Int) - 1) (by omega) (by omega), cast_succ]
      cases hv : okVote v n x t m with
      | false =>
        rw [hv] at s1 i1
        refine ⟨false, Ev.pos (by omega) (Ev.pos (by omega) (Ev.pos (by omega) (Ev.bind s1 (Ev.neg (by decide) (Ev.now _))))), Ev.pos (by omega) (Ev.pos (by omega) (Ev.pos (by omega) ?_))⟩
        by_cases h0 : (i : Int) > 0
        · refine Ev.pos h0 (Ev.pos (by omega) (Ev.pos (by omega) ?_))
          by_cases hc : rd bys ((i : Int) - 1) ≥ x
          · exact Ev.pos hc (Ev.now _)
          · exact Ev.neg hc (Ev.pos (by omega) (Ev.bind i1 (Ev.neg (by decide) (Ev.now _))))
        · exact Ev.neg h0 (Ev.pos (by omega) (Ev.bind i1 (Ev.neg (by decide) (Ev.now _))))
      | true =>
        rw [hv] at s1 i1
        by_cases h0 : (i : Int) > 0
        · by_cases hc : rd bys ((i : Int) - 1) ≥ x
          · exact ⟨false, Ev.pos (by omega) (Ev.pos (by omega) (Ev.pos (by omega) (Ev.bind s1 (Ev.pos rfl (Ev.pos h0 (Ev.pos (by omega) (Ev.pos (by omega) (Ev.pos (by omega) (Ev.now _))))))))), Ev.pos (by omega) (Ev.pos (by omega) (Ev.pos (by omega) (Ev.pos h0 (Ev.pos (by omega) (Ev.pos (by omega) (Ev.pos hc (Ev.now _)))))))⟩
          · exact ⟨r, Ev.pos (by omega) (Ev.pos (by omega) (Ev.pos (by omega) (Ev.bind s1 (Ev.pos rfl (Ev.pos h0 (Ev.pos (by omega) (Ev.pos (by omega) (Ev.neg (by omega) h1)))))))), Ev.pos (by omega) (Ev.pos (by omega) (Ev.pos (by omega) (Ev.pos h0 (Ev.pos (by omega) (Ev.pos (by omega) (Ev.neg hc (Ev.pos (by omega) (Ev.bind i1 (Ev.pos rfl h2)))))))))⟩
        · exact ⟨r, Ev.pos (by omega) (Ev.pos (by omega) (Ev.pos (by omega) (Ev.bind s1 (Ev.pos rfl (Ev.neg h0 h1))))), Ev.pos (by omega) (Ev.pos (by omega) (Ev.pos (by omega) (Ev.neg h0 (Ev.pos (by omega) (Ev.bind i1 (Ev.pos rfl h2))))))⟩
    obtain ⟨r, k1, k2⟩ := key
    exact ⟨r, Ev.succ k1, Ev.succ k2⟩
theorem loop_bad (v n m : Int) (bys ts : List Int) (hm : i64 m) (hl : bys.length = ts.length) (h0 : 0 < bys.length) (hz : bys.length ≤ 1048576) (hc : ¬ ((1 ≤ v ∧ v ≤ 100000) ∧ (0 ≤ n ∧ n ≤ 2147483646))) : Ev (fun k => impl_ProofOk.l0 k m bys (bys.length : Int) 0 v n bys ts) false := by
  obtain ⟨x, hx⟩ := get_some (l := bys) (i := 0) (by omega)
  obtain ⟨t, ht⟩ := get_some (l := ts) (i := 0) (by omega)
  have i1 := ivote v n x t m hm
  have hv : okVote v n x t m = false := by
    unfold okVote
    rw [if_neg (fun h => hc h.2.2)]
  rw [hv] at i1
  have e1 : rd bys 0 = x := rd_get (i := 0) hx
  have e2 : rd ts 0 = t := rd_get (i := 0) ht
  refine Ev.succ ?_
  simp only [impl_ProofOk.l0, e1, e2]
  exact Ev.pos (by omega) (Ev.pos (by omega) (Ev.pos (by omega) (Ev.neg (by omega) (Ev.pos (by omega) (Ev.bind i1 (Ev.neg (by decide) (Ev.now _)))))))
def qm (m : Int) : Int := if m = 1 then 1 else if m = 4 then 3 else if m = 7 then 5 else -1
theorem iq (m : Int) : impl_Quorum.f m = some (qm m) := quorum_eq m
theorem sq (m : Int) (h : m = 1 ∨ m = 4 ∨ m = 7) : spec_Quorum.f m = some (qm m) := by
  unfold spec_Quorum.f
  rw [servers_eq]
  rcases h with h | h | h <;> subst h <;> decide +kernel
theorem qm_pos {m : Int} (h : m = 1 ∨ m = 4 ∨ m = 7) : 1 ≤ qm m := by rcases h with h | h | h <;> subst h <;> decide
theorem qm_neg {m : Int} (h : ¬ (m = 1 ∨ m = 4 ∨ m = 7)) : qm m = -1 := by
  unfold qm
  rw [if_neg (fun e => h (Or.inl e)), if_neg (fun e => h (Or.inr (Or.inl e))), if_neg (fun e => h (Or.inr (Or.inr e)))]
def isF (v n : Int) (bys ts : List Int) : Bool := decide (v = 0 ∧ n = 0 ∧ bys.length = 0 ∧ ts.length = 0)
theorem sF (v n : Int) (bys ts : List Int) (h1 : bys.length ≤ 1048576) (h2 : ts.length ≤ 1048576) : spec_l15First.f v n bys ts = some (isF v n bys ts) := by
  unfold spec_l15First.f isF
  rw [w64 (by omega) (by omega)]
  by_cases c1 : v = 0
  · by_cases c2 : n = 0
    · rw [if_pos c1, if_pos c2]; congr 1; rw [Bool.eq_iff_iff, beq_iff_eq, decide_eq_true_iff]; omega
    · rw [if_pos c1, if_neg c2]; simp [c2]
  · rw [if_neg c1]; simp [c1]
theorem iF (v n : Int) (bys ts : List Int) : impl_Proof_isFirst.f v n bys ts = some (isF v n bys ts) := by
  unfold impl_Proof_isFirst.f isF
  by_cases c1 : v = 0
  · by_cases c2 : n = 0
    · rw [if_pos c1, if_pos c2]
      by_cases c3 : (bys.length : Int) = 0
      · rw [if_pos c3]; congr 1; rw [Bool.eq_iff_iff, beq_iff_eq, decide_eq_true_iff]; omega
      · rw [if_neg c3]; congr 1; symm; exact decide_eq_false (by omega)
    · rw [if_pos c1, if_neg c2]; simp [c2]
  · rw [if_neg c1]; simp [c1]
theorem proof_ev (v n m : Int) (bys ts : List Int) (hm : i64 m) (hb : okList (okInt .i64) bys) (h1 : bys.length ≤ 1048576) (h2 : ts.length ≤ 1048576) : ∃ r, Ev (fun k => spec_ProofOk.f k v n bys ts m) r ∧ Ev (fun k => impl_ProofOk.f k v n bys ts m) r := by
  unfold spec_ProofOk.f impl_ProofOk.f spec_l15Name.f
  simp only [servers_eq, iq, sF v n bys ts h1 h2, iF, in_eq, Option.bind_some]
  by_cases c0 : m = 1 ∨ m = 4 ∨ m = 7
  · have hq := qm_pos c0
    simp only [sq m c0, Option.bind_some]
    cases hF : isF v n bys ts with
    | true =>
      refine ⟨true, Ev.pos (by simpa using c0) (Ev.pos rfl (Ev.now _)), Ev.neg (by omega) (Ev.succ ?_)⟩
      simp only [impl_ProofOk.j0]
      rw [show decide (qm m > 0) = true by simp; omega]
      exact Ev.pos (by trivial) (Ev.now _)
    | false =>
      have sbad : ∀ b, b = true → Ev (fun k => spec_ProofOk.j0 k m b v n bys ts) false := by
        intro b hb'
        refine Ev.succ ?_
        simp only [spec_ProofOk.j0]
        exact Ev.pos hb' (Ev.now _)
      have ibad : ∀ b, b = true → Ev (fun k => impl_ProofOk.j1 k m b v n bys ts) false := by
        intro b hb'
        refine Ev.succ ?_
        simp only [impl_ProofOk.j1]
        exact Ev.pos hb' (Ev.now _)
      -- what comes behind the first test
      have rest : ∃ r, Ev (fun k => if (bys.length : Int) < qm m then spec_ProofOk.j0 k m true v n bys ts else spec_ProofOk.j0 k m ((bys.length : Int) != (ts.length : Int)) v n bys ts) r ∧ Ev (fun k => if (bys.length : Int) < qm m then impl_ProofOk.j1 k m true v n bys ts else impl_ProofOk.j1 k m ((ts.length : Int) != (bys.length : Int)) v n bys ts) r := by
        by_cases c3 : (bys.length : Int) < qm m
        · exact ⟨false, Ev.pos c3 (sbad _ rfl), Ev.pos c3 (ibad _ rfl)⟩
        · by_cases c4 : bys.length = ts.length
          · obtain ⟨r, e1, e2⟩ := loop_ev v n m bys ts hm hb c4 h1 bys.length 0 (by omega)
            refine ⟨r, Ev.neg c3 (Ev.succ ?_), Ev.neg c3 (Ev.succ ?_)⟩
            · simp only [spec_ProofOk.j0]
              exact Ev.neg (by simp [c4]) e1
            · simp only [impl_ProofOk.j1]
              exact Ev.neg (by simp [c4]) e2
          · exact ⟨false, Ev.neg c3 (sbad _ (by simp; omega)), Ev.neg c3 (ibad _ (by simp; omega))⟩
      have irest : ∀ r, Ev (fun k => if (bys.length : Int) < qm m then impl_ProofOk.j1 k m true v n bys ts else impl_ProofOk.j1 k m ((ts.length : Int) != (bys.length : Int)) v n bys ts) r → Ev (fun k => impl_ProofOk.j0 k m (qm m) false v n bys ts) r := by
        intro r h
        refine Ev.succ ?_
        simp only [impl_ProofOk.j0]
        exact Ev.neg (by decide) h
      by_cases hc : (1 ≤ v ∧ v ≤ 100000) ∧ (0 ≤ n ∧ n ≤ 2147483646)
      · obtain ⟨r, e1, e2⟩ := rest
        exact ⟨r, Ev.pos (by simpa using c0) (Ev.neg (by decide) (Ev.pos (by simpa using hc.1) (Ev.pos (by simpa using hc.2) e1))), Ev.neg (by omega) (irest r e2)⟩
      · refine ⟨false, Ev.pos (by simpa using c0) (Ev.neg (by decide) ?_), Ev.neg (by omega) (irest false ?_)⟩
        · by_cases c1 : 1 ≤ v ∧ v ≤ 100000
          · exact Ev.pos (by simpa using c1) (Ev.neg (by simpa using fun h1 => (fun h2 => hc ⟨c1, h1, h2⟩)) (sbad _ rfl))
          · exact Ev.neg (by simpa using c1) (sbad _ rfl)
        · by_cases c3 : (bys.length : Int) < qm m
          · exact Ev.pos c3 (ibad _ rfl)
          · by_cases c4 : bys.length = ts.length
            · refine Ev.neg c3 (Ev.succ ?_)
              simp only [impl_ProofOk.j1]
              exact Ev.neg (by simp [c4]) (loop_bad v n m bys ts hm c4 (by omega) h1 hc)
            · exact Ev.neg c3 (ibad _ (by simp; omega))
  · have hq := qm_neg c0
    refine ⟨false, Ev.neg (by simpa using c0) (Ev.now _), Ev.pos (by omega) (Ev.succ ?_)⟩
    simp only [impl_ProofOk.j0]
    rw [show decide (qm m > 0) = false by simp; omega]
    exact Ev.pos (by trivial) (Ev.now _)
/-! what is gathered -/
theorem ev_all {α β : Type} {g : Nat → α → Option β} {v : α → β} : ∀ l : List α, (∀ x, x ∈ l → Ev (fun k => g k x) (v x)) → ∃ K, ∀ k, K ≤ k → ∀ x, x ∈ l → g k x = some (v x)
  | [], _ => ⟨0, fun k _ x hx => by simp at hx⟩
  | x :: l, h => by
    obtain ⟨K1, h1⟩ := h x (List.mem_cons_self ..)
    obtain ⟨K2, h2⟩ := ev_all l (fun y hy => h y (List.mem_cons_of_mem _ hy))
    refine ⟨max K1 K2, fun k hk y hy => ?_⟩
    rcases List.mem_cons.1 hy with rfl | hy
    · exact h1 k (by omega)
    · exact h2 k (by omega) y hy
/-- Is this the vote that is looked for. -/
def isV (b v n m : Int) (x : S43) : Bool := decide (x.f2 = b) && (decide (x.f0 = v) && (decide (x.f1 = n) && okVote x.f0 x.f1 x.f2 x.f3 m))
theorem find_congr {α : Type} {p q : α → Bool} : ∀ l : List α, (∀ x, x ∈ l → p x = q x) → l.findIdx? p = l.findIdx? q
  | [], _ => rfl
  | x :: l, h => by rw [List.findIdx?_cons, List.findIdx?_cons, h x (List.mem_cons_self ..), find_congr l (fun y hy => h y (List.mem_cons_of_mem _ hy))]
theorem idx_ev (l : List S43) (b v n m : Int) (hm : i64 m) : Ev (fun k => impl_Vote.f k l b v n m) (idxP (isV b v n m) l) := by
  obtain ⟨K, hK⟩ := ev_all (g := fun k (x : S43) => impl_VoteOk.f k x.f0 x.f1 x.f2 x.f3 m) (v := fun x => okVote x.f0 x.f1 x.f2 x.f3 m) l (fun x _ => ivote _ _ _ _ m hm)
  refine ⟨K, fun k hk => ?_⟩
  have h := hK k hk
  show impl_Vote.f k l b v n m = _
  unfold impl_Vote.f
  rw [if_pos (List.all_eq_true.2 (fun x hx => by rw [h x hx]; rfl))]
  unfold idxP
  rw [find_congr (q := isV b v n m) l (fun x hx => by unfold gathP isV; rw [h x hx]; rfl)]
theorem rdv {l : List S43} {i : Nat} (hi : i < l.length) : rd_T43 l (i : Int) = l[i] := by
  show l.getD i _ = l[i]
  rw [List.getD_eq_getElem?_getD, List.getElem?_eq_getElem hi]
  rfl
/-- One step of the reference's search, where nothing fits. -/
theorem s_skip (l : List S43) (hl : l.length ≤ 4611686018427387904) (m b v n : Int) (hm : i64 m) (hb : i64 b) (B T : List Int) (r : Int × Int × List Int × List Int × Bool) (j : Nat) (hj : j ≤ l.length) : ∀ (d i : Nat), i + d = j → (∀ t (ht : t < l.length), i ≤ t → t < j → isV b v n m l[t] = false) → Ev (fun k => spec_Gathered.l1 k l m b (j : Int) v n B T) r → Ev (fun k => spec_Gathered.l1 k l m b (i : Int) v n B T) r
  | 0, i, hi, _, he => by
    obtain rfl : i = j := by omega
    exact he
  | d + 1, i, hi, hf, he => by
    have hlt : i < l.length := by omega
    have ih := s_skip l hl m b v n hm hb B T r j hj d (i + 1) (by omega) (fun t ht h1 h2 => hf t ht (by omega) h2) he
    have h0 := hf i hlt (by omega) (by omega)
    have e1 : wrap64 ((i : Int) + 1) = ((i + 1 : Nat) : Int) := by rw [w64 (by omega) (by omega), cast_succ]
    refine Ev.succ ?_
    simp only [spec_Gathered.l1, rdv hlt, e1]
    unfold isV at h0
    refine Ev.pos (by omega) (Ev.pos (by omega) ?_)
    by_cases c1 : l[i].f2 = b
    · refine Ev.pos c1 ?_
      by_cases c2 : l[i].f0 = v
      · refine Ev.pos c2 ?_
        by_cases c3 : l[i].f1 = n
        · refine Ev.pos c3 ?_
          rw [decide_eq_true c1, decide_eq_true c2, decide_eq_true c3, Bool.true_and, Bool.true_and, Bool.true_and] at h0
          have ev := svote l[i].f0 l[i].f1 l[i].f2 l[i].f3 m (by rw [c1]; exact hb) hm
          rw [h0] at ev
          exact Ev.bind ev (Ev.neg (by simp) ih)
        · exact Ev.neg c3 ih
      · exact Ev.neg c2 ih
    · exact Ev.neg c1 ih
def gat (l : List S43) (m v n : Int) : Nat → Nat → List (Int × Int)
  | 0, _ => []
  | d + 1, i => match l.findIdx? (isV (i : Int) v n m) with
    | some j => ((i : Int), (rd_T43 l (j : Int)).f3) :: gat l m v n d (i + 1)
    | none => gat l m v n d (i + 1)
theorem gat_some {l : List S43} {m v n : Int} {d i j : Nat} (h : l.findIdx? (isV (i : Int) v n m) = some j) : gat l m v n (d + 1) i = ((i : Int), (rd_T43 l (j : Int)).f3) :: gat l m v n d (i + 1) := by
  show (match l.findIdx? (isV (i : Int) v n m) with | some j => ((i : Int), (rd_T43 l (j : Int)).f3) :: gat l m v n d (i + 1) | none => gat l m v n d (i + 1)) = _
  rw [h]
theorem gat_none {l : List S43} {m v n : Int} {d i : Nat} (h : l.findIdx? (isV (i : Int) v n m) = none) : gat l m v n (d + 1) i = gat l m v n d (i + 1) := by
  show (match l.findIdx? (isV (i : Int) v n m) with | some j => ((i : Int), (rd_T43 l (j : Int)).f3) :: gat l m v n d (i + 1) | none => gat l m v n d (i + 1)) = _
  rw [h]
theorem gat_len (l : List S43) (m v n : Int) : ∀ d i, (gat l m v n d i).length ≤ d
  | 0, i => Nat.le_refl _
  | d + 1, i => by
    have := gat_len l m v n d (i + 1)
    cases h : l.findIdx? (isV (i : Int) v n m) with
    | some j => rw [gat_some h, List.length_cons]; omega
    | none => rw [gat_none h]; omega
theorem gat_mem (l : List S43) (m v n : Int) : ∀ d i (p : Int × Int), p ∈ gat l m v n d i → (i : Int) ≤ p.1 ∧ p.1 < (i : Int) + d ∧ okVote v n p.1 p.2 m = true
  | 0, i, p, h => by simp [gat] at h
  | d + 1, i, p, h => by
    cases hf : l.findIdx? (isV (i : Int) v n m) with
    | none =>
      rw [gat_none hf] at h
      have := gat_mem l m v n d (i + 1) p h
      exact ⟨by omega, by omega, this.2.2⟩
    | some j =>
      rw [gat_some hf] at h
      rcases List.mem_cons.1 h with rfl | h
      · rw [List.findIdx?_eq_some_iff_getElem] at hf
        obtain ⟨hj, hp, _⟩ := hf
        unfold isV at hp
        simp only [Bool.and_eq_true, decide_eq_true_eq] at hp
        obtain ⟨p1, p2, p3, p4⟩ := hp
        refine ⟨by dsimp only; omega, by dsimp only; omega, ?_⟩
        dsimp only
        rw [rdv hj, ← p1, ← p2, ← p3]
        exact p4
      · have := gat_mem l m v n d (i + 1) p h
        exact ⟨by omega, by omega, this.2.2⟩
theorem gat_inc (l : List S43) (m v n : Int) : ∀ d i, ((gat l m v n d i).map Prod.fst).Pairwise (fun x y => x < y)
  | 0, i => by simp [gat]
  | d + 1, i => by
    have ih := gat_inc l m v n d (i + 1)
    cases hf : l.findIdx? (isV (i : Int) v n m) with
    | none => rw [gat_none hf]; exact ih
    | some j =>
      rw [gat_some hf, List.map_cons]
      refine List.pairwise_cons.2 ⟨fun y hy => ?_, ih⟩
      obtain ⟨p, hp, rfl⟩ := List.mem_map.1 hy
      have := gat_mem l m v n d (i + 1) p hp
      show (i : Int) < p.1
      omega
theorem cnt (a : Int) : ∀ L : List Int, (L.filter (fun y => decide (a + 1 ≤ y))).length + (if a ∈ L then 1 else 0) ≤ (L.filter (fun y => decide (a ≤ y))).length
  | [] => by simp
  | x :: r => by
    have ih := cnt a r
    by_cases e : x = a
    · subst e
      rw [List.filter_cons_of_neg (by simp; omega), List.filter_cons_of_pos (by simp), List.length_cons]
      split <;> omega
    · have hm : (a ∈ x :: r) ↔ a ∈ r := by
        rw [List.mem_cons]
        exact ⟨fun h => h.resolve_left (fun h => e h.symm), Or.inr⟩
      simp only [hm]
      by_cases c : a ≤ x
      · rw [List.filter_cons_of_pos (by simp; omega), List.filter_cons_of_pos (by simpa using c), List.length_cons, List.length_cons]
        omega
      · rw [List.filter_cons_of_neg (by simp; omega), List.filter_cons_of_neg (by simpa using c)]
        exact ih
theorem gat_le (l : List S43) (m v n : Int) (L : List Int) (hL : ∀ x, x ∈ l → x.f2 ∈ L) : ∀ d i, (gat l m v n d i).length ≤ (L.filter (fun y => decide ((i : Int) ≤ y))).length
  | 0, i => Nat.zero_le _
  | d + 1, i => by
    have ih := gat_le l m v n L hL d (i + 1)
    have hc := cnt (i : Int) L
    rw [cast_succ] at hc
    cases hf : l.findIdx? (isV (i : Int) v n m) with
    | none =>
      rw [gat_none hf]
      omega
    | some j =>
      rw [gat_some hf, List.length_cons]
      rw [List.findIdx?_eq_some_iff_getElem] at hf
      obtain ⟨hj, hp, _⟩ := hf
      unfold isV at hp
      simp only [Bool.and_eq_true, decide_eq_true_eq] at hp
      have := hL _ (List.getElem_mem hj)
      rw [hp.1] at this
      rw [if_pos this] at hc
      omega
def gres (q v n : Int) (B T : List Int) : Int × Int × List Int × List Int × Bool := if (B.length : Int) < q then (0, 0, [], [], false) else (v, n, B, T, true)
theorem g_l0 (l : List S43) (hl : l.length ≤ 1048576) (m : Nat) (hm : (m : Int) = 1 ∨ (m : Int) = 4 ∨ (m : Int) = 7) (v n : Int) : ∀ (d i : Nat) (B T : List Int), i + d = m → B.length ≤ i → T.length ≤ i →
    Ev (fun k => spec_Gathered.l0 k l (m : Int) (i : Int) v n B T) (gres (qm (m : Int)) v n (B ++ (gat l (m : Int) v n d i).map Prod.fst) (T ++ (gat l (m : Int) v n d i).map Prod.snd)) ∧ Ev (fun k => impl_Gathered.l0 k l (m : Int) (i : Int) (m : Int) v n B T) (gres (qm (m : Int)) v n (B ++ (gat l (m : Int) v n d i).map Prod.fst) (T ++ (gat l (m : Int) v n d i).map Prod.snd))
  | 0, i, B, T, hi, hB, hT => by
    have hq := sq (m : Int) hm
    have hq2 := iq (m : Int)
    simp only [gat, List.map_nil, List.append_nil]
    generalize qm (m : Int) = q at *
    unfold gres
    by_cases c : (B.length : Int) < q
    · rw [if_pos c]
      refine ⟨Ev.succ ?_, Ev.succ ?_⟩
      · simp only [spec_Gathered.l0, hq, Option.bind_some]
        exact Ev.neg (by omega) (Ev.pos c (Ev.now _))
      · simp only [impl_Gathered.l0, hq2, Option.bind_some]
        exact Ev.neg (by omega) (Ev.pos c (Ev.now _))
    · rw [if_neg c]
      refine ⟨Ev.succ ?_, Ev.succ ?_⟩
      · simp only [spec_Gathered.l0, hq, Option.bind_some]
        exact Ev.neg (by omega) (Ev.neg c (Ev.now _))
      · simp only [impl_Gathered.l0, hq2, Option.bind_some]
        exact Ev.neg (by omega) (Ev.neg c (Ev.now _))
  | d + 1, i, B, T, hi, hB, hT => by
    have hm64 : i64 (m : Int) := ⟨by omega, by omega⟩
    have hi64 : i64 (i : Int) := ⟨by omega, by omega⟩
    have e1 : wrap64 ((i : Int) + 1) = ((i + 1 : Nat) : Int) := by rw [w64 (by omega) (by omega), cast_succ]
    have hx := idx_ev l (i : Int) v n (m : Int) hm64
    cases hf : l.findIdx? (isV (i : Int) v n (m : Int)) with
    | none =>
      rw [gat_none hf]
      have hi1 : idxP (isV (i : Int) v n (m : Int)) l = -1 := by unfold idxP; rw [hf]
      rw [hi1] at hx
      obtain ⟨j1, j2⟩ := g_l0 l hl m hm v n d (i + 1) B T (by omega) (by omega) (by omega)
      generalize gres (qm (m : Int)) v n (B ++ (gat l (m : Int) v n d (i + 1)).map Prod.fst) (T ++ (gat l (m : Int) v n d (i + 1)).map Prod.snd) = r at *
      refine ⟨Ev.succ ?_, Ev.succ ?_⟩
      · simp only [spec_Gathered.l0]
        refine Ev.pos (by omega) (s_skip l (by omega) (m : Int) (i : Int) v n hm64 hi64 B T r l.length (Nat.le_refl _) l.length 0 (by omega) (fun t ht _ _ => ?_) (Ev.succ ?_))
        · exact (List.findIdx?_eq_none_iff.1 hf) l[t] (List.getElem_mem ht)
        · simp only [spec_Gathered.l1, e1]
          exact Ev.neg (by omega) j1
      · simp only [impl_Gathered.l0, e1]
        exact Ev.pos (by omega) (Ev.bind hx (Ev.neg (by omega) j2))
    | some j =>
      rw [gat_some hf]
      have hi1 : idxP (isV (i : Int) v n (m : Int)) l = (j : Int) := by unfold idxP; rw [hf]
      rw [hi1] at hx
      rw [List.findIdx?_eq_some_iff_getElem] at hf
      obtain ⟨hjl, hp, hbef⟩ := hf
      obtain ⟨j1, j2⟩ := g_l0 l hl m hm v n d (i + 1) (B ++ [(i : Int)]) (T ++ [(rd_T43 l (j : Int)).f3]) (by omega) (by simp; omega) (by simp; omega)
      rw [List.append_assoc, List.append_assoc, List.singleton_append, List.singleton_append] at j1 j2
      rw [List.map_cons, List.map_cons]
      have hB7 : B.length < 17592186044416 := by omega
      have hT7 : T.length < 17592186044416 := by omega
      dsimp only
      generalize gres (qm (m : Int)) v n (B ++ (i : Int) :: (gat l (m : Int) v n d (i + 1)).map Prod.fst) (T ++ (rd_T43 l (j : Int)).f3 :: (gat l (m : Int) v n d (i + 1)).map Prod.snd) = r at *
      refine ⟨Ev.succ ?_, Ev.succ ?_⟩
      · simp only [spec_Gathered.l0]
        refine Ev.pos (by omega) (s_skip l (by omega) (m : Int) (i : Int) v n hm64 hi64 B T r j (by omega) j 0 (by omega) (fun t ht _ h2 => ?_) (Ev.succ ?_))
        · have := hbef t h2
          simpa using this
        · rw [rdv hjl] at j1
          simp only [spec_Gathered.l1, rdv hjl, e1]
          unfold isV at hp
          simp only [Bool.and_eq_true, decide_eq_true_eq] at hp
          obtain ⟨p1, p2, p3, p4⟩ := hp
          have ev := svote l[j].f0 l[j].f1 l[j].f2 l[j].f3 (m : Int) (by rw [p1]; exact hi64) hm64
          rw [p4] at ev
          exact Ev.pos (by omega) (Ev.pos (by omega) (Ev.pos p1 (Ev.pos p2 (Ev.pos p3 (Ev.bind ev (Ev.pos rfl (Ev.pos hB7 (Ev.pos hT7 j1))))))))
      · simp only [impl_Gathered.l0, e1]
        exact Ev.pos (by omega) (Ev.bind hx (Ev.pos (by omega) (Ev.pos hB7 (Ev.pos (by omega) (Ev.pos (by omega) (Ev.pos hT7 j2))))))
/-- What is told: none, or the votes found. -/
def Told (l : List S43) (m : Int) (r : Int × Int × List Int × List Int × Bool) : Prop := r = (0, 0, [], [], false) ∨ ∃ (k : Nat) (v n : Int), m = (k : Int) ∧ (m = 1 ∨ m = 4 ∨ m = 7) ∧ r = (v, n, (gat l m v n k 0).map Prod.fst, (gat l m v n k 0).map Prod.snd, true) ∧ qm m ≤ ((gat l m v n k 0).length : Int)
theorem gathered_ev (l : List S43) (m : Int) (hl : l.length ≤ 1048576) : ∃ r, Ev (fun k => spec_Gathered.f k l m) r ∧ Ev (fun k => impl_Gathered.f k l m) r ∧ Told l m r := by
  have no1 : ∀ c, c = true → Ev (fun k => spec_Gathered.j0 k l m c) (0, 0, [], [], false) := fun c hc => Ev.succ (by simp only [spec_Gathered.j0]; exact Ev.pos hc (Ev.now _))
  have no2 : ∀ c, c = true → Ev (fun k => impl_Gathered.j0 k l c m) (0, 0, [], [], false) := fun c hc => Ev.succ (by simp only [impl_Gathered.j0]; exact Ev.pos hc (Ev.now _))
  unfold spec_Gathered.f impl_Gathered.f
  by_cases c0 : (l.length : Int) = 0
  · exact ⟨_, Ev.pos c0 (no1 _ rfl), Ev.pos c0 (no2 _ rfl), Or.inl rfl⟩
  · simp only [servers_eq, iq, Option.bind_some]
    by_cases c1 : m = 1 ∨ m = 4 ∨ m = 7
    · have e1 : (!decide (m = 1 ∨ m = 4 ∨ m = 7)) = false := by rw [decide_eq_true c1]; rfl
      have e2 : decide (qm m < 0) = false := decide_eq_false (by have := qm_pos c1; omega)
      rw [e1, e2]
      obtain ⟨n, rfl⟩ := Int.eq_ofNat_of_zero_le (show 0 ≤ m by omega)
      obtain ⟨j1, j2⟩ := g_l0 l hl n c1 (rd_T43 l 0).f0 (rd_T43 l 0).f1 n 0 [] [] (by omega) (by simp) (by simp)
      rw [List.nil_append, List.nil_append] at j1 j2
      refine ⟨gres (qm (n : Int)) (rd_T43 l 0).f0 (rd_T43 l 0).f1 ((gat l (n : Int) (rd_T43 l 0).f0 (rd_T43 l 0).f1 n 0).map Prod.fst) ((gat l (n : Int) (rd_T43 l 0).f0 (rd_T43 l 0).f1 n 0).map Prod.snd), Ev.neg c0 (Ev.succ ?_), Ev.neg c0 (Ev.succ ?_), ?_⟩
      · simp only [spec_Gathered.j0]
        exact Ev.neg (by simp) (Ev.pos (by omega) j1)
      · simp only [impl_Gathered.j0]
        exact Ev.neg (by simp) (Ev.pos (by omega) j2)
      · unfold gres
        split
        · exact Or.inl rfl
        · rename_i c
          rw [List.length_map] at c
          exact Or.inr ⟨n, _, _, rfl, c1, rfl, by omega⟩
    · have e1 : (!decide (m = 1 ∨ m = 4 ∨ m = 7)) = true := by rw [decide_eq_false c1]; rfl
      have e2 : decide (qm m < 0) = true := decide_eq_true (by rw [qm_neg c1]; omega)
      exact ⟨_, Ev.neg c0 (no1 _ e1), Ev.neg c0 (no2 _ e2), Or.inl rfl⟩
theorem told_len {l : List S43} {m : Int} {r : Int × Int × List Int × List Int × Bool} (h : Told l m r) : r.2.2.1.length ≤ 7 ∧ r.2.2.2.1.length ≤ 7 := by
  rcases h with rfl | ⟨k, v, n, rfl, hm, rfl, _⟩
  · simp
  · have := gat_len l (k : Int) v n k 0
    simp only [List.length_map]
    omega
/-! draws -/
theorem and255 (n : Int) : 0 ≤ Go.bits .and .i64 n 255 ∧ Go.bits .and .i64 n 255 ≤ 255 := by
  have h : (BitVec.ofInt 64 255).toNat = 2 ^ 8 - 1 := by decide
  have key : (BitVec.ofInt 64 n &&& BitVec.ofInt 64 255).toNat = (n % ((2 ^ 64 : Nat) : Int)).toNat % 2 ^ 8 := by
    rw [BitVec.toNat_and, BitVec.toNat_ofInt, h, Nat.and_two_pow_sub_one_eq_mod]
  have e : Go.bits .and .i64 n 255 = IntKind.i64.wrap ((BitVec.ofInt 64 n &&& BitVec.ofInt 64 255).toNat : Nat) := rfl
  rw [e, key, IntKind.wrap_i64]
  omega
theorem new_l0 (x0 : List Int) : ∀ (d k : Nat) (x3 x4 : Int), 0 ≤ x4 → x4 ≤ (x0.length : Int) → (x0.length : Int) - x4 = d → d < k → (x0.length : Int) < 9223372036854775807 → ∃ h, spec_l1New.l0 k x0 x3 x4 = some (x0, 0, h)
  | 0, k, x3, x4, h0, h1, h2, h3, h4 => by
    obtain ⟨k, rfl⟩ : ∃ m, k = m + 1 := ⟨k - 1, by omega⟩
    simp only [spec_l1New.l0]
    rw [if_neg (by omega)]
    exact ⟨_, rfl⟩
  | d + 1, k, x3, x4, h0, h1, h2, h3, h4 => by
    obtain ⟨k, rfl⟩ : ∃ m, k = m + 1 := ⟨k - 1, by omega⟩
    simp only [spec_l1New.l0]
    rw [if_pos (by omega), if_pos h0, w64 (x := x4 + 1) (by omega) (by omega)]
    exact new_l0 x0 d k _ _ (by omega) (by omega) (by omega) (by omega) h4
theorem new_l0_same (x0 : List Int) : ∀ (k k' : Nat) (x3 x4 : Int) (r r'), spec_l1New.l0 k x0 x3 x4 = some r → spec_l1New.l0 k' x0 x3 x4 = some r' → r = r'
  | 0, _, _, _, _, _, h, _ => by simp [spec_l1New.l0] at h
  | _, 0, _, _, _, _, _, h => by simp [spec_l1New.l0] at h
  | k + 1, k' + 1, x3, x4, r, r', h, h' => by
    simp only [spec_l1New.l0] at h h'
    split at h
    · rename_i c
      rw [if_pos c] at h'
      split at h
      · rename_i c2
        rw [if_pos c2] at h'
        exact new_l0_same x0 k k' _ _ _ _ h h'
      · simp at h
    · rename_i c
      rw [if_neg c] at h'
      simp_all
theorem new_ev (x0 : List Int) (hl : (x0.length : Int) < 9223372036854775807) : ∃ h, Ev (fun k => spec_l1New.f k x0) (x0, 0, h) := by
  obtain ⟨h, e⟩ := new_l0 x0 x0.length (x0.length + 1) (wrap64 (111029 + (x0.length : Int))) 0 (by omega) (by omega) (by omega) (by omega) hl
  refine ⟨h, x0.length + 1, fun k hk => ?_⟩
  obtain ⟨h', e'⟩ := new_l0 x0 x0.length k (wrap64 (111029 + (x0.length : Int))) 0 (by omega) (by omega) (by omega) (by omega) hl
  show spec_l1New.l0 k x0 (wrap64 (111029 + (x0.length : Int))) 0 = some (x0, 0, h)
  rw [e', ← new_l0_same _ _ _ _ _ _ _ e e']
theorem byte_some (l : List Int) (hl : (l.length : Int) < 9223372036854775807) (i h : Int) (h0 : 0 ≤ i) (h1 : i ≤ l.length) : ∃ b i' h', spec_l1Byte.f l i h = some (b, i', h') ∧ 0 ≤ b ∧ b ≤ 255 ∧ 0 ≤ i' ∧ i' ≤ l.length := by
  unfold spec_l1Byte.f
  by_cases hlt : i < (l.length : Int)
  · rw [if_pos hlt, if_pos h0]
    exact ⟨_, _, _, rfl, (and255 _).1, (and255 _).2, by rw [w64 (by omega) (by omega)]; omega, by rw [w64 (by omega) (by omega)]; omega⟩
  · rw [if_neg hlt]
    exact ⟨_, _, _, rfl, (and255 _).1, (and255 _).2, h0, h1⟩
theorem tmod_in {a b : Int} (h0 : 0 ≤ a) (h1 : 0 < b) : 0 ≤ Int.tmod a b ∧ Int.tmod a b < b := by
  rw [Int.tmod_eq_emod_of_nonneg h0]
  exact ⟨Int.emod_nonneg _ (by omega), Int.emod_lt_of_pos _ h1⟩
theorem below_some (l : List Int) (hl : (l.length : Int) < 9223372036854775807) (i h n : Int) (h0 : 0 ≤ i) (h1 : i ≤ l.length) : ∃ b i' h', spec_l1Below.f l i h n = some (b, i', h') ∧ 0 ≤ b ∧ (0 < n → b < n) ∧ (n ≤ 0 → b = 0) ∧ 0 ≤ i' ∧ i' ≤ l.length := by
  unfold spec_l1Below.f
  by_cases hn : n ≤ 0
  · rw [if_pos hn]
    exact ⟨_, _, _, rfl, by omega, by omega, fun _ => rfl, h0, h1⟩
  · rw [if_neg hn]
    by_cases hn2 : n ≤ 256
    · rw [if_pos hn2]
      obtain ⟨b, i', h', e, hb0, hb1, hi0, hi1⟩ := byte_some l hl i h h0 h1
      rw [e]
      simp only [Option.bind_some]
      rw [if_neg (by omega)]
      have := tmod_in hb0 (b := n) (by omega)
      exact ⟨_, _, _, rfl, this.1, fun _ => this.2, by omega, hi0, hi1⟩
    · rw [if_neg hn2]
      obtain ⟨b1, i1, h1', e1, _, _, hi0, hi1⟩ := byte_some l hl i h h0 h1
      obtain ⟨b2, i2, h2', e2, _, _, hi0, hi1⟩ := byte_some l hl i1 h1' hi0 hi1
      obtain ⟨b3, i3, h3', e3, _, _, hi0, hi1⟩ := byte_some l hl i2 h2' hi0 hi1
      obtain ⟨b4, i4, h4', e4, _, _, hi0, hi1⟩ := byte_some l hl i3 h3' hi0 hi1
      rw [e1]; simp only [Option.bind_some]
      rw [e2]; simp only [Option.bind_some]
      rw [e3]; simp only [Option.bind_some]
      rw [e4]; simp only [Option.bind_some]
      rw [if_neg (by omega)]
      rw [w64 (x := b1 * 16777216) (by omega) (by omega), w64 (x := b2 * 65536) (by omega) (by omega), w64 (x := b3 * 256) (by omega) (by omega), w64 (x := b1 * 16777216 + b2 * 65536) (by omega) (by omega), w64 (x := b1 * 16777216 + b2 * 65536 + b3 * 256) (by omega) (by omega), w64 (x := b1 * 16777216 + b2 * 65536 + b3 * 256 + b4) (by omega) (by omega)]
      have := tmod_in (a := b1 * 16777216 + b2 * 65536 + b3 * 256 + b4) (by omega) (b := n) (by omega)
      exact ⟨_, _, _, rfl, this.1, fun _ => this.2, by omega, hi0, hi1⟩
theorem once_some (l : List Int) (hl : (l.length : Int) < 9223372036854775807) (i h n : Int) (h0 : 0 ≤ i) (h1 : i ≤ l.length) : ∃ b i' h', spec_l1Once.f l i h n = some (b, i', h') ∧ 0 ≤ i' ∧ i' ≤ l.length := by
  obtain ⟨b, i', h', e, _, _, _, a, c⟩ := below_some l hl i h n h0 h1
  exact ⟨_, _, _, by unfold spec_l1Once.f; rw [e]; rfl, a, c⟩
/-! a server's vote -/
def wv (s v n : Int) : Int × Int × Int × Int := if (0 ≤ s ∧ s ≤ 6) ∧ (1 ≤ v ∧ v ≤ 100000) ∧ (0 ≤ n ∧ n ≤ 2147483646) then (v, n, s, dg (tagText s (ballot v n))) else (0, 0, 0, 0)
theorem sv15 (s v n : Int) (hs : i64 s) (hv : i64 v) (hn : i64 n) : Ev (fun k => spec_l15Voted.f k s v n) (v, n, s, dg (tagText s (ballot v n))) := by
  have hl := ballot_len v n hv hn
  unfold spec_l15Voted.f
  exact Ev.bind (sballot v n hv hn) (Ev.bind (stag s _ hs (by omega)) (Ev.now _))
theorem svoted (s v n : Int) : Ev (fun k => spec_Voted.f k s v n) (wv s v n) := by
  unfold spec_Voted.f spec_l15Name.f wv
  simp only [in_eq, Option.bind_some]
  by_cases c1 : 0 ≤ s ∧ s ≤ 6
  · refine Ev.pos (by simpa using c1) ?_
    by_cases c2 : 1 ≤ v ∧ v ≤ 100000
    · refine Ev.pos (by simpa using c2) ?_
      by_cases c3 : 0 ≤ n ∧ n ≤ 2147483646
      · rw [if_pos ⟨c1, c2, c3⟩]
        exact Ev.pos (by simpa using c3) (Ev.bind (sv15 s v n ⟨by omega, by omega⟩ ⟨by omega, by omega⟩ ⟨by omega, by omega⟩) (Ev.now _))
      · rw [if_neg (fun h => c3 h.2.2)]
        exact Ev.neg (by simpa using c3) (Ev.now _)
    · rw [if_neg (fun h => c2 h.2.1)]
      exact Ev.neg (by simpa using c2) (Ev.now _)
  · rw [if_neg (fun h => c1 h.1)]
    exact Ev.neg (by simpa using c1) (Ev.now _)
theorem ivoted (s v n : Int) : Ev (fun k => impl_Voted.f k s v n) (wv s v n) := by
  have no : ∀ c, c = true → Ev (fun k => impl_Voted.j0 k s v n c) (0, 0, 0, 0) := fun c hc => Ev.succ (by simp only [impl_Voted.j0]; exact Ev.pos hc (Ev.now _))
  unfold impl_Voted.f impl_isServer.f impl_isView.f impl_isName.f wv
  simp only [within_eq, Option.bind_some]
  by_cases c1 : 0 ≤ s ∧ s ≤ 6
  · refine Ev.pos (by simpa using c1) ?_
    by_cases c2 : 1 ≤ v ∧ v ≤ 100000
    · refine Ev.pos (by simpa using c2) ?_
      by_cases c3 : 0 ≤ n ∧ n ≤ 2147483646
      · rw [if_pos ⟨c1, c2, c3⟩, decide_eq_true c3]
        have hv : i64 v := ⟨by omega, by omega⟩
        have hn : i64 n := ⟨by omega, by omega⟩
        have hl := ballot_len v n hv hn
        refine Ev.succ ?_
        simp only [impl_Voted.j0]
        exact Ev.neg (by simp) (Ev.bind (Ev.const (iballot v n hv hn)) (Ev.bind (itag s _ c1.1 c1.2 (by omega)) (Ev.now _)))
      · rw [if_neg (fun h => c3 h.2.2), decide_eq_false c3]
        exact no _ rfl
    · rw [if_neg (fun h => c2 h.2.1)]
      exact Ev.neg (by simpa using c2) (no _ rfl)
  · rw [if_neg (fun h => c1 h.1)]
    exact Ev.neg (by simpa using c1) (no _ rfl)
/-! draws -/
theorem lit_some (l : List Int) (hl : (l.length : Int) < 9223372036854775807) (i h : Int) (h0 : 0 ≤ i) (h1 : i ≤ l.length) (y : List Int) (hy : ∀ z, z ∈ y → i64 z) (hp : 0 < y.length) : ∃ b i' h', spec_l1Below.f l i h (y.length : Int) = some (b, i', h') ∧ 0 ≤ b ∧ b < y.length ∧ i64 (rd y b) ∧ 0 ≤ i' ∧ i' ≤ l.length := by
  obtain ⟨b, i', h', e, p, q, _, a, c⟩ := below_some l hl i h (y.length : Int) h0 h1
  have hb := q (by omega)
  refine ⟨b, i', h', e, p, hb, hy _ ?_, a, c⟩
  show y.getD b.toNat 0 ∈ y
  rw [List.getD_eq_getElem?_getD, List.getElem?_eq_getElem (show b.toNat < y.length by omega)]
  exact List.getElem_mem _
theorem drawN_some (l : List Int) (hl : (l.length : Int) < 9223372036854775807) (i h : Int) (h0 : 0 ≤ i) (h1 : i ≤ l.length) : ∃ b i' h', spec_l15DrawN.f l i h = some (b, i', h') ∧ i64 b := by
  unfold spec_l15DrawN.f
  obtain ⟨b1, i1, h1', e1, a1, c1⟩ := once_some l hl i h 14 h0 h1
  rw [e1]
  simp only [Option.bind_some]
  cases b1 with
  | true =>
    obtain ⟨b2, i2, h2, e2, p, q, z, a2, c2⟩ := lit_some l hl i1 h1' a1 c1 [0, 1, 2, 7, 8, -1] (by intro z hz; simp only [List.mem_cons, List.not_mem_nil, or_false] at hz; constructor <;> omega) (by decide)
    have e2' : spec_l1Below.f l i1 h1' 6 = some (b2, i2, h2) := e2
    simp only [if_true, e2', Option.bind_some]
    rw [if_pos p, if_pos q]
    exact ⟨_, _, _, rfl, z⟩
  | false => exact ⟨_, _, _, rfl, by constructor <;> omega⟩
theorem drawVote_ev (l : List Int) (hl : (l.length : Int) < 9223372036854775807) (i h : Int) (h0 : 0 ≤ i) (h1 : i ≤ l.length) : ∃ v n b t i' h', Ev (fun k => spec_l15DrawVote.f k l i h) (v, n, b, t, i', h') ∧ i64 b ∧ 0 ≤ i' ∧ i' ≤ l.length := by
  obtain ⟨b1, i1, g1, e1, p1, q1, _, a1, c1⟩ := below_some l hl i h 4 h0 h1
  obtain ⟨b2, i2, g2, e2, p2, q2, _, a2, c2⟩ := below_some l hl i1 g1 2 a1 c1
  obtain ⟨b3, i3, g3, e3, p3, q3, _, a3, c3⟩ := below_some l hl i2 g2 2 a2 c2
  have := q1 (by omega); have := q2 (by omega); have := q3 (by omega)
  have w1 : wrap64 (1 + b2) = 1 + b2 := w64 (by omega) (by omega)
  have w2 : wrap64 (5 + b3) = 5 + b3 := w64 (by omega) (by omega)
  have hv := sv15 b1 (1 + b2) (5 + b3) ⟨by omega, by omega⟩ ⟨by omega, by omega⟩ ⟨by omega, by omega⟩
  obtain ⟨b4, i4, g4, e4, a4, c4⟩ := once_some l hl i3 g3 12 a3 c3
  have hb1 : i64 b1 := ⟨by omega, by omega⟩
  unfold spec_l15DrawVote.f
  simp only [e1, e2, e3, w1, w2, Option.bind_some]
  cases b4 with
  | false =>
    refine ⟨1 + b2, 5 + b3, b1, dg (tagText b1 (ballot (1 + b2) (5 + b3))), i4, g4, Ev.bind hv ?_, hb1, a4, c4⟩
    · simp only [e4, Option.bind_some]
      exact Ev.neg (by simp) (Ev.now _)
  | true =>
    obtain ⟨b5, i5, g5, e5, p5, q5, _, a5, c5⟩ := below_some l hl i4 g4 3 a4 c4
    have := q5 (by omega)
    by_cases d0 : b5 = 0
    · refine ⟨1 + b2, 5 + b3, b1, wrap64 (dg (tagText b1 (ballot (1 + b2) (5 + b3))) + 1), i5, g5, Ev.bind hv ?_, hb1, a5, c5⟩
      simp only [e4, e5, Option.bind_some]
      exact Ev.pos (by simp) (Ev.pos d0 (Ev.now _))
    · by_cases d1 : b5 = 1
      · obtain ⟨b6, i6, g6, e6, p6, q6, z6, a6, c6⟩ := lit_some l hl i5 g5 a5 c5 [-1, 4, 7] (by intro z hz; simp only [List.mem_cons, List.not_mem_nil, or_false] at hz; constructor <;> omega) (by decide)
        have e6' : spec_l1Below.f l i5 g5 3 = some (b6, i6, g6) := e6
        refine ⟨1 + b2, 5 + b3, rd [-1, 4, 7] b6, dg (tagText b1 (ballot (1 + b2) (5 + b3))), i6, g6, Ev.bind hv ?_, z6, a6, c6⟩
        simp only [e4, e5, e6', Option.bind_some]
        exact Ev.pos (by simp) (Ev.neg d0 (Ev.pos d1 (Ev.pos p6 (Ev.pos q6 (Ev.now _)))))
      · have hv2 := sv15 6 3 5 ⟨by omega, by omega⟩ ⟨by omega, by omega⟩ ⟨by omega, by omega⟩
        refine ⟨3, 5, 6, dg (tagText 6 (ballot 3 5)), i5, g5, Ev.bind hv ?_, ⟨by omega, by omega⟩, a5, c5⟩
        simp only [e4, e5, Option.bind_some]
        exact Ev.pos (by simp) (Ev.neg d0 (Ev.neg d1 (Ev.pos (by omega) (Ev.bind hv2 (Ev.now _)))))
theorem drawVotes_l0 (l : List Int) (hl : (l.length : Int) < 9223372036854775807) : ∀ (d : Nat) (x : List S43) (i h : Int), x.length + d ≤ 100 → 0 ≤ i → i ≤ l.length → ∃ y i' h', Ev (fun k => spec_l15DrawVotes.l0 k x (d : Int) l i h) (y, i', h') ∧ y.length ≤ 100 ∧ 0 ≤ i' ∧ i' ≤ l.length
  | 0, x, i, h, hd, h0, h1 => by
    refine ⟨x, i, h, Ev.succ ?_, by omega, h0, h1⟩
    simp only [spec_l15DrawVotes.l0]
    exact Ev.neg (by omega) (Ev.now _)
  | d + 1, x, i, h, hd, h0, h1 => by
    obtain ⟨v, n, b, t, i1, g1, e1, _, a1, c1⟩ := drawVote_ev l hl i h h0 h1
    obtain ⟨b2, i2, g2, e2, a2, c2⟩ := once_some l hl i1 g1 3 a1 c1
    have w : wrap64 (((d + 1 : Nat) : Int) - 1) = (d : Int) := by rw [w64 (by omega) (by omega)]; omega
    have hx : x.length < 4398046511104 := by omega
    cases b2 with
    | true =>
      obtain ⟨y, i3, g3, e, z, a, c⟩ := drawVotes_l0 l hl d (x ++ [(⟨v, n, b, t⟩ : S43)]) i2 g2 (by simp; omega) a2 c2
      refine ⟨y, i3, g3, Ev.succ ?_, z, a, c⟩
      simp only [spec_l15DrawVotes.l0, w]
      refine Ev.pos (by omega) (Ev.bind e1 ?_)
      simp only [e2, Option.bind_some]
      exact Ev.pos (by simp) (Ev.pos hx e)
    | false =>
      obtain ⟨b3, i3, g3, e3, p3, q3, _, a3, c3⟩ := below_some l hl i2 g2 4 a2 c2
      have := q3 (by omega)
      have hv := sv15 b3 2 5 ⟨by omega, by omega⟩ ⟨by omega, by omega⟩ ⟨by omega, by omega⟩
      obtain ⟨y, i4, g4, e, z, a, c⟩ := drawVotes_l0 l hl d (x ++ [(⟨2, 5, b3, dg (tagText b3 (ballot 2 5))⟩ : S43)]) i3 g3 (by simp; omega) a3 c3
      refine ⟨y, i4, g4, Ev.succ ?_, z, a, c⟩
      simp only [spec_l15DrawVotes.l0, w]
      refine Ev.pos (by omega) (Ev.bind e1 ?_)
      simp only [e2, e3, Option.bind_some]
      exact Ev.neg (by simp) (Ev.bind hv (Ev.pos hx e))
theorem DrawGathered_ev (l : List Int) (hl : (l.length : Int) < 9223372036854775807) : ∃ x m, Ev (fun k => spec_DrawGathered.f k l) (x, m) ∧ x.length ≤ 100 := by
  obtain ⟨h, e0⟩ := new_ev l hl
  obtain ⟨b, i1, g1, e1, p1, q1, _, a1, c1⟩ := below_some l hl 0 h 9 (by omega) (by omega)
  have := q1 (by omega)
  obtain ⟨d, rfl⟩ := Int.eq_ofNat_of_zero_le p1
  obtain ⟨x, i2, g2, e2, hx, a2, c2⟩ := drawVotes_l0 l hl d [] i1 g1 (by simp; omega) a1 c1
  obtain ⟨m, i3, g3, e3, _⟩ := drawN_some l hl i2 g2 a2 c2
  refine ⟨x, m, ?_, hx⟩
  have ev : Ev (fun k => spec_l15DrawVotes.f k l 0 h) (x, i2, g2) := by
    unfold spec_l15DrawVotes.f
    rw [e1]
    exact e2
  unfold spec_DrawGathered.f
  refine Ev.bind e0 (Ev.bind ev ?_)
  simp only [e3, Option.bind_some]
  exact Ev.now _
theorem DrawVoteOk_ev (l : List Int) (hl : (l.length : Int) < 9223372036854775807) : ∃ v n b t m, Ev (fun k => spec_DrawVoteOk.f k l) (v, n, b, t, m) ∧ i64 b ∧ i64 m := by
  obtain ⟨h, e0⟩ := new_ev l hl
  obtain ⟨v, n, b, t, i1, g1, e1, hb, a1, c1⟩ := drawVote_ev l hl 0 h (by omega) (by omega)
  obtain ⟨m, i3, g3, e3, hm⟩ := drawN_some l hl i1 g1 a1 c1
  refine ⟨v, n, b, t, m, ?_, hb, hm⟩
  unfold spec_DrawVoteOk.f
  refine Ev.bind e0 (Ev.bind e1 ?_)
  simp only [e3, Option.bind_some]
  exact Ev.now _
theorem DrawVoted_ev (l : List Int) (hl : (l.length : Int) < 9223372036854775807) : ∃ s v n, Ev (fun k => spec_DrawVoted.f k l) (s, v, n) := by
  obtain ⟨h, e0⟩ := new_ev l hl
  have hs : ∃ s i1 g1, spec_l2DrawServer.f l 0 h = some (s, i1, g1) ∧ 0 ≤ i1 ∧ i1 ≤ l.length := by
    unfold spec_l2DrawServer.f
    obtain ⟨b1, i1, g1, e1, a1, c1⟩ := once_some l hl 0 h 8 (by omega) (by omega)
    rw [e1]
    simp only [Option.bind_some]
    cases b1 with
    | true =>
      obtain ⟨b2, i2, g2, e2, p, q, _, a2, c2⟩ := below_some l hl i1 g1 5 a1 c1
      have := q (by omega)
      simp only [if_true, e2, Option.bind_some]
      rw [if_pos p, if_pos (by simp; omega)]
      exact ⟨_, _, _, rfl, a2, c2⟩
    | false =>
      obtain ⟨b2, i2, g2, e2, p, q, _, a2, c2⟩ := below_some l hl i1 g1 4 a1 c1
      simp only [Bool.false_eq_true, if_false, e2, Option.bind_some]
      exact ⟨_, _, _, rfl, a2, c2⟩
  obtain ⟨s, i1, g1, e1, a1, c1⟩ := hs
  obtain ⟨b2, i2, g2, e2, p2, q2, _, a2, c2⟩ := below_some l hl i1 g1 5 a1 c1
  obtain ⟨b3, i3, g3, e3, p3, q3, _, a3, c3⟩ := below_some l hl i2 g2 5 a2 c2
  have := q2 (by omega); have := q3 (by omega)
  refine ⟨s, rd [0, 1, 5, 100000, 100001] b2, rd [-1, 0, 77, 2147483646, 2147483647] b3, ?_⟩
  unfold spec_DrawVoted.f
  refine Ev.bind e0 ?_
  simp only [e1, e2, e3, Option.bind_some]
  exact Ev.pos p2 (Ev.pos (by simp; omega) (Ev.pos p3 (Ev.pos (by simp; omega) (Ev.now _))))
def PrOk (B T : List Int) : Prop := B.length ≤ 8 ∧ T.length ≤ 8 ∧ ∀ y, y ∈ B → i64 y
theorem told_pr {l : List S43} {m : Int} {r : Int × Int × List Int × List Int × Bool} (h : Told l m r) : PrOk r.2.2.1 r.2.2.2.1 := by
  have hl := told_len h
  refine ⟨by omega, by omega, ?_⟩
  rcases h with rfl | ⟨k, v, n, rfl, hm, rfl, _⟩
  · intro y hy; simp at hy
  · intro y hy
    obtain ⟨p, hp, rfl⟩ := List.mem_map.1 hy
    have := gat_mem l (k : Int) v n k 0 p hp
    exact ⟨by omega, by omega⟩
theorem dp_j1 (l : List Int) (hl : (l.length : Int) < 9223372036854775807) (i h : Int) (h0 : 0 ≤ i) (h1 : i ≤ l.length) (v n : Int) (B T : List Int) (hp : PrOk B T) (b : Bool) (hb : b = true → 2 ≤ B.length ∧ 1 ≤ T.length) :
    ∃ v' n' B' T' i' h', Ev (fun k => spec_l15DrawProof.j1 k b l i h v n B T) (v', n', B', T', i', h') ∧ PrOk B' T' ∧ 0 ≤ i' ∧ i' ≤ l.length := by
  cases b with
  | false =>
    refine ⟨v, n, B, T, i, h, Ev.succ ?_, hp, h0, h1⟩
    simp only [spec_l15DrawProof.j1]
    exact Ev.neg (by simp) (Ev.now _)
  | true =>
    obtain ⟨hB, hT⟩ := hb rfl
    obtain ⟨b1, i1, g1, e1, p1, q1, _, a1, c1⟩ := below_some l hl i h 4 h0 h1
    have := q1 (by omega)
    by_cases d0 : b1 = 0
    · refine ⟨v, n, B, T.set (0 : Int).toNat (wrap64 ((rd T 0) + 1)), i1, g1, Ev.succ ?_, ⟨hp.1, by rw [List.length_set]; exact hp.2.1, hp.2.2⟩, a1, c1⟩
      simp only [spec_l15DrawProof.j1, e1, Option.bind_some]
      exact Ev.pos (by simp) (Ev.pos d0 (Ev.pos (by omega) (Ev.now _)))
    · by_cases d1 : b1 = 1
      · refine ⟨v, n, B.drop (1 : Int).toNat, T, i1, g1, Ev.succ ?_, ⟨by rw [List.length_drop]; have := hp.1; omega, hp.2.1, fun y hy => hp.2.2 y (List.mem_of_mem_drop hy)⟩, a1, c1⟩
        simp only [spec_l15DrawProof.j1, e1, Option.bind_some]
        exact Ev.pos (by simp) (Ev.neg d0 (Ev.pos d1 (Ev.pos (by omega) (Ev.now _))))
      · by_cases d2 : b1 = 2
        · obtain ⟨b2, i2, g2, e2, p2, q2, _, a2, c2⟩ := below_some l hl i1 g1 5 a1 c1
          have := q2 (by omega)
          refine ⟨rd [-1, 0, 3, 100000, 100001] b2, n, B, T, i2, g2, Ev.succ ?_, hp, a2, c2⟩
          simp only [spec_l15DrawProof.j1, e1, e2, Option.bind_some]
          exact Ev.pos (by simp) (Ev.neg d0 (Ev.neg d1 (Ev.pos d2 (Ev.pos p2 (Ev.pos (by simp; omega) (Ev.now _))))))
        · refine ⟨v, n, B.set (0 : Int).toNat (rd B 1), T, i1, g1, Ev.succ ?_, ⟨by rw [List.length_set]; exact hp.1, hp.2.1, fun y hy => ?_⟩, a1, c1⟩
          · simp only [spec_l15DrawProof.j1, e1, Option.bind_some]
            exact Ev.pos (by simp) (Ev.neg d0 (Ev.neg d1 (Ev.neg d2 (Ev.pos (by omega) (Ev.pos (by omega) (Ev.pos (by omega) (Ev.now _)))))))
          · rcases List.mem_or_eq_of_mem_set hy with h' | h'
            · exact hp.2.2 y h'
            · rw [h']
              refine hp.2.2 _ ?_
              show B.getD (1 : Int).toNat 0 ∈ B
              rw [List.getD_eq_getElem?_getD, List.getElem?_eq_getElem (show (1 : Int).toNat < B.length by show 1 < B.length; omega)]
              exact List.getElem_mem _
theorem dp_l0 (l : List Int) (hl : (l.length : Int) < 9223372036854775807) (i h : Int) (h0 : 0 ≤ i) (h1 : i ≤ l.length) : ∀ (d j : Nat) (x : List S43), j + d = 4 → x.length = j →
    ∃ v' n' B' T' i' h', Ev (fun k => spec_l15DrawProof.l0 k x (j : Int) l i h) (v', n', B', T', i', h') ∧ PrOk B' T' ∧ 0 ≤ i' ∧ i' ≤ l.length
  | 0, j, x, hj, hx => by
    obtain ⟨b1, i1, g1, e1, p1, q1, _, a1, c1⟩ := below_some l hl i h 4 h0 h1
    obtain ⟨b2, i2, g2, e2, p2, q2, _, a2, c2⟩ := below_some l hl i1 g1 2 a1 c1
    have := q1 (by omega); have := q2 (by omega)
    have w : wrap64 (b1 + b2) = b1 + b2 := w64 (by omega) (by omega)
    have hlen : ([] ++ x.take b1.toNat ++ x.drop (b1 + b2).toNat : List S43).length ≤ 100 := by simp; omega
    obtain ⟨r, g, _, ht⟩ := gathered_ev ([] ++ x.take b1.toNat ++ x.drop (b1 + b2).toNat) 4 (by omega)
    have hpr := told_pr ht
    obtain ⟨b3, i3, g3, e3, a3, c3⟩ := once_some l hl i2 g2 10 a2 c2
    have hlenr : r.2.2.1.length > 0 → 2 ≤ r.2.2.1.length ∧ 1 ≤ r.2.2.2.1.length := by
      intro hpos
      rcases ht with rfl | ⟨k, v, n, hk, hm, rfl, hq⟩
      · simp at hpos
      · have : qm 4 = 3 := rfl
        simp only [List.length_map]
        omega
    have hl1 : (x.take b1.toNat).length ≤ 4 := by rw [List.length_take]; omega
    have hl2 : (x.drop (b1 + b2).toNat).length ≤ 4 := by rw [List.length_drop]; omega
    have key : ∀ bb : Bool, (bb = true → r.2.2.1.length > 0) → ∃ v' n' B' T' i' h', Ev (fun k => spec_l15DrawProof.j1 k bb l i3 g3 r.1 r.2.1 r.2.2.1 r.2.2.2.1) (v', n', B', T', i', h') ∧ PrOk B' T' ∧ 0 ≤ i' ∧ i' ≤ l.length := fun bb hbb => dp_j1 l hl i3 g3 a3 c3 _ _ _ _ hpr bb (fun h => hlenr (hbb h))
    have fin : ∀ (bb : Bool) (R : Int × Int × List Int × List Int × Int × Int), bb = (if b3 = true then decide ((r.2.2.1.length : Int) > 0) else false) → Ev (fun k => spec_l15DrawProof.j1 k bb l i3 g3 r.1 r.2.1 r.2.2.1 r.2.2.2.1) R → Ev (fun k => spec_l15DrawProof.l0 k x (j : Int) l i h) R := by
      intro bb R hbb hR
      refine Ev.succ ?_
      simp only [spec_l15DrawProof.l0, e1, e2, w, Option.bind_some]
      refine Ev.neg (by omega) (Ev.pos p1 (Ev.pos (by omega) (Ev.pos (by simp only [List.length_nil]; omega) (Ev.pos (by omega) (Ev.pos (by omega) (Ev.pos (by simp only [List.length_append, List.length_nil]; omega) (Ev.bind g ?_)))))))
      simp only [e3, Option.bind_some]
      cases b3 with
      | true =>
        rw [if_pos rfl] at hbb
        subst hbb
        exact Ev.pos rfl hR
      | false =>
        rw [if_neg (by simp)] at hbb
        subst hbb
        exact Ev.neg (by simp) hR
    obtain ⟨v', n', B', T', i', h', e, q⟩ := key (if b3 = true then decide ((r.2.2.1.length : Int) > 0) else false) (by
      intro hh
      split at hh
      · simp only [decide_eq_true_eq] at hh; omega
      · cases hh)
    exact ⟨v', n', B', T', i', h', fin _ _ rfl e, q⟩
  | d + 1, j, x, hj, hx => by
    have hv := sv15 (j : Int) 2 5 ⟨by omega, by omega⟩ ⟨by omega, by omega⟩ ⟨by omega, by omega⟩
    obtain ⟨v', n', B', T', i', h', e, q⟩ := dp_l0 l hl i h h0 h1 d (j + 1) (x ++ [(⟨2, 5, (j : Int), dg (tagText (j : Int) (ballot 2 5))⟩ : S43)]) (by omega) (by simp; omega)
    refine ⟨v', n', B', T', i', h', Ev.succ ?_, q⟩
    have e1 : wrap64 ((j : Int) + 1) = ((j + 1 : Nat) : Int) := by rw [w64 (by omega) (by omega), cast_succ]
    simp only [spec_l15DrawProof.l0, e1]
    exact Ev.pos (by omega) (Ev.bind hv (Ev.pos (by omega) e))
theorem DrawProofOk_ev (l : List Int) (hl : (l.length : Int) < 9223372036854775807) : ∃ v n B T m, Ev (fun k => spec_DrawProofOk.f k l) (v, n, B, T, m) ∧ PrOk B T ∧ i64 m := by
  obtain ⟨h, e0⟩ := new_ev l hl
  have hd : ∃ v n B T i' h', Ev (fun k => spec_l15DrawProof.f k l 0 h) (v, n, B, T, i', h') ∧ PrOk B T ∧ 0 ≤ i' ∧ i' ≤ l.length := by
    obtain ⟨b1, i1, g1, e1, a1, c1⟩ := once_some l hl 0 h 4 (by omega) (by omega)
    unfold spec_l15DrawProof.f
    rw [e1]
    simp only [Option.bind_some]
    cases b1 with
    | true => exact ⟨_, _, _, _, _, _, Ev.pos rfl (Ev.now _), ⟨by simp, by simp, by simp⟩, a1, c1⟩
    | false =>
      obtain ⟨v, n, B, T, i', h', e, q⟩ := dp_l0 l hl i1 g1 a1 c1 4 0 [] (by omega) rfl
      exact ⟨v, n, B, T, i', h', Ev.neg (by simp) e, q⟩
  obtain ⟨v, n, B, T, i1, g1, e1, hp, a1, c1⟩ := hd
  obtain ⟨m, i3, g3, e3, hm⟩ := drawN_some l hl i1 g1 a1 c1
  refine ⟨v, n, B, T, m, ?_, hp, hm⟩
  unfold spec_DrawProofOk.f
  refine Ev.bind e0 (Ev.bind e1 ?_)
  simp only [e3, Option.bind_some]
  exact Ev.now _
/-! the law -/
theorem like_l0 (x : List Int) (hx : x.length ≤ 1000) : ∀ (d i : Nat), i + d = x.length → Ev (fun k => laws_likeInts.l0 k x x i) true
  | 0, i, hi => by
    refine Ev.succ ?_
    simp only [laws_likeInts.l0]
    exact Ev.neg (by omega) (Ev.now _)
  | d + 1, i, hi => by
    have e := like_l0 x hx d (i + 1) (by omega)
    refine Ev.succ ?_
    simp only [laws_likeInts.l0]
    rw [w64 (x := (i : Int) + 1) (by omega) (by omega), cast_succ]
    exact Ev.pos (by omega) (Ev.pos (by omega) (Ev.pos (by omega) (Ev.pos (by simp) e)))
theorem like_ev (x : List Int) (hx : x.length ≤ 1000) : Ev (fun k => laws_likeInts.f k x x) true := by
  unfold laws_likeInts.f
  exact Ev.pos (by simp) (like_l0 x hx x.length 0 (by omega))
theorem likep_ev (v n : Int) (B T : List Int) (hB : B.length ≤ 1000) (hT : T.length ≤ 1000) : Ev (fun k => laws_likeProof.f k v n B T v n B T) true := by
  unfold laws_likeProof.f
  exact Ev.pos rfl (Ev.pos rfl (Ev.bind (like_ev B hB) (Ev.pos rfl (Ev.bind (like_ev T hT) (Ev.now _)))))
theorem pok_l0 (v n m : Int) (bys ts : List Int) (hm : i64 m) (hl : bys.length = ts.length) (hz : bys.length ≤ 1000) (hok : ∀ (i : Nat) (h : i < bys.length), okVote v n bys[i] (ts[i]'(by omega)) m = true) (hinc : bys.Pairwise (fun x y => x < y)) : ∀ (d i : Nat), i + d = bys.length → Ev (fun k => impl_ProofOk.l0 k m bys (bys.length : Int) (i : Int) v n bys ts) true
  | 0, i, hi => by
    refine Ev.succ ?_
    simp only [impl_ProofOk.l0]
    exact Ev.neg (by omega) (Ev.now _)
  | d + 1, i, hi => by
    have hlt : i < bys.length := by omega
    have ih := pok_l0 v n m bys ts hm hl hz hok hinc d (i + 1) (by omega)
    have hx : bys[i]? = some bys[i] := List.getElem?_eq_getElem hlt
    have ht : ts[i]? = some (ts[i]'(by omega)) := List.getElem?_eq_getElem (by omega)
    have i1 := ivote v n bys[i] (ts[i]'(by omega)) m hm
    rw [hok i hlt] at i1
    have e1 : wrap64 ((i : Int) + 1) = ((i + 1 : Nat) : Int) := by rw [w64 (by omega) (by omega), cast_succ]
    refine Ev.succ ?_
    simp only [impl_ProofOk.l0, rd_get hx, rd_get ht, e1]
    refine Ev.pos (by omega) (Ev.pos (by omega) (Ev.pos (by omega) ?_))
    by_cases h0 : (i : Int) > 0
    · have w : wrap64 ((i : Int) - 1) = ((i - 1 : Nat) : Int) := by rw [w64 (by omega) (by omega)]; omega
      have hp : bys[i - 1]? = some bys[i - 1] := List.getElem?_eq_getElem (by omega)
      have hlt2 := List.pairwise_iff_getElem.1 hinc (i - 1) i (by omega) hlt (by omega)
      rw [w, rd_get hp]
      exact Ev.pos h0 (Ev.pos (by omega) (Ev.pos (by omega) (Ev.neg (by omega) (Ev.pos (by omega) (Ev.bind i1 (Ev.pos rfl ih))))))
    · exact Ev.neg h0 (Ev.pos (by omega) (Ev.bind i1 (Ev.pos rfl ih)))
theorem pok_ev (v n m : Int) (bys ts : List Int) (hm : m = 1 ∨ m = 4 ∨ m = 7) (hl : bys.length = ts.length) (hz : bys.length ≤ 1000) (hq : qm m ≤ (bys.length : Int)) (hok : ∀ (i : Nat) (h : i < bys.length), okVote v n bys[i] (ts[i]'(by omega)) m = true) (hinc : bys.Pairwise (fun x y => x < y)) : Ev (fun k => impl_ProofOk.f k v n bys ts m) true := by
  have h1 := qm_pos hm
  have hF : isF v n bys ts = false := by
    unfold isF
    exact decide_eq_false (by omega)
  have lp := pok_l0 v n m bys ts ⟨by omega, by omega⟩ hl hz hok hinc bys.length 0 (by omega)
  unfold impl_ProofOk.f
  simp only [iq, iF, hF, Option.bind_some]
  refine Ev.neg (by omega) (Ev.succ ?_)
  simp only [impl_ProofOk.j0]
  refine Ev.neg (by simp) (Ev.neg (by omega) (Ev.succ ?_))
  simp only [impl_ProofOk.j1]
  exact Ev.neg (by simp [hl]) lp
def fewL (v n : Int) (B : List Int) : List S43 := B.map fun b => ⟨v, n, b, dg (tagText b (ballot v n))⟩
theorem qw {m : Int} (hm : m = 1 ∨ m = 4 ∨ m = 7) : wrap64 (qm m - 1) = qm m - 1 := by
  rcases hm with rfl | rfl | rfl <;> decide +kernel
theorem iw {i : Nat} (h : i ≤ 1000000) : wrap64 ((i : Int) + 1) = ((i + 1 : Nat) : Int) := by rw [w64 (by omega) (by omega), cast_succ]
theorem few_l0 (m : Int) (hm : m = 1 ∨ m = 4 ∨ m = 7) (v n : Int) (B T : List Int) (hB7 : B.length ≤ 7) (hT : B.length = T.length) (hq : qm m ≤ (B.length : Int)) (hok : ∀ (i : Nat) (h : i < B.length), okVote v n B[i] (T[i]'(by omega)) m = true) (hinc : B.Pairwise (fun x y => x < y)) (h06 : ∀ y, y ∈ B → 0 ≤ y ∧ y ≤ 6) (hv : 1 ≤ v ∧ v ≤ 100000) (hn : 0 ≤ n ∧ n ≤ 2147483646) :
    ∀ (d i : Nat), (i : Int) + d = qm m - 1 → Ev (fun k => laws_FnProofs.l0 k m (fewL v n (B.take i)) (i : Int) v n B T) true
  | 0, i, hi => by
    have hs := sq m hm
    have h1 := qm_pos hm
    have hlen : (fewL v n (B.take i)).length ≤ 7 := by unfold fewL; rw [List.length_map, List.length_take]; omega
    obtain ⟨r, _, g2, ht⟩ := gathered_ev (fewL v n (B.take i) ++ fewL v n (B.take i)) m (by simp; omega)
    have hfl : r.2.2.2.2 = false := by
      rcases ht with rfl | ⟨k, v', n', rfl, hm', rfl, hq'⟩
      · rfl
      · exfalso
        have hle := gat_le (fewL v n (B.take i) ++ fewL v n (B.take i)) (k : Int) v' n' (B.take i) (fun x hx => by
          have : x ∈ fewL v n (B.take i) := by
            rcases List.mem_append.1 hx with h | h <;> exact h
          unfold fewL at this
          obtain ⟨b, hb, rfl⟩ := List.mem_map.1 this
          exact hb) k 0
        have hf := List.length_filter_le (fun y => decide (((0 : Nat) : Int) ≤ y)) (B.take i)
        have htk : (B.take i).length ≤ i := by rw [List.length_take]; omega
        omega
    have hp := pok_ev v n m B T hm hT (by omega) hq hok hinc
    have k1 : ¬ (i : Int) < qm m - 1 := by omega
    have k2 : (fewL v n (B.take i)).length + (fewL v n (B.take i)).length < 4398046511104 := by omega
    have k3 : (B.length : Int) ≥ qm m := hq
    have w := qw hm
    generalize qm m = q at *
    refine Ev.succ ?_
    simp only [laws_FnProofs.l0, hs, Option.bind_some, w]
    refine Ev.neg k1 (Ev.pos k2 (Ev.bind g2 (Ev.bind hp (Ev.pos rfl (Ev.pos k3 ?_)))))
    rw [hfl]
    exact Ev.now _
  | d + 1, i, hi => by
    have hs := sq m hm
    have hlt : i < B.length := by omega
    have hx : B[i]? = some B[i] := List.getElem?_eq_getElem hlt
    have hb := h06 _ (List.getElem_mem hlt)
    have sv := svoted B[i] v n
    unfold wv at sv
    rw [if_pos ⟨hb, hv, hn⟩] at sv
    have ih := few_l0 m hm v n B T hB7 hT hq hok hinc h06 hv hn d (i + 1) (by omega)
    have et : fewL v n (B.take (i + 1)) = fewL v n (B.take i) ++ [(⟨v, n, B[i], dg (tagText B[i] (ballot v n))⟩ : S43)] := by
      unfold fewL
      rw [List.take_add_one, hx, List.map_append]
      rfl
    rw [et] at ih
    have hlen : (fewL v n (B.take i)).length ≤ 7 := by unfold fewL; rw [List.length_map, List.length_take]; omega
    have k1 : (i : Int) < qm m - 1 := by omega
    have k2 : (0 : Int) ≤ (i : Int) := by omega
    have k3 : (i : Int) < (B.length : Int) := by omega
    have k4 : (fewL v n (B.take i)).length < 4398046511104 := by omega
    have e1 := iw (i := i) (by omega)
    have w := qw hm
    refine Ev.succ ?_
    simp only [laws_FnProofs.l0, hs, Option.bind_some, w, rd_get hx, e1]
    exact Ev.pos k1 (Ev.pos k2 (Ev.pos k3 (Ev.bind sv (Ev.pos k4 ih))))
theorem fin_ev (l : List S43) (m : Int) (r : Int × Int × List Int × List Int × Bool) (h : Told l m r) : Ev (fun k => laws_FnProofs.j0 k m r.2.2.2.2 false r.1 r.2.1 r.2.2.1 r.2.2.2.1) true := by
  rcases h with rfl | ⟨k, v, n, rfl, hm, rfl, hq⟩
  · refine Ev.succ ?_
    simp only [laws_FnProofs.j0]
    exact Ev.neg (by simp) (Ev.neg (by simp) (Ev.bind (likep_ev 0 0 [] [] (by simp) (by simp)) (Ev.now _)))
  · have hlen := gat_len l (k : Int) v n k 0
    have h1 := qm_pos hm
    have hg : ∀ (i : Nat) (hi : i < (gat l (k : Int) v n k 0).length), 0 ≤ (gat l (k : Int) v n k 0)[i].1 ∧ (gat l (k : Int) v n k 0)[i].1 ≤ 6 ∧ okVote v n (gat l (k : Int) v n k 0)[i].1 (gat l (k : Int) v n k 0)[i].2 (k : Int) = true := fun i hi => by
      have := gat_mem l (k : Int) v n k 0 _ (List.getElem_mem hi)
      exact ⟨by omega, by omega, this.2.2⟩
    have hinc := gat_inc l (k : Int) v n k 0
    generalize gat l (k : Int) v n k 0 = G at *
    have hvn : (1 ≤ v ∧ v ≤ 100000) ∧ (0 ≤ n ∧ n ≤ 2147483646) := by
      have := (hg 0 (by omega)).2.2
      unfold okVote at this
      split at this
      · rename_i c; exact c.2.2
      · cases this
    refine Ev.succ ?_
    simp only [laws_FnProofs.j0]
    refine Ev.neg (by simp) (Ev.pos (by trivial) ?_)
    have := few_l0 (k : Int) hm v n (G.map Prod.fst) (G.map Prod.snd) (by rw [List.length_map]; omega) (by simp) (by rw [List.length_map]; exact hq) (fun i hi => by simp only [List.getElem_map]; rw [List.length_map] at hi; exact (hg i hi).2.2) hinc (fun y hy => by
      obtain ⟨p, hp, rfl⟩ := List.mem_map.1 hy
      obtain ⟨j, hj, rfl⟩ := List.getElem_of_mem hp
      exact ⟨(hg j hj).1, (hg j hj).2.1⟩) hvn.1 hvn.2 (qm (k : Int) - 1).toNat 0 (by omega)
    exact this
theorem ok64 {x : Int} (h : i64 x) : okInt .i64 x := by
  show (Lit.int .i64 x).wf = true
  simp [Lit.wf, IntKind.min, IntKind.max, IntKind.bits, IntKind.signed]
  exact ⟨by have := h.1; omega, by have := h.2; omega⟩
theorem FnProofs : laws_FnProofs.Pure := by
  intro l hok
  refine Ev.rounds (g := fun k => laws_FnProofs.f k l) ?_
  unfold laws_FnProofs.f laws_big.f
  simp only [Option.bind_some]
  refine Ev.ite (fun _ => Ev.now _) (fun hbig => ?_)
  have hl : (l.length : Int) < 9223372036854775807 := by
    simp only [decide_eq_true_eq] at hbig
    omega
  obtain ⟨x, m, d1, hx⟩ := DrawGathered_ev l hl
  obtain ⟨⟨v, n, B, T, f⟩, g1, g2, ht⟩ := gathered_ev x m (by omega)
  obtain ⟨v2, n2, B2, T2, m2, d2, hp2, hm2⟩ := DrawProofOk_ev l hl
  obtain ⟨v3, n3, b3, t3, m3, d3, hb3, hm3⟩ := DrawVoteOk_ev l hl
  obtain ⟨s, v4, n4, d4⟩ := DrawVoted_ev l hl
  have hlen := told_len ht
  dsimp only at hlen
  have lk := likep_ev v n B T (by omega) (by omega)
  obtain ⟨r2, p1, p2⟩ := proof_ev v2 n2 m2 B2 T2 hm2 ⟨by have := hp2.1; omega, fun y hy => ok64 (hp2.2.2 y hy)⟩ (by have := hp2.1; omega) (by have := hp2.2.1; omega)
  have q1 := svote v3 n3 b3 t3 m3 hb3 hm3
  have q2 := ivote v3 n3 b3 t3 m3 hm3
  have w1 := svoted s v4 n4
  have w2 := ivoted s v4 n4
  have fin := fin_ev x m (v, n, B, T, f) ht
  dsimp only at fin
  have hw : ¬ (wv s v4 n4).1 > 0 ∨ ¬ (wv s v4 n4).2.2.1 < 4 ∨ okVote (wv s v4 n4).1 (wv s v4 n4).2.1 (wv s v4 n4).2.2.1 (wv s v4 n4).2.2.2 4 = true := by
    unfold wv
    split
    · rename_i c
      by_cases c4 : s < 4
      · refine Or.inr (Or.inr ?_)
        dsimp only
        unfold okVote
        rw [if_pos ⟨Or.inr (Or.inl rfl), ⟨c.1.1, by omega⟩, c.2⟩]
        exact beq_self_eq_true _
      · exact Or.inr (Or.inl c4)
    · exact Or.inl (by simp)
  have i4 := ivote (wv s v4 n4).1 (wv s v4 n4).2.1 (wv s v4 n4).2.2.1 (wv s v4 n4).2.2.2 4 ⟨by omega, by omega⟩
  generalize wv s v4 n4 = w at *
  refine Ev.bind d1 (Ev.bind g2 (Ev.bind d2 (Ev.bind d3 (Ev.bind d4 (Ev.bind w2 (Ev.bind g1 (Ev.neg (by simp) (Ev.bind lk (Ev.pos rfl (Ev.bind p2 (Ev.bind p1 (Ev.neg (by simp) (Ev.bind q2 (Ev.bind q1 (Ev.neg (by simp) (Ev.bind w1 (Ev.neg (by simp) ?_)))))))))))))))))
  dsimp only
  by_cases c1 : w.1 > 0
  · refine Ev.pos c1 ?_
    by_cases c2 : w.2.2.1 < 4
    · refine Ev.pos c2 ?_
      rw [(hw.resolve_left (fun h => h c1)).resolve_left (fun h => h c2)] at i4
      exact Ev.bind i4 fin
    · exact Ev.neg c2 fin
  · exact Ev.neg c1 fin

end Go.Proofs.YtokfpmkhfindmaaDoor.Pure
