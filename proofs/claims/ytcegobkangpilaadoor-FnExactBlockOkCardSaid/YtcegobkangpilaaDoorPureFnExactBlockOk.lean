/- The program's BlockOk returns what the reference's returns, for every block. No condition. -/
import Derived.Test.YtcegobkangpilaaDoorBoilFnExactBlockOk
namespace Go.Proofs.YtcegobkangpilaaDoor.Pure
open Go.RowKit Go.Proofs.YtcegobkangpilaaDoor.PFnExactBlockOk Go.Proofs.YtcegobkangpilaaDoorW.PrintWords Go.Proofs.YtcegobkangpilaaDoorW.PrintLast Go.Proofs.YtcegobkangpilaaDoorW.PrintMore
set_option maxRecDepth 100000
set_option linter.unusedVariables false
set_option linter.unusedSimpArgs false
theorem bound_i64 {x : Int} (h : okInt .i64 x) : -9223372036854775808 ≤ x ∧ x ≤ 9223372036854775807 := by
  have h : (Lit.int .i64 x).wf = true := h
  simp [Lit.wf, IntKind.min, IntKind.max, IntKind.bits, IntKind.signed] at h
  omega
def bs (l : List UInt8) : ByteArray := ⟨l.toArray⟩
theorem bs_data (l : List UInt8) : (bs l).data.toList = l := by simp [bs]
theorem bs_of (s : ByteArray) : bs s.data.toList = s := by cases s; simp [bs]
theorem bs_app (a b : List UInt8) : bs a ++ bs b = bs (a ++ b) := by
  apply bytes_inj
  simp [bs, ByteArray.toList_eq, ByteArray.data_append]
theorem bs_size (l : List UInt8) : (bs l).size = l.length := by simp [bs, ByteArray.size]
theorem size_data (s : ByteArray) : s.data.toList.length = s.size := by simp only [ByteArray.size, Array.length_toList]
theorem tm_nat (m : Nat) : Int.tmod (m : Int) 10 = ((m % 10 : Nat) : Int) := rfl
theorem td_nat (m : Nat) : Int.tdiv (m : Int) 10 = ((m / 10 : Nat) : Int) := rfl
theorem dig_bytes (m : Nat) (v : Int) (s : ByteArray) (h : v = 48 + ((m % 10 : Nat) : Int)) : strOfNums [v % 256] ++ s = bs (UInt8.ofNat (48 + m % 10) :: s.data.toList) := by
  have e : (v % 256).toNat = 48 + m % 10 := by omega
  have e2 : strOfNums [v % 256] = bs [UInt8.ofNat (48 + m % 10)] := by simp [strOfNums, bs, e]
  rw [e2]
  conv => lhs; rhs; rw [← bs_of s]
  rw [bs_app]; rfl
theorem j1_step (n : Int) (s : ByteArray) (neg : Bool) (r : ByteArray) (h0 : -9223372036854775808 ≤ n) (h1 : n ≤ 9223372036854775807) (hs : s.size ≤ 1000)
    (h : Ev (fun k => spec_l2Int.l0 k (Int.tdiv n 10) (bs (UInt8.ofNat (48 + n.natAbs % 10) :: s.data.toList)) neg) r) : Ev (fun k => spec_l2Int.j1 k n s neg true) r := by
  refine Ev.succ ?_
  simp only [spec_l2Int.j1, Option.bind_some]
  refine Ev.pos (by trivial) ?_
  have sz : ∀ v : Int, (strOfNums [v]).size = 1 := fun v => by simp [strOfNums, ByteArray.size]
  simp only [sz]
  obtain ⟨m, hm | hm⟩ := Int.eq_nat_or_neg n
  · subst hm
    rw [tm_nat, td_nat] at *
    rw [Int.natAbs_natCast] at h
    refine Ev.neg (by omega) (Ev.pos (by omega) ?_)
    rw [w64 (by omega) (by omega), w64 (by omega) (by omega), dig_bytes m _ s rfl]
    exact h
  · subst hm
    rw [Int.neg_tmod, Int.neg_tdiv, tm_nat, td_nat] at *
    rw [Int.natAbs_neg, Int.natAbs_natCast] at h
    by_cases hz : m % 10 = 0
    · refine Ev.neg (by omega) (Ev.pos (by omega) ?_)
      rw [w64 (x := -((m / 10 : Nat) : Int)) (by omega) (by omega), w64 (by omega) (by omega), dig_bytes m _ s (by omega)]
      exact h
    · refine Ev.pos (by omega) (Ev.pos (by omega) ?_)
      rw [w64 (x := -((m / 10 : Nat) : Int)) (by omega) (by omega), w64 (x := -(-((m % 10 : Nat) : Int))) (by omega) (by omega), w64 (by omega) (by omega), dig_bytes m _ s (by omega)]
      exact h
def fin (neg : Bool) (s : ByteArray) : ByteArray := if neg = true then (⟨#[45]⟩ : ByteArray) ++ s else s
theorem l0_end (s : ByteArray) (neg : Bool) (h : s.toList ≠ []) (hs : s.size ≤ 1002) : Ev (fun k => spec_l2Int.l0 k 0 s neg) (fin neg s) := by
  refine Ev.succ ?_
  simp only [spec_l2Int.l0]
  refine Ev.neg h (Ev.succ ?_)
  simp only [spec_l2Int.j1, fin]
  refine Ev.neg (by simp) ?_
  cases neg with
  | true => exact Ev.pos rfl (Ev.pos (by omega) (Ev.now _))
  | false => exact Ev.neg (by decide) (Ev.now _)
theorem int_l0 : ∀ (d : Nat) (n : Int) (s : ByteArray) (neg : Bool), n.natAbs < 10 ^ (d + 1) → -9223372036854775808 ≤ n → n ≤ 9223372036854775807 → (s.toList = [] ∨ n ≠ 0) → s.size + d ≤ 1000 → Ev (fun k => spec_l2Int.l0 k n s neg) (fin neg (bs (Lib.decDigits n.natAbs ++ s.data.toList))) := by
  intro d
  induction d with
  | zero =>
    intro n s neg hd h0 h1 hn hs
    have hd' : n.natAbs < 10 := by simpa using hd
    have go : Ev (fun k => spec_l2Int.j1 k n s neg true) (fin neg (bs (Lib.decDigits n.natAbs ++ s.data.toList))) := by
      refine j1_step n s neg _ h0 h1 (by omega) ?_
      have e : Int.tdiv n 10 = 0 := by
        obtain ⟨m, hm | hm⟩ := Int.eq_nat_or_neg n
        · subst hm; rw [td_nat]; rw [Int.natAbs_natCast] at hd'; omega
        · subst hm; rw [Int.neg_tdiv, td_nat]; rw [Int.natAbs_neg, Int.natAbs_natCast] at hd'; omega
      rw [e, Lib.decDigits, dif_pos hd', Nat.mod_eq_of_lt hd']
      exact l0_end _ neg (by simp [bs, ByteArray.toList_eq]) (by rw [bs_size]; simp only [List.length_cons, size_data]; omega)
    refine Ev.succ ?_
    simp only [spec_l2Int.l0]
    by_cases he : s.toList = []
    · exact Ev.pos he go
    · have hb : (n != 0) = true := by simpa using hn.resolve_left he
      rw [hb]
      exact Ev.neg he go
  | succ d ih =>
    intro n s neg hd h0 h1 hn hs
    have go : Ev (fun k => spec_l2Int.j1 k n s neg true) (fin neg (bs (Lib.decDigits n.natAbs ++ s.data.toList))) := by
      refine j1_step n s neg _ h0 h1 (by omega) ?_
      have e : (Int.tdiv n 10).natAbs = n.natAbs / 10 ∧ -9223372036854775808 ≤ Int.tdiv n 10 ∧ Int.tdiv n 10 ≤ 9223372036854775807 := by
        obtain ⟨m, hm | hm⟩ := Int.eq_nat_or_neg n
        · subst hm; rw [td_nat, Int.natAbs_natCast, Int.natAbs_natCast]; omega
        · subst hm; rw [Int.neg_tdiv, td_nat, Int.natAbs_neg, Int.natAbs_natCast, Int.natAbs_neg, Int.natAbs_natCast]; omega
      by_cases hlt : n.natAbs < 10
      · have e0 : Int.tdiv n 10 = 0 := by have := e.1; omega
        rw [e0, Lib.decDigits, dif_pos hlt, Nat.mod_eq_of_lt hlt]
        exact l0_end _ neg (by simp [bs, ByteArray.toList_eq]) (by rw [bs_size]; simp only [List.length_cons, size_data]; omega)
      · have := ih (Int.tdiv n 10) (bs (UInt8.ofNat (48 + n.natAbs % 10) :: s.data.toList)) neg (by rw [e.1]; rw [Nat.pow_succ] at hd; omega) e.2.1 e.2.2 (Or.inr (by have := e.1; omega)) (by rw [bs_size]; simp only [List.length_cons, size_data]; omega)
        rw [e.1, bs_data] at this
        rw [Lib.decDigits, dif_neg hlt, List.append_assoc]
        exact this
    refine Ev.succ ?_
    simp only [spec_l2Int.l0]
    by_cases he : s.toList = []
    · exact Ev.pos he go
    · have hb : (n != 0) = true := by simpa using hn.resolve_left he
      rw [hb]
      exact Ev.neg he go
theorem int_ev (n : Int) (h0 : -9223372036854775808 ≤ n) (h1 : n ≤ 9223372036854775807) : Ev (fun k => spec_l2Int.f k n) (bs (Lib.itoa n)) := by
  unfold spec_l2Int.f
  have := int_l0 20 n ⟨#[]⟩ (decide (n < 0)) (by omega) h0 h1 (Or.inl (by simp [ByteArray.toList_eq])) (by simp [ByteArray.size])
  refine cast (congrArg _ ?_) this
  unfold fin Lib.itoa
  by_cases h : n < 0
  · rw [if_pos (by simpa using h), if_pos h, show (⟨#[45]⟩ : ByteArray) = bs [45] from rfl, bs_app]
    simp
  · rw [if_neg (by simpa using h), if_neg h, show n.natAbs = n.toNat by omega]
    simp
theorem dec_some (n : Int) (h0 : -9223372036854775808 ≤ n) (h1 : n ≤ 9223372036854775807) : impl_decimal.f n = some (bs (Lib.itoa n)) := by
  unfold impl_decimal.f strconv_FormatInt.f
  rw [if_pos ⟨h0, h1, rfl⟩]
  rfl
theorem dig_len : ∀ (d m : Nat), m < 10 ^ (d + 1) → (Lib.decDigits m).length ≤ d + 1 := by
  intro d
  induction d with
  | zero => intro m h; rw [Lib.decDigits, dif_pos (by simpa using h)]; simp
  | succ d ih =>
    intro m h
    rw [Lib.decDigits]
    by_cases hm : m < 10
    · rw [dif_pos hm]; simp
    · rw [dif_neg hm, List.length_append]
      have := ih (m / 10) (by rw [Nat.pow_succ] at h; omega)
      simp; omega
theorem itoa_len (n : Int) (h0 : -9223372036854775808 ≤ n) (h1 : n ≤ 9223372036854775807) : (bs (Lib.itoa n)).size ≤ 22 := by
  rw [bs_size]
  unfold Lib.itoa
  split
  · have := dig_len 20 n.natAbs (by omega)
    simp; omega
  · have := dig_len 20 n.toNat (by omega)
    omega
def dstep (h : Int) (b : UInt8) : Int := Int.tmod (h * 1000003 + (b.toNat : Int) + 1) 2147483647
def dg (s : ByteArray) : Int := s.data.toList.foldl dstep 1
theorem dstep_in {h : Int} {b : UInt8} (h0 : 0 ≤ h) : 0 ≤ dstep h b ∧ dstep h b < 2147483647 := by
  unfold dstep
  have hb : (0 : Int) ≤ (b.toNat : Int) := by omega
  generalize (b.toNat : Int) = v at *
  rw [Int.tmod_eq_emod_of_nonneg (by omega)]
  omega
theorem dfold_in : ∀ (l : List UInt8) (h : Int), 0 ≤ h → h < 2147483647 → 0 ≤ l.foldl dstep h ∧ l.foldl dstep h < 2147483647
  | [], h, h0, h1 => ⟨h0, h1⟩
  | b :: l, h, h0, h1 => dfold_in l _ (dstep_in h0).1 (dstep_in h0).2
theorem dg_in (s : ByteArray) : 0 ≤ dg s ∧ dg s < 2147483647 := dfold_in _ 1 (by decide) (by decide)
theorem bt_data {s : ByteArray} {i : Nat} {b : UInt8} (h : s.data.toList[i]? = some b) : bt s (i : Int) = (b.toNat : Int) := by
  obtain ⟨hi, rfl⟩ := List.getElem?_eq_some_iff.1 h
  have hs : i < s.size := by rw [← size_data]; exact hi
  unfold bt
  rw [dif_pos (by simpa using hs)]
  simp [ByteArray.getElem_eq_getElem_data]
theorem dwrap {h v : Int} (h0 : 0 ≤ h) (h1 : h < 2147483647) (v0 : 0 ≤ v) (v1 : v ≤ 255) : wrap64 ((wrap64 ((wrap64 (h * 1000003)) + (wrap64 v))) + 1) = h * 1000003 + v + 1 := by
  rw [w64 (x := h * 1000003) (by omega) (by omega), w64 (x := v) (by omega) (by omega), w64 (x := h * 1000003 + v) (by omega) (by omega), w64 (by omega) (by omega)]
theorem sdig_l0 (s : ByteArray) (hs : s.size < 9223372036854775807) : ∀ (d i : Nat) (h : Int), i + d = s.size → 0 ≤ h → h < 2147483647 → Ev (fun k => spec_Digest.l0 k s h i) ((s.data.toList.drop i).foldl dstep h)
  | 0, i, h, hi, _, _ => by
    refine Ev.succ ?_
    simp only [spec_Digest.l0]
    refine Ev.neg (by omega) ?_
    rw [List.drop_of_length_le (by rw [size_data]; omega)]
    exact Ev.now _
  | d + 1, i, h, hi, h0, h1 => by
    obtain ⟨b, hb⟩ := get_some (l := s.data.toList) (i := i) (by rw [size_data]; omega)
    have hr := bt_range s i
    refine Ev.succ ?_
    simp only [spec_Digest.l0]
    refine Ev.pos (by omega) (Ev.pos (by omega) ?_)
    rw [dwrap h0 h1 hr.1 hr.2, bt_data hb, w64 (x := (i : Int) + 1) (by omega) (by omega), cast_succ]
    have := sdig_l0 s hs d (i + 1) (dstep h b) (by omega) (dstep_in h0).1 (dstep_in h0).2
    obtain ⟨hi', rfl⟩ := List.getElem?_eq_some_iff.1 hb
    rw [List.drop_eq_getElem_cons hi']
    exact this
theorem idig_l0 (s : ByteArray) (hs : s.size < 9223372036854775807) : ∀ (d i : Nat) (h : Int), i + d = s.size → 0 ≤ h → h < 2147483647 → Ev (fun k => impl_Digest.l0 k s h (s.size : Int) i) ((s.data.toList.drop i).foldl dstep h)
  | 0, i, h, hi, _, _ => by
    refine Ev.succ ?_
    simp only [impl_Digest.l0]
    refine Ev.neg (by omega) ?_
    rw [List.drop_of_length_le (by rw [size_data]; omega)]
    exact Ev.now _
  | d + 1, i, h, hi, h0, h1 => by
    obtain ⟨b, hb⟩ := get_some (l := s.data.toList) (i := i) (by rw [size_data]; omega)
    have hr := bt_range s i
    refine Ev.succ ?_
    simp only [impl_Digest.l0]
    refine Ev.pos (by omega) (Ev.pos (by omega) (Ev.pos (by omega) ?_))
    rw [dwrap h0 h1 hr.1 hr.2, bt_data hb, w64 (x := (i : Int) + 1) (by omega) (by omega), cast_succ]
    have := idig_l0 s hs d (i + 1) (dstep h b) (by omega) (dstep_in h0).1 (dstep_in h0).2
    obtain ⟨hi', rfl⟩ := List.getElem?_eq_some_iff.1 hb
    rw [List.drop_eq_getElem_cons hi']
    exact this
theorem sdig_ev (s : ByteArray) (hs : s.size < 9223372036854775807) : Ev (fun k => spec_Digest.f k s) (dg s) := sdig_l0 s hs s.size 0 1 (by omega) (by decide) (by decide)
theorem idig_ev (s : ByteArray) (hs : s.size < 9223372036854775807) : Ev (fun k => impl_Digest.f k s) (dg s) := idig_l0 s hs s.size 0 1 (by omega) (by decide) (by decide)

def ballot (v n : Int) : ByteArray := (((⟨#[118, 111, 116, 101, 32]⟩ : ByteArray) ++ bs (Lib.itoa v)) ++ (⟨#[32]⟩ : ByteArray)) ++ bs (Lib.itoa n)
def tagText (b : Int) (t : ByteArray) : ByteArray := (((⟨#[115, 101, 99, 114, 101, 116]⟩ : ByteArray) ++ bs (Lib.itoa b)) ++ (⟨#[47]⟩ : ByteArray)) ++ t
theorem l1 : (⟨#[118, 111, 116, 101, 32]⟩ : ByteArray).size = 5 := rfl
theorem l2 : (⟨#[32]⟩ : ByteArray).size = 1 := rfl
theorem l3 : (⟨#[115, 101, 99, 114, 101, 116]⟩ : ByteArray).size = 6 := rfl
theorem l4 : (⟨#[47]⟩ : ByteArray).size = 1 := rfl
abbrev i64 (x : Int) : Prop := -9223372036854775808 ≤ x ∧ x ≤ 9223372036854775807
theorem ballot_len (v n : Int) (hv : i64 v) (hn : i64 n) : (ballot v n).size ≤ 50 := by
  unfold ballot
  have z1 := itoa_len v hv.1 hv.2
  have z2 := itoa_len n hn.1 hn.2
  simp only [ByteArray.size_append, l1, l2]; omega
theorem sballot (v n : Int) (hv : i64 v) (hn : i64 n) : Ev (fun k => spec_l15Ballot.f k v n) (ballot v n) := by
  unfold spec_l15Ballot.f ballot
  have z1 := itoa_len v hv.1 hv.2
  have z2 := itoa_len n hn.1 hn.2
  exact Ev.bind (int_ev v hv.1 hv.2) (Ev.pos (by omega) (Ev.pos (by simp only [ByteArray.size_append, l1, l2, l3, l4]; omega) (Ev.bind (int_ev n hn.1 hn.2) (Ev.pos (by simp only [ByteArray.size_append, l1, l2, l3, l4]; omega) (Ev.now _)))))
theorem iballot (v n : Int) (hv : i64 v) (hn : i64 n) : impl_ballot.f v n = some (ballot v n) := by
  unfold impl_ballot.f ballot
  have z1 := itoa_len v hv.1 hv.2
  have z2 := itoa_len n hn.1 hn.2
  simp only [dec_some v hv.1 hv.2, dec_some n hn.1 hn.2, Option.bind_some]
  rw [if_pos (by omega), if_pos (by simp only [ByteArray.size_append, l1, l2, l3, l4]; omega), if_pos (by simp only [ByteArray.size_append, l1, l2, l3, l4]; omega)]
theorem stag (b : Int) (t : ByteArray) (hb : i64 b) (ht : t.size ≤ 1000) : Ev (fun k => spec_l2Tag.f k b t) (dg (tagText b t)) := by
  unfold spec_l2Tag.f tagText
  have z1 := itoa_len b hb.1 hb.2
  exact Ev.bind (int_ev b hb.1 hb.2) (Ev.pos (by omega) (Ev.pos (by simp only [ByteArray.size_append, l1, l2, l3, l4]; omega) (Ev.pos (by simp only [ByteArray.size_append, l1, l2, l3, l4]; omega) (Ev.bind (sdig_ev _ (by simp only [ByteArray.size_append, l1, l2, l3, l4]; omega)) (Ev.now _)))))
theorem itag (b : Int) (t : ByteArray) (h0 : 0 ≤ b) (h1 : b ≤ 6) (ht : t.size ≤ 1000) : Ev (fun k => impl_Tag.f k b t) (dg (tagText b t)) := by
  unfold impl_Tag.f tagText
  have z1 := itoa_len b (by omega) (by omega)
  have e : impl_isServer.f b = some true := by unfold impl_isServer.f impl_within.f; rw [if_pos (by omega)]; simp; omega
  refine Ev.bind (Ev.const e) (Ev.pos rfl (Ev.bind (Ev.const (dec_some b (by omega) (by omega))) (Ev.pos (by omega) (Ev.pos (by simp only [ByteArray.size_append, l1, l2, l3, l4]; omega) (Ev.pos (by simp only [ByteArray.size_append, l1, l2, l3, l4]; omega) (Ev.bind (idig_ev _ (by simp only [ByteArray.size_append, l1, l2, l3, l4]; omega)) (Ev.now _)))))))
theorem within_eq (a b c : Int) : impl_within.f a b c = some (decide (b ≤ a ∧ a ≤ c)) := by
  unfold impl_within.f
  by_cases h : a ≥ b
  · rw [if_pos h]; congr 1; simp; omega
  · rw [if_neg h]; congr 1; simp; omega
theorem in_eq (a b c : Int) : spec_l1In.f a b c = some (decide (b ≤ a ∧ a ≤ c)) := within_eq a b c

theorem quorum_eq (n : Int) : impl_Quorum.f n = some (if n = 1 then 1 else if n = 4 then 3 else if n = 7 then 5 else -1) := by
  unfold impl_Quorum.f
  by_cases h1 : n = 1
  · subst h1; decide +kernel
  · by_cases h4 : n = 4
    · subst h4; decide +kernel
    · by_cases h7 : n = 7
      · subst h7; decide +kernel
      · rw [if_neg h1, if_neg h4, if_neg h7, if_neg h1, if_neg h4, if_neg h7]
theorem servers_eq (n : Int) : spec_l15Servers.f n = some (decide (n = 1 ∨ n = 4 ∨ n = 7)) := by
  unfold spec_l15Servers.f
  by_cases h1 : n = 1
  · subst h1; decide +kernel
  · by_cases h4 : n = 4
    · subst h4; decide +kernel
    · by_cases h7 : n = 7
      · subst h7; decide +kernel
      · rw [if_neg h1, if_neg h4]; simp [h1, h4, h7]
/-- What both say of a vote. -/
def okVote (v n b t m : Int) : Bool := if (m = 1 ∨ m = 4 ∨ m = 7) ∧ (0 ≤ b ∧ b ≤ m - 1) ∧ (1 ≤ v ∧ v ≤ 100000) ∧ (0 ≤ n ∧ n ≤ 2147483646) then dg (tagText b (ballot v n)) == t else false
theorem svote (v n b t m : Int) (hb : i64 b) (hm : i64 m) : Ev (fun k => spec_VoteOk.f k v n b t m) (okVote v n b t m) := by
  unfold spec_VoteOk.f okVote spec_l15Name.f
  simp only [servers_eq, in_eq, Option.bind_some]
  by_cases c0 : m = 1 ∨ m = 4 ∨ m = 7
  · rw [w64 (by omega) (by omega)]
    refine Ev.pos (by simpa using c0) ?_
    by_cases c1 : 0 ≤ b ∧ b ≤ m - 1
    · refine Ev.pos (by simpa using c1) ?_
      by_cases c2 : 1 ≤ v ∧ v ≤ 100000
      · refine Ev.pos (by simpa using c2) ?_
        by_cases c3 : 0 ≤ n ∧ n ≤ 2147483646
        · refine Ev.pos (by simpa using c3) ?_
          rw [if_pos ⟨c0, c1, c2, c3⟩]
          have hv : i64 v := ⟨by omega, by omega⟩
          have hn : i64 n := ⟨by omega, by omega⟩
          have hl := ballot_len v n hv hn
          unfold spec_l15Voted.f
          refine Ev.bind (Ev.bind (sballot v n hv hn) (Ev.bind (stag b _ hb (by omega)) (Ev.now _))) ?_
          simp only [beq_self_eq_true, Bool.true_and]
          exact Ev.now _
        · rw [if_neg (fun h => c3 h.2.2.2)]
          exact Ev.neg (by simpa using c3) (Ev.now _)
      · rw [if_neg (fun h => c2 h.2.2.1)]
        exact Ev.neg (by simpa using c2) (Ev.now _)
    · rw [if_neg (fun h => c1 h.2.1)]
      exact Ev.neg (by simpa using c1) (Ev.now _)
  · rw [if_neg (show ¬((m = 1 ∨ m = 4 ∨ m = 7) ∧ (0 ≤ b ∧ b ≤ m - 1) ∧ (1 ≤ v ∧ v ≤ 100000) ∧ (0 ≤ n ∧ n ≤ 2147483646)) from fun h => c0 h.1)]
    exact Ev.neg (by simpa using c0) (Ev.now _)
theorem ivote (v n b t m : Int) (hm : i64 m) : Ev (fun k => impl_VoteOk.f k v n b t m) (okVote v n b t m) := by
  unfold impl_VoteOk.f okVote impl_isView.f impl_isName.f
  simp only [quorum_eq, within_eq, Option.bind_some]
  by_cases c0 : m = 1 ∨ m = 4 ∨ m = 7
  · rw [w64 (by omega) (by omega)]
    refine Ev.pos (by rcases c0 with h | h | h <;> subst h <;> decide) ?_
    by_cases c1 : 0 ≤ b ∧ b ≤ m - 1
    · refine Ev.pos (by simpa using c1) ?_
      by_cases c2 : 1 ≤ v ∧ v ≤ 100000
      · refine Ev.pos (by simpa using c2) ?_
        by_cases c3 : 0 ≤ n ∧ n ≤ 2147483646
        · refine Ev.pos (by simpa using c3) ?_
          rw [if_pos ⟨c0, c1, c2, c3⟩]
          have hv : i64 v := ⟨by omega, by omega⟩
          have hn : i64 n := ⟨by omega, by omega⟩
          have hl := ballot_len v n hv hn
          unfold impl_Signed.f
          have hd := dg_in (tagText b (ballot v n))
          refine Ev.bind (Ev.const (iballot v n hv hn)) ?_
          by_cases ht : t = -1
          · refine Ev.bind (Ev.pos ht (Ev.now _)) ?_
            rw [show (dg (tagText b (ballot v n)) == t) = false by simp; omega]
            exact Ev.now _
          · refine Ev.bind (Ev.neg ht (Ev.bind (itag b _ (by omega) (by omega) (by omega)) (Ev.now _))) ?_
            rw [show (t == dg (tagText b (ballot v n))) = (dg (tagText b (ballot v n)) == t) from Bool.beq_comm ..]
            exact Ev.now _
        · rw [if_neg (fun h => c3 h.2.2.2)]
          exact Ev.neg (by simpa using c3) (Ev.now _)
      · rw [if_neg (fun h => c2 h.2.2.1)]
        exact Ev.neg (by simpa using c2) (Ev.now _)
    · rw [if_neg (fun h => c1 h.2.1)]
      exact Ev.neg (by simpa using c1) (Ev.now _)
  · rw [if_neg (show ¬((m = 1 ∨ m = 4 ∨ m = 7) ∧ (0 ≤ b ∧ b ≤ m - 1) ∧ (1 ≤ v ∧ v ≤ 100000) ∧ (0 ≤ n ∧ n ≤ 2147483646)) from fun h => c0 h.1)]
    refine Ev.neg ?_ (Ev.now _)
    rw [if_neg (fun h => c0 (Or.inl h)), if_neg (fun h => c0 (Or.inr (Or.inl h))), if_neg (fun h => c0 (Or.inr (Or.inr h)))]
    decide

theorem loop_ev (v n m : Int) (bys ts : List Int) (hm : i64 m) (hb : okList (okInt .i64) bys) (hl : bys.length = ts.length) (hz : bys.length ≤ 1048576) : ∀ (d i : Nat), i + d = bys.length → ∃ r, Ev (fun k => spec_ProofOk.l0 k m i v n bys ts) r ∧ Ev (fun k => impl_ProofOk.l0 k m bys (bys.length : Int) i v n bys ts) r
  | 0, i, hi => by
    refine ⟨true, Ev.succ ?_, Ev.succ ?_⟩
    · simp only [spec_ProofOk.l0]
      exact Ev.neg (by omega) (Ev.now _)
    · simp only [impl_ProofOk.l0]
      exact Ev.neg (by omega) (Ev.now _)
  | d + 1, i, hi => by
    obtain ⟨x, hx⟩ := get_some (l := bys) (i := i) (by omega)
    obtain ⟨t, ht⟩ := get_some (l := ts) (i := i) (by omega)
    obtain ⟨r, h1, h2⟩ := loop_ev v n m bys ts hm hb hl hz d (i + 1) (by omega)
    have s1 := svote v n x t m (bound_i64 (all_get hb.2 hx)) hm
    have i1 := ivote v n x t m hm
    have key : ∃ r, Ev (fun k => spec_ProofOk.l0 (k + 1) m i v n bys ts) r ∧ Ev (fun k => impl_ProofOk.l0 (k + 1) m bys (bys.length : Int) i v n bys ts) r := by
      simp only [spec_ProofOk.l0, impl_ProofOk.l0, rd_get hx, rd_get ht]
      rw [w64 (x := (i : Int) + 1) (by omega) (by omega), w64 (x := (i : Int) - 1) (by omega) (by omega), cast_succ]
      cases hv : okVote v n x t m with
      | false =>
        rw [hv] at s1 i1
        refine ⟨false, Ev.pos (by omega) (Ev.pos (by omega) (Ev.pos (by omega) (Ev.bind s1 (Ev.neg (by decide) (Ev.now _))))), Ev.pos (by omega) (Ev.pos (by omega) (Ev.pos (by omega) ?_))⟩
        by_cases h0 : (i : Int) > 0
        · refine Ev.pos h0 (Ev.pos (by omega) (Ev.pos (by omega) ?_))
          by_cases hc : rd bys ((i : Int) - 1) ≥ x
          · exact Ev.pos hc (Ev.now _)
          · exact Ev.neg hc (Ev.pos (by omega) (Ev.bind i1 (Ev.neg (by decide) (Ev.now _))))
        · exact Ev.neg h0 (Ev.pos (by omega) (Ev.bind i1 (Ev.neg (by decide) (Ev.now _))))
      | true =>
        rw [hv] at s1 i1
        by_cases h0 : (i : Int) > 0
        · by_cases hc : rd bys ((i : Int) - 1) ≥ x
          · exact ⟨false, Ev.pos (by omega) (Ev.pos (by omega) (Ev.pos (by omega) (Ev.bind s1 (Ev.pos rfl (Ev.pos h0 (Ev.pos (by omega) (Ev.pos (by omega) (Ev.pos (by omega) (Ev.now _))))))))), Ev.pos (by omega) (Ev.pos (by omega) (Ev.pos (by omega) (Ev.pos h0 (Ev.pos (by omega) (Ev.pos (by omega) (Ev.pos hc (Ev.now _)))))))⟩
          · exact ⟨r, Ev.pos (by omega) (Ev.pos (by omega) (Ev.pos (by omega) (Ev.bind s1 (Ev.pos rfl (Ev.pos h0 (Ev.pos (by omega) (Ev.pos (by omega) (Ev.neg (by omega) h1)))))))), Ev.pos (by omega) (Ev.pos (by omega) (Ev.pos (by omega) (Ev.pos h0 (Ev.pos (by omega) (Ev.pos (by omega) (Ev.neg hc (Ev.pos (by omega) (Ev.bind i1 (Ev.pos rfl h2)))))))))⟩
        · exact ⟨r, Ev.pos (by omega) (Ev.pos (by omega) (Ev.pos (by omega) (Ev.bind s1 (Ev.pos rfl (Ev.neg h0 h1))))), Ev.pos (by omega) (Ev.pos (by omega) (Ev.pos (by omega) (Ev.neg h0 (Ev.pos (by omega) (Ev.bind i1 (Ev.pos rfl h2))))))⟩
    obtain ⟨r, k1, k2⟩ := key
    exact ⟨r, Ev.succ k1, Ev.succ k2⟩
theorem loop_bad (v n m : Int) (bys ts : List Int) (hm : i64 m) (hl : bys.length = ts.length) (h0 : 0 < bys.length) (hz : bys.length ≤ 1048576) (hc : ¬ ((1 ≤ v ∧ v ≤ 100000) ∧ (0 ≤ n ∧ n ≤ 2147483646))) : Ev (fun k => impl_ProofOk.l0 k m bys (bys.length : Int) 0 v n bys ts) false := by
  obtain ⟨x, hx⟩ := get_some (l := bys) (i := 0) (by omega)
  obtain ⟨t, ht⟩ := get_some (l := ts) (i := 0) (by omega)
  have i1 := ivote v n x t m hm
  have hv : okVote v n x t m = false := by
    unfold okVote
    rw [if_neg (fun h => hc h.2.2)]
  rw [hv] at i1
  have e1 : rd bys 0 = x := rd_get (i := 0) hx
  have e2 : rd ts 0 = t := rd_get (i := 0) ht
  refine Ev.succ ?_
  simp only [impl_ProofOk.l0, e1, e2]
  exact Ev.pos (by omega) (Ev.pos (by omega) (Ev.pos (by omega) (Ev.neg (by omega) (Ev.pos (by omega) (Ev.bind i1 (Ev.neg (by decide) (Ev.now _)))))))
def qm (m : Int) : Int := if m = 1 then 1 else if m = 4 then 3 else if m = 7 then 5 else -1
theorem iq (m : Int) : impl_Quorum.f m = some (qm m) := quorum_eq m
theorem sq (m : Int) (h : m = 1 ∨ m = 4 ∨ m = 7) : spec_Quorum.f m = some (qm m) := by
  unfold spec_Quorum.f
  rw [servers_eq]
  rcases h with h | h | h <;> subst h <;> decide +kernel
theorem qm_pos {m : Int} (h : m = 1 ∨ m = 4 ∨ m = 7) : 1 ≤ qm m := by rcases h with h | h | h <;> subst h <;> decide
theorem qm_neg {m : Int} (h : ¬ (m = 1 ∨ m = 4 ∨ m = 7)) : qm m = -1 := by
  unfold qm
  rw [if_neg (fun e => h (Or.inl e)), if_neg (fun e => h (Or.inr (Or.inl e))), if_neg (fun e => h (Or.inr (Or.inr e)))]
def isF (v n : Int) (bys ts : List Int) : Bool := decide (v = 0 ∧ n = 0 ∧ bys.length = 0 ∧ ts.length = 0)
theorem sF (v n : Int) (bys ts : List Int) (h1 : bys.length ≤ 1048576) (h2 : ts.length ≤ 1048576) : spec_l15First.f v n bys ts = some (isF v n bys ts) := by
  unfold spec_l15First.f isF
  rw [w64 (by omega) (by omega)]
  by_cases c1 : v = 0
  · by_cases c2 : n = 0
    · rw [if_pos c1, if_pos c2]; congr 1; rw [Bool.eq_iff_iff, beq_iff_eq, decide_eq_true_iff]; omega
    · rw [if_pos c1, if_neg c2]; simp [c2]
  · rw [if_neg c1]; simp [c1]
theorem iF (v n : Int) (bys ts : List Int) : impl_Proof_isFirst.f v n bys ts = some (isF v n bys ts) := by
  unfold impl_Proof_isFirst.f isF
  by_cases c1 : v = 0
  · by_cases c2 : n = 0
    · rw [if_pos c1, if_pos c2]
      by_cases c3 : (bys.length : Int) = 0
      · rw [if_pos c3]; congr 1; rw [Bool.eq_iff_iff, beq_iff_eq, decide_eq_true_iff]; omega
      · rw [if_neg c3]; congr 1; symm; exact decide_eq_false (by omega)
    · rw [if_pos c1, if_neg c2]; simp [c2]
  · rw [if_neg c1]; simp [c1]
theorem proof_ev (v n m : Int) (bys ts : List Int) (hm : i64 m) (hb : okList (okInt .i64) bys) (h1 : bys.length ≤ 1048576) (h2 : ts.length ≤ 1048576) : ∃ r, Ev (fun k => spec_ProofOk.f k v n bys ts m) r ∧ Ev (fun k => impl_ProofOk.f k v n bys ts m) r := by
  unfold spec_ProofOk.f impl_ProofOk.f spec_l15Name.f
  simp only [servers_eq, iq, sF v n bys ts h1 h2, iF, in_eq, Option.bind_some]
  by_cases c0 : m = 1 ∨ m = 4 ∨ m = 7
  · have hq := qm_pos c0
    simp only [sq m c0, Option.bind_some]
    cases hF : isF v n bys ts with
    | true =>
      refine ⟨true, Ev.pos (by simpa using c0) (Ev.pos rfl (Ev.now _)), Ev.neg (by omega) (Ev.succ ?_)⟩
      simp only [impl_ProofOk.j0]
      rw [show decide (qm m > 0) = true by simp; omega]
      exact Ev.pos (by trivial) (Ev.now _)
    | false =>
      have sbad : ∀ b, b = true → Ev (fun k => spec_ProofOk.j0 k m b v n bys ts) false := by
        intro b hb'
        refine Ev.succ ?_
        simp only [spec_ProofOk.j0]
        exact Ev.pos hb' (Ev.now _)
      have ibad : ∀ b, b = true → Ev (fun k => impl_ProofOk.j1 k m b v n bys ts) false := by
        intro b hb'
        refine Ev.succ ?_
        simp only [impl_ProofOk.j1]
        exact Ev.pos hb' (Ev.now _)
      -- what comes behind the first test
      have rest : ∃ r, Ev (fun k => if (bys.length : Int) < qm m then spec_ProofOk.j0 k m true v n bys ts else spec_ProofOk.j0 k m ((bys.length : Int) != (ts.length : Int)) v n bys ts) r ∧ Ev (fun k => if (bys.length : Int) < qm m then impl_ProofOk.j1 k m true v n bys ts else impl_ProofOk.j1 k m ((ts.length : Int) != (bys.length : Int)) v n bys ts) r := by
        by_cases c3 : (bys.length : Int) < qm m
        · exact ⟨false, Ev.pos c3 (sbad _ rfl), Ev.pos c3 (ibad _ rfl)⟩
        · by_cases c4 : bys.length = ts.length
          · obtain ⟨r, e1, e2⟩ := loop_ev v n m bys ts hm hb c4 h1 bys.length 0 (by omega)
            refine ⟨r, Ev.neg c3 (Ev.succ ?_), Ev.neg c3 (Ev.succ ?_)⟩
            · simp only [spec_ProofOk.j0]
              exact Ev.neg (by simp [c4]) e1
            · simp only [impl_ProofOk.j1]
              exact Ev.neg (by simp [c4]) e2
          · exact ⟨false, Ev.neg c3 (sbad _ (by simp; omega)), Ev.neg c3 (ibad _ (by simp; omega))⟩
      have irest : ∀ r, Ev (fun k => if (bys.length : Int) < qm m then impl_ProofOk.j1 k m true v n bys ts else impl_ProofOk.j1 k m ((ts.length : Int) != (bys.length : Int)) v n bys ts) r → Ev (fun k => impl_ProofOk.j0 k m (qm m) false v n bys ts) r := by
        intro r h
        refine Ev.succ ?_
        simp only [impl_ProofOk.j0]
        exact Ev.neg (by decide) h
      by_cases hc : (1 ≤ v ∧ v ≤ 100000) ∧ (0 ≤ n ∧ n ≤ 2147483646)
      · obtain ⟨r, e1, e2⟩ := rest
        exact ⟨r, Ev.pos (by simpa using c0) (Ev.neg (by decide) (Ev.pos (by simpa using hc.1) (Ev.pos (by simpa using hc.2) e1))), Ev.neg (by omega) (irest r e2)⟩
      · refine ⟨false, Ev.pos (by simpa using c0) (Ev.neg (by decide) ?_), Ev.neg (by omega) (irest false ?_)⟩
        · by_cases c1 : 1 ≤ v ∧ v ≤ 100000
          · exact Ev.pos (by simpa using c1) (Ev.neg (by simpa using fun h1 => (fun h2 => hc ⟨c1, h1, h2⟩)) (sbad _ rfl))
          · exact Ev.neg (by simpa using c1) (sbad _ rfl)
        · by_cases c3 : (bys.length : Int) < qm m
          · exact Ev.pos c3 (ibad _ rfl)
          · by_cases c4 : bys.length = ts.length
            · refine Ev.neg c3 (Ev.succ ?_)
              simp only [impl_ProofOk.j1]
              exact Ev.neg (by simp [c4]) (loop_bad v n m bys ts hm c4 (by omega) h1 hc)
            · exact Ev.neg c3 (ibad _ (by simp; omega))
  · have hq := qm_neg c0
    refine ⟨false, Ev.neg (by simpa using c0) (Ev.now _), Ev.pos (by omega) (Ev.succ ?_)⟩
    simp only [impl_ProofOk.j0]
    rw [show decide (qm m > 0) = false by simp; omega]
    exact Ev.pos (by trivial) (Ev.now _)

theorem Ev.rpos {α : Type} {c : Prop} [Decidable c] {g : Nat → Option α} {x y : α} (h : c) (k : Ev g x) : Ev g (if c then x else y) := by rw [if_pos h]; exact k
theorem Ev.rneg {α : Type} {c : Prop} [Decidable c] {g : Nat → Option α} {x y : α} (h : ¬ c) (k : Ev g y) : Ev g (if c then x else y) := by rw [if_neg h]; exact k
theorem moves_l0 (l : List ByteArray) (hz : l.length ≤ 1048576) : ∀ (d i : Nat), i + d = l.length → Ev (fun k => spec_l15Moves.l0 k l i) (!((l.drop i).any fun s => decide ((s.size : Int) > 60)))
  | 0, i, hi => by
    refine Ev.succ ?_
    simp only [spec_l15Moves.l0]
    refine Ev.neg (by omega) ?_
    rw [List.drop_of_length_le (by omega)]
    exact Ev.now _
  | d + 1, i, hi => by
    obtain ⟨s, hs⟩ := get_some (l := l) (i := i) (by omega)
    have ih := moves_l0 l hz d (i + 1) (by omega)
    obtain ⟨hi', rfl⟩ := List.getElem?_eq_some_iff.1 hs
    rw [List.drop_eq_getElem_cons hi', List.any_cons]
    refine Ev.succ ?_
    simp only [spec_l15Moves.l0, rdOf_get hs]
    rw [w64 (by omega) (by omega), cast_succ]
    refine Ev.pos (by omega) (Ev.pos (by omega) ?_)
    by_cases h : (l[i].size : Int) > 60
    · rw [show decide ((l[i].size : Int) > 60) = true from decide_eq_true h, Bool.true_or]
      exact Ev.pos h (Ev.now _)
    · rw [show decide ((l[i].size : Int) > 60) = false from decide_eq_false h, Bool.false_or]
      exact Ev.neg h ih
def okMoves (l : List ByteArray) : Bool := if (l.length : Int) ≤ 10 then !(l.any fun s => decide ((s.size : Int) > 60)) else false
theorem moves_ev (l : List ByteArray) (hz : l.length ≤ 1048576) : Ev (fun k => spec_l15Moves.f k l) (okMoves l) := by
  unfold spec_l15Moves.f okMoves
  by_cases h : (l.length : Int) ≤ 10
  · rw [if_pos h]
    exact Ev.neg (by omega) (moves_l0 l hz l.length 0 (by omega))
  · rw [if_neg h]
    exact Ev.pos (by omega) (Ev.now _)
theorem block_ev (v p pv pn by_ m : Int) (bys ts : List Int) (mv : List ByteArray) (hm : i64 m) (hb : okList (okInt .i64) bys) (h1 : bys.length ≤ 1048576) (h2 : ts.length ≤ 1048576) (h3 : mv.length ≤ 1048576) : ∃ r, Ev (fun k => spec_BlockOk.f k v p pv pn bys ts mv by_ m) r ∧ Ev (fun k => impl_BlockOk.f k v p pv pn bys ts mv by_ m) r := by
  obtain ⟨t, s1, i1⟩ := proof_ev pv pn m bys ts hm hb h1 h2
  unfold spec_BlockOk.f impl_BlockOk.f impl_isView.f
  simp only [servers_eq, within_eq, in_eq, Option.bind_some]
  by_cases c0 : m = 1 ∨ m = 4 ∨ m = 7
  · have m0 : ¬ m = 0 := by omega
    cases t with
    | false =>
      refine ⟨false, Ev.pos (by simpa using c0) ?_, Ev.bind i1 (Ev.neg (by decide) (Ev.now _))⟩
      by_cases c1 : 1 ≤ v ∧ v ≤ 100000
      · refine Ev.pos (by simpa using c1) (Ev.neg m0 ?_)
        by_cases c2 : by_ = Int.tmod v m
        · exact Ev.pos c2 (Ev.bind s1 (Ev.neg (by decide) (Ev.now _)))
        · exact Ev.neg c2 (Ev.now _)
      · exact Ev.neg (by simpa using c1) (Ev.now _)
    | true =>
      by_cases c1 : 1 ≤ v ∧ v ≤ 100000
      · by_cases c2 : by_ = Int.tmod v m
        · by_cases c3 : pv < v
          · by_cases c4 : p = pn
            · refine ⟨okMoves mv, Ev.pos (by simpa using c0) (Ev.pos (by simpa using c1) (Ev.neg m0 (Ev.pos c2 (Ev.bind s1 (Ev.pos rfl (Ev.pos c3 (Ev.pos c4 (Ev.bind (moves_ev mv h3) (Ev.now _))))))))), Ev.bind i1 (Ev.pos rfl (Ev.pos (by simpa using c1) (Ev.pos c3 (Ev.pos c4 (Ev.neg m0 (Ev.pos c2 ?_))))))⟩
              unfold okMoves slices_ContainsFunc_string_string.f
              by_cases c5 : (mv.length : Int) ≤ 10
              · exact Ev.pos c5 (Ev.rpos c5 (Ev.bind (Ev.now _) (Ev.now _)))
              · exact Ev.neg c5 (Ev.rneg c5 (Ev.now _))
            · exact ⟨false, Ev.pos (by simpa using c0) (Ev.pos (by simpa using c1) (Ev.neg m0 (Ev.pos c2 (Ev.bind s1 (Ev.pos rfl (Ev.pos c3 (Ev.neg c4 (Ev.now _)))))))), Ev.bind i1 (Ev.pos rfl (Ev.pos (by simpa using c1) (Ev.pos c3 (Ev.neg c4 (Ev.now _)))))⟩
          · exact ⟨false, Ev.pos (by simpa using c0) (Ev.pos (by simpa using c1) (Ev.neg m0 (Ev.pos c2 (Ev.bind s1 (Ev.pos rfl (Ev.neg c3 (Ev.now _))))))), Ev.bind i1 (Ev.pos rfl (Ev.pos (by simpa using c1) (Ev.neg c3 (Ev.now _))))⟩
        · refine ⟨false, Ev.pos (by simpa using c0) (Ev.pos (by simpa using c1) (Ev.neg m0 (Ev.neg c2 (Ev.now _)))), Ev.bind i1 (Ev.pos rfl (Ev.pos (by simpa using c1) ?_))⟩
          by_cases c3 : pv < v
          · by_cases c4 : p = pn
            · exact Ev.pos c3 (Ev.pos c4 (Ev.neg m0 (Ev.neg c2 (Ev.now _))))
            · exact Ev.pos c3 (Ev.neg c4 (Ev.now _))
          · exact Ev.neg c3 (Ev.now _)
      · exact ⟨false, Ev.pos (by simpa using c0) (Ev.neg (by simpa using c1) (Ev.now _)), Ev.bind i1 (Ev.pos rfl (Ev.neg (by simpa using c1) (Ev.now _)))⟩
  · have sf : Ev (fun k => spec_ProofOk.f k pv pn bys ts m) false := by
      unfold spec_ProofOk.f
      simp only [servers_eq, Option.bind_some]
      exact Ev.neg (by simpa using c0) (Ev.now _)
    obtain rfl := Ev.uniq s1 sf
    exact ⟨false, Ev.neg (by simpa using c0) (Ev.now _), Ev.bind i1 (Ev.neg (by decide) (Ev.now _))⟩
theorem FnExactBlockOk : laws_FnExactBlockOk.Pure := by
  intro v p pv pn bys ts mv by_ m hv hp hpv hpn hb ht hmv hby hm
  refine Ev.rounds (g := fun k => laws_FnExactBlockOk.f k v p pv pn bys ts mv by_ m) ?_
  unfold laws_FnExactBlockOk.f
  obtain ⟨t, e, l0, l1, hs⟩ := laws_szBlock_ev v p pv pn bys ts mv by_ 1048576 (by omega) (by omega) hv hp hpv hpn hb ht hmv hby
  refine Ev.bind e ?_
  by_cases hlt : t < 0
  · exact Ev.pos hlt (Ev.now _)
  · refine Ev.neg hlt ?_
    obtain ⟨_, _, _, _, sb, st, sm, _⟩ := hs (by omega)
    have hto := laws_toBlock_ev v p pv pn bys ts mv by_ trivial trivial trivial trivial sb st sm trivial
    have heq := laws_eqBlock_ev v p pv pn bys ts mv by_ trivial trivial trivial trivial ⟨by have := sb.1; omega, fun _ _ => trivial⟩ ⟨by have := st.1; omega, fun _ _ => trivial⟩ ⟨by have := sm.1; omega, fun _ _ => trivial⟩ trivial
    obtain ⟨r, e1, e2⟩ := block_ev v p pv pn by_ m bys ts mv (bound_i64 hm) hb sb.1 st.1 sm.1
    exact Ev.bind hto (Ev.bind e1 (Ev.bind hto (Ev.bind e2 (Ev.neg (by simp) (Ev.bind hto (Ev.bind heq (Ev.pos rfl (Ev.now _))))))))

end Go.Proofs.YtcegobkangpilaaDoor.Pure
