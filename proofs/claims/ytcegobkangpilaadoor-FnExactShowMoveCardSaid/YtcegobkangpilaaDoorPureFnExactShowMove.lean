/- The program's ShowMove returns what the reference's returns, for every move. No condition. -/
import Derived.Test.YtcegobkangpilaaDoorBoilFnExactShowMove
namespace Go.Proofs.YtcegobkangpilaaDoor.Pure
open Go.RowKit Go.Proofs.YtcegobkangpilaaDoor.PFnExactShowMove Go.Proofs.YtcegobkangpilaaDoorW.PrintWords Go.Proofs.YtcegobkangpilaaDoorW.PrintLast Go.Proofs.YtcegobkangpilaaDoorW.PrintMore
set_option maxRecDepth 100000
theorem bound_i64 {x : Int} (h : okInt .i64 x) : -9223372036854775808 ≤ x ∧ x ≤ 9223372036854775807 := by
  have h : (Lit.int .i64 x).wf = true := h
  simp [Lit.wf, IntKind.min, IntKind.max, IntKind.bits, IntKind.signed] at h
  omega
def bs (l : List UInt8) : ByteArray := ⟨l.toArray⟩
theorem bs_data (l : List UInt8) : (bs l).data.toList = l := by simp [bs]
theorem bs_of (s : ByteArray) : bs s.data.toList = s := by cases s; simp [bs]
theorem bs_app (a b : List UInt8) : bs a ++ bs b = bs (a ++ b) := by
  apply bytes_inj
  simp [bs, ByteArray.toList_eq, ByteArray.data_append]
theorem bs_size (l : List UInt8) : (bs l).size = l.length := by simp [bs, ByteArray.size]
theorem size_data (s : ByteArray) : s.data.toList.length = s.size := by simp only [ByteArray.size, Array.length_toList]
theorem tm_nat (m : Nat) : Int.tmod (m : Int) 10 = ((m % 10 : Nat) : Int) := rfl
theorem td_nat (m : Nat) : Int.tdiv (m : Int) 10 = ((m / 10 : Nat) : Int) := rfl
theorem dig_bytes (m : Nat) (v : Int) (s : ByteArray) (h : v = 48 + ((m % 10 : Nat) : Int)) : strOfNums [v % 256] ++ s = bs (UInt8.ofNat (48 + m % 10) :: s.data.toList) := by
  have e : (v % 256).toNat = 48 + m % 10 := by omega
  have e2 : strOfNums [v % 256] = bs [UInt8.ofNat (48 + m % 10)] := by simp [strOfNums, bs, e]
  rw [e2]
  conv => lhs; rhs; rw [← bs_of s]
  rw [bs_app]; rfl
theorem j1_step (n : Int) (s : ByteArray) (neg : Bool) (r : ByteArray) (h0 : -9223372036854775808 ≤ n) (h1 : n ≤ 9223372036854775807) (hs : s.size ≤ 1000)
    (h : Ev (fun k => spec_l2Int.l0 k (Int.tdiv n 10) (bs (UInt8.ofNat (48 + n.natAbs % 10) :: s.data.toList)) neg) r) : Ev (fun k => spec_l2Int.j1 k n s neg true) r := by
  refine Ev.succ ?_
  simp only [spec_l2Int.j1, Option.bind_some]
  refine Ev.pos (by trivial) ?_
  have sz : ∀ v : Int, (strOfNums [v]).size = 1 := fun v => by simp [strOfNums, ByteArray.size]
  simp only [sz]
  obtain ⟨m, hm | hm⟩ := Int.eq_nat_or_neg n
  · subst hm
    rw [tm_nat, td_nat] at *
    rw [Int.natAbs_natCast] at h
    refine Ev.neg (by omega) (Ev.pos (by omega) ?_)
    rw [w64 (by omega) (by omega), w64 (by omega) (by omega), dig_bytes m _ s rfl]
    exact h
  · subst hm
    rw [Int.neg_tmod, Int.neg_tdiv, tm_nat, td_nat] at *
    rw [Int.natAbs_neg, Int.natAbs_natCast] at h
    by_cases hz : m % 10 = 0
    · refine Ev.neg (by omega) (Ev.pos (by omega) ?_)
      rw [w64 (x := -((m / 10 : Nat) : Int)) (by omega) (by omega), w64 (by omega) (by omega), dig_bytes m _ s (by omega)]
      exact h
    · refine Ev.pos (by omega) (Ev.pos (by omega) ?_)
      rw [w64 (x := -((m / 10 : Nat) : Int)) (by omega) (by omega), w64 (x := -(-((m % 10 : Nat) : Int))) (by omega) (by omega), w64 (by omega) (by omega), dig_bytes m _ s (by omega)]
      exact h
def fin (neg : Bool) (s : ByteArray) : ByteArray := if neg = true then (⟨#[45]⟩ : ByteArray) ++ s else s
theorem l0_end (s : ByteArray) (neg : Bool) (h : s.toList ≠ []) (hs : s.size ≤ 1002) : Ev (fun k => spec_l2Int.l0 k 0 s neg) (fin neg s) := by
  refine Ev.succ ?_
  simp only [spec_l2Int.l0]
  refine Ev.neg h (Ev.succ ?_)
  simp only [spec_l2Int.j1, fin]
  refine Ev.neg (by simp) ?_
  cases neg with
  | true => exact Ev.pos rfl (Ev.pos (by omega) (Ev.now _))
  | false => exact Ev.neg (by decide) (Ev.now _)
theorem int_l0 : ∀ (d : Nat) (n : Int) (s : ByteArray) (neg : Bool), n.natAbs < 10 ^ (d + 1) → -9223372036854775808 ≤ n → n ≤ 9223372036854775807 → (s.toList = [] ∨ n ≠ 0) → s.size + d ≤ 1000 → Ev (fun k => spec_l2Int.l0 k n s neg) (fin neg (bs (Lib.decDigits n.natAbs ++ s.data.toList))) := by
  intro d
  induction d with
  | zero =>
    intro n s neg hd h0 h1 hn hs
    have hd' : n.natAbs < 10 := by simpa using hd
    have go : Ev (fun k => spec_l2Int.j1 k n s neg true) (fin neg (bs (Lib.decDigits n.natAbs ++ s.data.toList))) := by
      refine j1_step n s neg _ h0 h1 (by omega) ?_
      have e : Int.tdiv n 10 = 0 := by
        obtain ⟨m, hm | hm⟩ := Int.eq_nat_or_neg n
        · subst hm; rw [td_nat]; rw [Int.natAbs_natCast] at hd'; omega
        · subst hm; rw [Int.neg_tdiv, td_nat]; rw [Int.natAbs_neg, Int.natAbs_natCast] at hd'; omega
      rw [e, Lib.decDigits, dif_pos hd', Nat.mod_eq_of_lt hd']
      exact l0_end _ neg (by simp [bs, ByteArray.toList_eq]) (by rw [bs_size]; simp only [List.length_cons, size_data]; omega)
    refine Ev.succ ?_
    simp only [spec_l2Int.l0]
    by_cases he : s.toList = []
    · exact Ev.pos he go
    · have hb : (n != 0) = true := by simpa using hn.resolve_left he
      rw [hb]
      exact Ev.neg he go
  | succ d ih =>
    intro n s neg hd h0 h1 hn hs
    have go : Ev (fun k => spec_l2Int.j1 k n s neg true) (fin neg (bs (Lib.decDigits n.natAbs ++ s.data.toList))) := by
      refine j1_step n s neg _ h0 h1 (by omega) ?_
      have e : (Int.tdiv n 10).natAbs = n.natAbs / 10 ∧ -9223372036854775808 ≤ Int.tdiv n 10 ∧ Int.tdiv n 10 ≤ 9223372036854775807 := by
        obtain ⟨m, hm | hm⟩ := Int.eq_nat_or_neg n
        · subst hm; rw [td_nat, Int.natAbs_natCast, Int.natAbs_natCast]; omega
        · subst hm; rw [Int.neg_tdiv, td_nat, Int.natAbs_neg, Int.natAbs_natCast, Int.natAbs_neg, Int.natAbs_natCast]; omega
      by_cases hlt : n.natAbs < 10
      · have e0 : Int.tdiv n 10 = 0 := by have := e.1; omega
        rw [e0, Lib.decDigits, dif_pos hlt, Nat.mod_eq_of_lt hlt]
        exact l0_end _ neg (by simp [bs, ByteArray.toList_eq]) (by rw [bs_size]; simp only [List.length_cons, size_data]; omega)
      · have := ih (Int.tdiv n 10) (bs (UInt8.ofNat (48 + n.natAbs % 10) :: s.data.toList)) neg (by rw [e.1]; rw [Nat.pow_succ] at hd; omega) e.2.1 e.2.2 (Or.inr (by have := e.1; omega)) (by rw [bs_size]; simp only [List.length_cons, size_data]; omega)
        rw [e.1, bs_data] at this
        rw [Lib.decDigits, dif_neg hlt, List.append_assoc]
        exact this
    refine Ev.succ ?_
    simp only [spec_l2Int.l0]
    by_cases he : s.toList = []
    · exact Ev.pos he go
    · have hb : (n != 0) = true := by simpa using hn.resolve_left he
      rw [hb]
      exact Ev.neg he go
theorem int_ev (n : Int) (h0 : -9223372036854775808 ≤ n) (h1 : n ≤ 9223372036854775807) : Ev (fun k => spec_l2Int.f k n) (bs (Lib.itoa n)) := by
  unfold spec_l2Int.f
  have := int_l0 20 n ⟨#[]⟩ (decide (n < 0)) (by omega) h0 h1 (Or.inl (by simp [ByteArray.toList_eq])) (by simp [ByteArray.size])
  refine cast (congrArg _ ?_) this
  unfold fin Lib.itoa
  by_cases h : n < 0
  · rw [if_pos (by simpa using h), if_pos h, show (⟨#[45]⟩ : ByteArray) = bs [45] from rfl, bs_app]
    simp
  · rw [if_neg (by simpa using h), if_neg h, show n.natAbs = n.toNat by omega]
    simp
theorem dec_some (n : Int) (h0 : -9223372036854775808 ≤ n) (h1 : n ≤ 9223372036854775807) : impl_decimal.f n = some (bs (Lib.itoa n)) := by
  unfold impl_decimal.f strconv_FormatInt.f
  rw [if_pos ⟨h0, h1, rfl⟩]
  rfl
theorem dig_len : ∀ (d m : Nat), m < 10 ^ (d + 1) → (Lib.decDigits m).length ≤ d + 1 := by
  intro d
  induction d with
  | zero => intro m h; rw [Lib.decDigits, dif_pos (by simpa using h)]; simp
  | succ d ih =>
    intro m h
    rw [Lib.decDigits]
    by_cases hm : m < 10
    · rw [dif_pos hm]; simp
    · rw [dif_neg hm, List.length_append]
      have := ih (m / 10) (by rw [Nat.pow_succ] at h; omega)
      simp; omega
theorem itoa_len (n : Int) (h0 : -9223372036854775808 ≤ n) (h1 : n ≤ 9223372036854775807) : (bs (Lib.itoa n)).size ≤ 22 := by
  rw [bs_size]
  unfold Lib.itoa
  split
  · have := dig_len 20 n.natAbs (by omega)
    simp; omega
  · have := dig_len 20 n.toNat (by omega)
    omega

theorem in_some (a b c : Int) : spec_l1In.f a b c = impl_within.f a b c := rfl
theorem in_ex (a b c : Int) : ∃ r, impl_within.f a b c = some r := by
  unfold impl_within.f
  split <;> exact ⟨_, rfl⟩
theorem moveOk (a b c d : Int) : ∃ r, spec_MoveOk.f a b c d = some r ∧ impl_MoveOk.f a b c d = some r := by
  unfold spec_MoveOk.f impl_MoveOk.f impl_isAccount.f
  simp only [in_some]
  obtain ⟨r1, e1⟩ := in_ex a 0 7
  obtain ⟨r2, e2⟩ := in_ex b 0 7
  obtain ⟨r3, e3⟩ := in_ex c 1 1000000000
  obtain ⟨r4, e4⟩ := in_ex d 0 999999
  simp only [e1, e2, e3, e4, Option.bind_some]
  cases r1 <;> cases r2 <;> cases r3 <;> exact ⟨_, rfl, rfl⟩
theorem show_ev (a b c d : Int) (ha : okInt .i64 a) (hb : okInt .i64 b) (hc : okInt .i64 c) (hd : okInt .i64 d) : ∃ r, Ev (fun k => spec_ShowMove.f k a b c d) r ∧ impl_ShowMove.f a b c d = some r := by
  obtain ⟨a0, a1⟩ := bound_i64 ha
  obtain ⟨b0, b1⟩ := bound_i64 hb
  obtain ⟨c0, c1⟩ := bound_i64 hc
  obtain ⟨d0, d1⟩ := bound_i64 hd
  unfold spec_ShowMove.f impl_ShowMove.f
  obtain ⟨r, e1, e2⟩ := moveOk a b c d
  simp only [e1, e2, Option.bind_some, dec_some a a0 a1, dec_some b b0 b1, dec_some c c0 c1, dec_some d d0 d1]
  have la := itoa_len a a0 a1
  have lb := itoa_len b b0 b1
  have lc := itoa_len c c0 c1
  have ld := itoa_len d d0 d1
  have ea := int_ev a a0 a1
  have eb := int_ev b b0 b1
  have ec := int_ev c c0 c1
  have ed := int_ev d d0 d1
  generalize bs (Lib.itoa a) = sa at *
  generalize bs (Lib.itoa b) = sb at *
  generalize bs (Lib.itoa c) = sc at *
  generalize bs (Lib.itoa d) = sd at *
  have l32 : (⟨#[32]⟩ : ByteArray).size = 1 := rfl
  cases r with
  | false => exact ⟨⟨#[]⟩, Ev.neg (by decide) (Ev.now _), if_neg (by decide)⟩
  | true =>
    refine ⟨_, Ev.pos rfl (Ev.bind ea (Ev.pos (by omega) (Ev.bind eb (Ev.pos (by simp only [ByteArray.size_append, l32]; omega) (Ev.pos (by simp only [ByteArray.size_append, l32]; omega) (Ev.bind ec (Ev.pos (by simp only [ByteArray.size_append, l32]; omega) (Ev.pos (by simp only [ByteArray.size_append, l32]; omega) (Ev.bind ed (Ev.pos (by simp only [ByteArray.size_append, l32]; omega) (Ev.now _))))))))))), ?_⟩
    rw [if_pos rfl, if_pos (by omega), if_pos (by simp only [ByteArray.size_append, l32]; omega), if_pos (by simp only [ByteArray.size_append, l32]; omega), if_pos (by simp only [ByteArray.size_append, l32]; omega), if_pos (by simp only [ByteArray.size_append, l32]; omega), if_pos (by simp only [ByteArray.size_append, l32]; omega)]
theorem FnExactShowMove : laws_FnExactShowMove.Pure := by
  intro a b c d ha hb hc hd
  obtain ⟨r, e1, e2⟩ := show_ev a b c d ha hb hc hd
  refine Ev.rounds (g := fun k => laws_FnExactShowMove.f k a b c d) ?_
  simp only [laws_FnExactShowMove.f, laws_toMove.f, Option.bind_some]
  exact Ev.bind e1 (Ev.bind (Ev.const e2) (Ev.pos rfl (Ev.now _)))

end Go.Proofs.YtcegobkangpilaaDoor.Pure
