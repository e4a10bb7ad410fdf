/- The program's ReadMove returns what the reference's ReadMove returns, for every text. No condition. -/
import Derived.Test.YtokfpmkhfindmaaDoorBoilFnExactReadMove
import Derived.Test.YtokfpmkhfindmaaDoorPFnExactReadMovex5
import Derived.Test.YtokfpmkhfindmaaDoorAskFnExactReadMove
namespace Go.Proofs.YtokfpmkhfindmaaDoor.Pure
open Go.RowKit Go.Proofs.YtokfpmkhfindmaaDoor.PFnExactReadMove Go.Proofs.YtokfpmkhfindmaaDoorW.PrintWords Go.Proofs.YtokfpmkhfindmaaDoorW.PrintLast Go.Proofs.YtokfpmkhfindmaaDoorW.PrintMore
set_option maxRecDepth 100000
set_option linter.unusedVariables false
set_option linter.unusedSimpArgs false
def bs (l : List UInt8) : ByteArray := ⟨l.toArray⟩
theorem bs_data (l : List UInt8) : (bs l).data.toList = l := by simp [bs]
theorem bs_of (s : ByteArray) : bs s.data.toList = s := by cases s; simp [bs]
theorem bs_app (a b : List UInt8) : bs a ++ bs b = bs (a ++ b) := by
  apply bytes_inj
  simp [bs, ByteArray.toList_eq, ByteArray.data_append]
theorem bs_size (l : List UInt8) : (bs l).size = l.length := by simp [bs, ByteArray.size]
theorem size_data (s : ByteArray) : s.data.toList.length = s.size := by simp only [ByteArray.size, Array.length_toList]
theorem tm_nat (m : Nat) : Int.tmod (m : Int) 10 = ((m % 10 : Nat) : Int) := rfl
theorem td_nat (m : Nat) : Int.tdiv (m : Int) 10 = ((m / 10 : Nat) : Int) := rfl
theorem dig_bytes (m : Nat) (v : Int) (s : ByteArray) (h : v = 48 + ((m % 10 : Nat) : Int)) : strOfNums [v % 256] ++ s = bs (UInt8.ofNat (48 + m % 10) :: s.data.toList) := by
  have e : (v % 256).toNat = 48 + m % 10 := by omega
  have e2 : strOfNums [v % 256] = bs [UInt8.ofNat (48 + m % 10)] := by simp [strOfNums, bs, e]
  rw [e2]
  conv => lhs; rhs; rw [← bs_of s]
  rw [bs_app]; rfl
theorem j1_step (n : Int) (s : ByteArray) (neg : Bool) (r : ByteArray) (h0 : -9223372036854775808 ≤ n) (h1 : n ≤ 9223372036854775807) (hs : s.size ≤ 1000)
    (h : Ev (fun k => spec_l2Int.l0 k (Int.tdiv n 10) (bs (UInt8.ofNat (48 + n.natAbs % 10) :: s.data.toList)) neg) r) : Ev (fun k => spec_l2Int.j1 k n s neg true) r := by
  refine Ev.succ ?_
  simp only [spec_l2Int.j1, Option.bind_some]
  refine Ev.pos (by trivial) ?_
  have sz : ∀ v : Int, (strOfNums [v]).size = 1 := fun v => by simp [strOfNums, ByteArray.size]
  simp only [sz]
  obtain ⟨m, hm | hm⟩ := Int.eq_nat_or_neg n
  · subst hm
    rw [tm_nat, td_nat] at *
    rw [Int.natAbs_natCast] at h
    refine Ev.neg (by omega) (Ev.pos (by omega) ?_)
    rw [w64 (by omega) (by omega), w64 (by omega) (by omega), dig_bytes m _ s rfl]
    exact h
  · subst hm
    rw [Int.neg_tmod, Int.neg_tdiv, tm_nat, td_nat] at *
    rw [Int.natAbs_neg, Int.natAbs_natCast] at h
    by_cases hz : m % 10 = 0
    · refine Ev.neg (by omega) (Ev.pos (by omega) ?_)
      rw [w64 (x := -((m / 10 : Nat) : Int)) (by omega) (by omega), w64 (by omega) (by omega), dig_bytes m _ s (by omega)]
      exact h
    · refine Ev.pos (by omega) (Ev.pos (by omega) ?_)
      rw [w64 (x := -((m / 10 : Nat) : Int)) (by omega) (by omega), w64 (x := -(-((m % 10 : Nat) : Int))) (by omega) (by omega), w64 (by omega) (by omega), dig_bytes m _ s (by omega)]
      exact h
def fin (neg : Bool) (s : ByteArray) : ByteArray := if neg = true then (⟨#[45]⟩ : ByteArray) ++ s else s
theorem l0_end (s : ByteArray) (neg : Bool) (h : s.toList ≠ []) (hs : s.size ≤ 1002) : Ev (fun k => spec_l2Int.l0 k 0 s neg) (fin neg s) := by
  refine Ev.succ ?_
  simp only [spec_l2Int.l0]
  refine Ev.neg h (Ev.succ ?_)
  simp only [spec_l2Int.j1, fin]
  refine Ev.neg (by simp) ?_
  cases neg with
  | true => exact Ev.pos rfl (Ev.pos (by omega) (Ev.now _))
  | false => exact Ev.neg (by decide) (Ev.now _)
theorem int_l0 : ∀ (d : Nat) (n : Int) (s : ByteArray) (neg : Bool), n.natAbs < 10 ^ (d + 1) → -9223372036854775808 ≤ n → n ≤ 9223372036854775807 → (s.toList = [] ∨ n ≠ 0) → s.size + d ≤ 1000 → Ev (fun k => spec_l2Int.l0 k n s neg) (fin neg (bs (Lib.decDigits n.natAbs ++ s.data.toList))) := by
  intro d
  induction d with
  | zero =>
    intro n s neg hd h0 h1 hn hs
    have hd' : n.natAbs < 10 := by simpa using hd
    have go : Ev (fun k => spec_l2Int.j1 k n s neg true) (fin neg (bs (Lib.decDigits n.natAbs ++ s.data.toList))) := by
      refine j1_step n s neg _ h0 h1 (by omega) ?_
      have e : Int.tdiv n 10 = 0 := by
        obtain ⟨m, hm | hm⟩ := Int.eq_nat_or_neg n
        · subst hm; rw [td_nat]; rw [Int.natAbs_natCast] at hd'; omega
        · subst hm; rw [Int.neg_tdiv, td_nat]; rw [Int.natAbs_neg, Int.natAbs_natCast] at hd'; omega
      rw [e, Lib.decDigits, dif_pos hd', Nat.mod_eq_of_lt hd']
      exact l0_end _ neg (by simp [bs, ByteArray.toList_eq]) (by rw [bs_size]; simp only [List.length_cons, size_data]; omega)
    refine Ev.succ ?_
    simp only [spec_l2Int.l0]
    by_cases he : s.toList = []
    · exact Ev.pos he go
    · have hb : (n != 0) = true := by simpa using hn.resolve_left he
      rw [hb]
      exact Ev.neg he go
  | succ d ih =>
    intro n s neg hd h0 h1 hn hs
    have go : Ev (fun k => spec_l2Int.j1 k n s neg true) (fin neg (bs (Lib.decDigits n.natAbs ++ s.data.toList))) := by
      refine j1_step n s neg _ h0 h1 (by omega) ?_
      have e : (Int.tdiv n 10).natAbs = n.natAbs / 10 ∧ -9223372036854775808 ≤ Int.tdiv n 10 ∧ Int.tdiv n 10 ≤ 9223372036854775807 := by
        obtain ⟨m, hm | hm⟩ := Int.eq_nat_or_neg n
        · subst hm; rw [td_nat, Int.natAbs_natCast, Int.natAbs_natCast]; omega
        · subst hm; rw [Int.neg_tdiv, td_nat, Int.natAbs_neg, Int.natAbs_natCast, Int.natAbs_neg, Int.natAbs_natCast]; omega
      by_cases hlt : n.natAbs < 10
      · have e0 : Int.tdiv n 10 = 0 := by have := e.1; omega
        rw [e0, Lib.decDigits, dif_pos hlt, Nat.mod_eq_of_lt hlt]
        exact l0_end _ neg (by simp [bs, ByteArray.toList_eq]) (by rw [bs_size]; simp only [List.length_cons, size_data]; omega)
      · have := ih (Int.tdiv n 10) (bs (UInt8.ofNat (48 + n.natAbs % 10) :: s.data.toList)) neg (by rw [e.1]; rw [Nat.pow_succ] at hd; omega) e.2.1 e.2.2 (Or.inr (by have := e.1; omega)) (by rw [bs_size]; simp only [List.length_cons, size_data]; omega)
        rw [e.1, bs_data] at this
        rw [Lib.decDigits, dif_neg hlt, List.append_assoc]
        exact this
    refine Ev.succ ?_
    simp only [spec_l2Int.l0]
    by_cases he : s.toList = []
    · exact Ev.pos he go
    · have hb : (n != 0) = true := by simpa using hn.resolve_left he
      rw [hb]
      exact Ev.neg he go
theorem int_ev (n : Int) (h0 : -9223372036854775808 ≤ n) (h1 : n ≤ 9223372036854775807) : Ev (fun k => spec_l2Int.f k n) (bs (Lib.itoa n)) := by
  unfold spec_l2Int.f
  have := int_l0 20 n ⟨#[]⟩ (decide (n < 0)) (by omega) h0 h1 (Or.inl (by simp [ByteArray.toList_eq])) (by simp [ByteArray.size])
  refine cast (congrArg _ ?_) this
  unfold fin Lib.itoa
  by_cases h : n < 0
  · rw [if_pos (by simpa using h), if_pos h, show (⟨#[45]⟩ : ByteArray) = bs [45] from rfl, bs_app]
    simp
  · rw [if_neg (by simpa using h), if_neg h, show n.natAbs = n.toNat by omega]
    simp
theorem dec_some (n : Int) (h0 : -9223372036854775808 ≤ n) (h1 : n ≤ 9223372036854775807) : impl_decimal.f n = some (bs (Lib.itoa n)) := by
  unfold impl_decimal.f strconv_FormatInt_91.f
  rw [if_pos ⟨h0, h1, rfl⟩]
  rfl
theorem dig_len : ∀ (d m : Nat), m < 10 ^ (d + 1) → (Lib.decDigits m).length ≤ d + 1 := by
  intro d
  induction d with
  | zero => intro m h; rw [Lib.decDigits, dif_pos (by simpa using h)]; simp
  | succ d ih =>
    intro m h
    rw [Lib.decDigits]
    by_cases hm : m < 10
    · rw [dif_pos hm]; simp
    · rw [dif_neg hm, List.length_append]
      have := ih (m / 10) (by rw [Nat.pow_succ] at h; omega)
      simp; omega
theorem itoa_len (n : Int) (h0 : -9223372036854775808 ≤ n) (h1 : n ≤ 9223372036854775807) : (bs (Lib.itoa n)).size ≤ 22 := by
  rw [bs_size]
  unfold Lib.itoa
  split
  · have := dig_len 20 n.natAbs (by omega)
    simp; omega
  · have := dig_len 20 n.toNat (by omega)
    omega
theorem bt_data {s : ByteArray} {i : Nat} {b : UInt8} (h : s.data.toList[i]? = some b) : bt s (i : Int) = (b.toNat : Int) := by
  obtain ⟨hi, rfl⟩ := List.getElem?_eq_some_iff.1 h
  have hs : i < s.size := by rw [← size_data]; exact hi
  unfold bt
  rw [dif_pos (by simpa using hs)]
  simp [ByteArray.getElem_eq_getElem_data]
theorem number_some (s : ByteArray) (h : s.size ≤ 281474976710656) : ∃ r, impl_number.f s = some r := by
  unfold impl_number.f
  by_cases c : ((⟨(Lib.trimPrefix s.data.toList [45]).toArray⟩ : ByteArray).size : Int) > 10
  · rw [if_pos c]
    exact ⟨_, rfl⟩
  · rw [if_neg c, if_pos h]
    cases hp : Lib.parseIntB 64 s.data.toList with
    | ok v =>
      have hb := Lib.parseIntB_bounds hp
      have hd := dec_some v (by have := hb.1; simpa using this) (by have := hb.2; have e : ((2 ^ (64 - 1) : Nat) : Int) = 9223372036854775808 := (by decide); rw [e] at this; omega)
      simp only [hd, Option.bind_some]
      exact ⟨_, rfl⟩
    | range => exact ⟨_, rfl⟩
    | _ => exact ⟨_, rfl⟩
theorem j4_some (b : Bool) (n : Int) (c : Bool) : ∃ r, Ev (fun k => spec_l2Number.j4 k b n c) r := by
  cases c with
  | true => exact ⟨(0, false), Ev.succ (by simp only [spec_l2Number.j4]; exact Ev.pos (by trivial) (Ev.now _))⟩
  | false =>
    cases b with
    | true => exact ⟨(wrap64 (-n), true), Ev.succ (by simp only [spec_l2Number.j4]; exact Ev.neg (by decide) (Ev.pos (by trivial) (Ev.now _)))⟩
    | false => exact ⟨(n, true), Ev.succ (by simp only [spec_l2Number.j4]; exact Ev.neg (by decide) (Ev.neg (by decide) (Ev.now _)))⟩
theorem l2n_l0 (s : ByteArray) (hs : s.size ≤ 4611686018427387904) (f : Int) (hf : 0 ≤ f ∧ f < (s.size : Int)) (neg : Bool) : ∀ (d i : Nat) (n : Int), i + d = s.size → ∃ r, Ev (fun k => spec_l2Number.l0 k s f neg n (i : Int)) r
  | 0, i, n, hi => by
    by_cases c : bt s f = 48
    · cases neg with
      | true =>
        obtain ⟨r, e⟩ := j4_some true n true
        exact ⟨r, Ev.succ (by simp only [spec_l2Number.l0]; exact Ev.neg (by omega) (Ev.pos hf.1 (Ev.pos hf.2 (Ev.pos c (Ev.pos (by trivial) e)))))⟩
      | false =>
        obtain ⟨r, e⟩ := j4_some false n (decide ((s.size : Int) > 1))
        exact ⟨r, Ev.succ (by simp only [spec_l2Number.l0]; exact Ev.neg (by omega) (Ev.pos hf.1 (Ev.pos hf.2 (Ev.pos c (Ev.neg (by decide) e)))))⟩
    · obtain ⟨r, e⟩ := j4_some neg n false
      exact ⟨r, Ev.succ (by simp only [spec_l2Number.l0]; exact Ev.neg (by omega) (Ev.pos hf.1 (Ev.pos hf.2 (Ev.neg c e))))⟩
  | d + 1, i, n, hi => by
    by_cases c1 : bt s (i : Int) < 48
    · exact ⟨(0, false), Ev.succ (by simp only [spec_l2Number.l0]; exact Ev.pos (by omega) (Ev.pos (by omega) (Ev.pos c1 (Ev.now _))))⟩
    · by_cases c2 : bt s (i : Int) > 57
      · exact ⟨(0, false), Ev.succ (by simp only [spec_l2Number.l0]; exact Ev.pos (by omega) (Ev.pos (by omega) (Ev.neg c1 (Ev.pos c2 (Ev.now _)))))⟩
      · obtain ⟨r, e⟩ := l2n_l0 s hs f hf neg d (i + 1) (wrap64 (wrap64 (n * 10) + (bt s (i : Int) - 48) % 256)) (by omega)
        have wi : Aside0 (wrap64 ((i : Int) + 1) = ((i + 1 : Nat) : Int)) := ⟨by rw [w64 (by omega) (by omega)]; omega⟩
        refine ⟨r, Ev.succ ?_⟩
        simp only [spec_l2Number.l0, wi.out]
        exact Ev.pos (by omega) (Ev.pos (by omega) (Ev.neg c1 (Ev.neg c2 e)))
theorem l2n_j1 (s : ByteArray) (hs : s.size ≤ 4611686018427387904) (f : Nat) (hf : f ≤ 1) (neg : Bool) : ∃ r, Ev (fun k => spec_l2Number.j1 k s (f : Int) neg) r := by
  have w : Aside0 (wrap64 ((s.size : Int) - (f : Int)) = (s.size : Int) - (f : Int)) := ⟨w64 (by omega) (by omega)⟩
  have no : ∀ n, Ev (fun k => spec_l2Number.j2 k s (f : Int) neg n true) ((0, false) : Int × Bool) := fun n => Ev.succ (by simp only [spec_l2Number.j2]; exact Ev.pos (by trivial) (Ev.now _))
  by_cases c : (s.size : Int) - (f : Int) < 1
  · exact ⟨_, Ev.succ (by simp only [spec_l2Number.j1, w.out]; exact Ev.pos c (no 0))⟩
  · by_cases c2 : (s.size : Int) - (f : Int) > 10
    · exact ⟨_, Ev.succ (by simp only [spec_l2Number.j1, w.out, decide_eq_true c2]; exact Ev.neg c (no 0))⟩
    · obtain ⟨r, e⟩ := l2n_l0 s hs (f : Int) ⟨by omega, by omega⟩ neg (s.size - f) f 0 (by omega)
      exact ⟨r, Ev.succ (by simp only [spec_l2Number.j1, w.out, decide_eq_false c2]; exact Ev.neg c (Ev.succ (by simp only [spec_l2Number.j2]; exact Ev.neg (by decide) e)))⟩
theorem l2n_some (s : ByteArray) (hs : s.size ≤ 4611686018427387904) : ∃ r, Ev (fun k => spec_l2Number.f k s) r := by
  obtain ⟨r0, e0⟩ := l2n_j1 s hs 0 (by omega) false
  obtain ⟨r1, e1⟩ := l2n_j1 s hs 1 (by omega) true
  have j0f : Ev (fun k => spec_l2Number.j0 k s 0 false false) r0 := Ev.succ (by simp only [spec_l2Number.j0]; exact Ev.neg (by decide) e0)
  have j0t : Ev (fun k => spec_l2Number.j0 k s 0 false true) r1 := Ev.succ (by simp only [spec_l2Number.j0]; exact Ev.pos (by trivial) e1)
  unfold spec_l2Number.f
  by_cases c : s.toList = ([] : List UInt8)
  · exact ⟨r0, Ev.pos c j0f⟩
  · have hp : 0 < (s.size : Int) := by
      have : s.data.toList ≠ [] := by simpa [ByteArray.toList_eq] using c
      have := List.length_pos_iff.2 this
      rw [size_data] at this
      omega
    cases hb : bt s 0 == 45 with
    | true => exact ⟨r1, Ev.neg c (Ev.pos hp j0t)⟩
    | false => exact ⟨r0, Ev.neg c (Ev.pos hp j0f)⟩
theorem ext_list (s : ByteArray) (a b : Nat) : (s.extract a b).data.toList = (s.data.toList.take b).drop a := by
  rw [ByteArray.data_extract]
  simp [Array.toList_extract, List.extract, List.drop_take]
theorem toList_data (s : ByteArray) : s.toList = s.data.toList := by simp [ByteArray.toList_eq]
theorem idx_one (c : UInt8) : ∀ (A rest : List UInt8), c ∉ A → Lib.index (A ++ c :: rest) [c] = (A.length : Int)
  | [], rest, _ => by simp [Lib.index]
  | b :: A, rest, h => by
    have hb : c ≠ b := fun e => h (by simp [e])
    have ih := idx_one c A rest (fun e => h (by simp [e]))
    simp only [List.cons_append, Lib.index]
    rw [if_neg (by simp [List.isPrefixOf, hb]), ih, if_neg (by first | (simp; done) | (simp; omega))]
    simp
theorem dig_no (c : UInt8) (hc : c = 32 ∨ c = 10) : ∀ (f n : Nat), n < 10 ^ (f + 1) → c ∉ Lib.decDigits n
  | 0, n, hn => by
    rw [Lib.decDigits_one (by omega)]
    have : n < 10 := by omega
    intro h
    rw [List.mem_singleton] at h
    have h2 := congrArg UInt8.toNat h
    rcases hc with rfl | rfl <;> simp at h2 <;> omega
  | f + 1, n, hn => by
    by_cases c1 : n < 10
    · exact dig_no c hc 0 n (by omega)
    · rw [Lib.decDigits, dif_neg c1]
      intro h
      rcases List.mem_append.1 h with h | h
      · exact dig_no c hc f (n / 10) (by rw [Nat.pow_succ] at hn; omega) h
      · rw [List.mem_singleton] at h
        have h2 := congrArg UInt8.toNat h
        rcases hc with rfl | rfl <;> simp at h2 <;> omega
/-! the words of a text -/
def ws (cur : List UInt8) : List UInt8 → List ByteArray
  | [] => [bs cur]
  | c :: l => if c = 32 then bs cur :: ws [] l else ws (cur ++ [c]) l
theorem ext_bs (s : ByteArray) (a b : Nat) : s.extract a b = bs ((s.data.toList.take b).drop a) := by rw [← bs_of (s.extract a b), ext_list]
theorem words_l0 (s : ByteArray) (hs : s.size ≤ 1048576) : ∀ (d i f : Nat) (out : List ByteArray), i + d = s.size → f ≤ i → out.length ≤ i →
    Ev (fun k => spec_l2Words.l0 k s out (f : Int) (i : Int)) (out ++ ws ((s.data.toList.take i).drop f) (s.data.toList.drop i))
  | 0, i, f, out, hi, hf, ho => by
    have wi : Aside0 (wrap64 ((i : Int) + 1) = ((i + 1 : Nat) : Int)) := ⟨by rw [w64 (by omega) (by omega)]; omega⟩
    have e : s.data.toList.drop i = [] := List.drop_of_length_le (by rw [size_data]; omega)
    rw [e]
    refine Ev.succ ?_
    simp only [spec_l2Words.l0, wi.out, Int.toNat_natCast]
    refine Ev.pos (by omega) (Ev.pos (by omega) (Ev.pos (by omega) (Ev.pos (by omega) (Ev.pos (by omega) (Ev.succ ?_)))))
    simp only [spec_l2Words.l0]
    rw [ext_bs]
    exact Ev.neg (by omega) (Ev.now _)
  | d + 1, i, f, out, hi, hf, ho => by
    have wi : Aside0 (wrap64 ((i : Int) + 1) = ((i + 1 : Nat) : Int)) := ⟨by rw [w64 (by omega) (by omega)]; omega⟩
    obtain ⟨b, hb⟩ := get_some (l := s.data.toList) (i := i) (by rw [size_data]; omega)
    have hbt := bt_data hb
    obtain ⟨hi', hb'⟩ := List.getElem?_eq_some_iff.1 hb
    have ed : s.data.toList.drop i = b :: s.data.toList.drop (i + 1) := by rw [List.drop_eq_getElem_cons hi', hb']
    rw [ed]
    by_cases c : b = 32
    · subst c
      have ih := words_l0 s hs d (i + 1) (i + 1) (out ++ [s.extract f i]) (by omega) (by omega) (by simp; omega)
      rw [List.drop_of_length_le (by rw [List.length_take]; omega), ext_bs, List.append_assoc] at ih
      refine Ev.succ ?_
      simp only [spec_l2Words.l0, wi.out, Int.toNat_natCast, ws, if_true]
      rw [ext_bs]
      exact Ev.pos (by omega) (Ev.neg (by omega) (Ev.pos (by omega) (Ev.pos (by omega) (Ev.pos (by rw [hbt]; rfl) (Ev.pos (by omega) (Ev.pos (by omega) (Ev.pos (by omega) ih)))))))
    · have hn : ¬ bt s (i : Int) = 32 := by
        rw [hbt]
        intro h
        exact c (UInt8.toNat_inj.1 (by have : (32 : UInt8).toNat = 32 := rfl; omega))
      have ih := words_l0 s hs d (i + 1) f out (by omega) (by omega) (by omega)
      have et : (s.data.toList.take (i + 1)).drop f = (s.data.toList.take i).drop f ++ [b] := by
        rw [List.take_add_one, hb, List.drop_append_of_le_length (by rw [List.length_take, size_data]; omega)]
        rfl
      rw [et] at ih
      refine Ev.succ ?_
      simp only [spec_l2Words.l0, wi.out, ws]
      rw [if_neg c]
      exact Ev.pos (by omega) (Ev.neg (by omega) (Ev.pos (by omega) (Ev.pos (by omega) (Ev.neg hn ih))))
theorem words_ev (s : ByteArray) (hs : s.size ≤ 1048576) : Ev (fun k => spec_l2Words.f k s) (ws [] s.data.toList) := by
  have := words_l0 s hs s.size 0 0 [] (by omega) (by omega) (by simp)
  rw [List.take_zero, List.drop_nil, List.drop_zero, List.nil_append] at this
  exact this
theorem ws_cut : ∀ (A cur R : List UInt8), (32 : UInt8) ∉ A → ws cur (A ++ 32 :: R) = bs (cur ++ A) :: ws [] R
  | [], cur, R, _ => by simp [ws]
  | a :: A, cur, R, h => by
    have ha : ¬ a = 32 := fun e => h (by simp [e])
    rw [List.cons_append, ws, if_neg ha, ws_cut A (cur ++ [a]) R (fun e => h (by simp [e]))]
    simp
theorem ws_end : ∀ (A cur : List UInt8), (32 : UInt8) ∉ A → ws cur A = [bs (cur ++ A)]
  | [], cur, _ => by simp [ws]
  | a :: A, cur, h => by
    have ha : ¬ a = 32 := fun e => h (by simp [e])
    rw [ws, if_neg ha, ws_end A (cur ++ [a]) (fun e => h (by simp [e]))]
    simp
theorem ws_small : ∀ (l cur : List UInt8) (w : ByteArray), w ∈ ws cur l → w.size ≤ cur.length + l.length
  | [], cur, w, h => by
    rw [ws, List.mem_singleton] at h
    rw [h, bs_size]; exact Nat.le_refl _
  | c :: l, cur, w, h => by
    rw [ws] at h
    split at h
    · rcases List.mem_cons.1 h with h | h
      · rw [h, bs_size]; first | (simp; done) | (simp; omega)
      · have := ws_small l [] w h
        simp at this ⊢; omega
    · have := ws_small l (cur ++ [c]) w h
      simp at this ⊢; omega
theorem ws_len : ∀ (l cur : List UInt8), (ws cur l).length ≤ l.length + 1
  | [], cur => by simp [ws]
  | c :: l, cur => by
    rw [ws]
    split
    · have := ws_len l []
      simp; omega
    · have := ws_len l (cur ++ [c])
      simp; omega
/-! strings.Split at one blank -/
theorem indexB_one (A R : List UInt8) (h : (32 : UInt8) ∉ A) : Lib.indexB (bs (A ++ 32 :: R)) ⟨#[32]⟩ = (A.length : Int) := by
  unfold Lib.indexB
  rw [bs_data]
  exact idx_one 32 A R h
theorem split_cut (A R : List UInt8) (h : (32 : UInt8) ∉ A) (k : Nat) : Lib.splitB ⟨#[32]⟩ 0 (k + 1) (bs (A ++ 32 :: R)) = bs A :: Lib.splitB ⟨#[32]⟩ 0 k (bs R) := by
  rw [Lib.splitB_hit _ _ _ _ A.length (indexB_one A R h)]
  congr 1
  · rw [ext_bs, bs_data]; simp
  · congr 1
    rw [ext_bs, bs_data, bs_size, show (⟨#[32]⟩ : ByteArray).size = 1 from rfl, List.take_length, List.drop_append, List.drop_eq_nil_of_le (by omega), show A.length + 1 - A.length = 1 by omega]
    simp
theorem split_small : ∀ (k : Nat) (s w : ByteArray), w ∈ Lib.splitB ⟨#[32]⟩ 0 k s → w.size ≤ s.size
  | 0, s, w, h => by
    rw [Lib.splitB, List.mem_singleton] at h
    rw [h]; exact Nat.le_refl _
  | k + 1, s, w, h => by
    rw [Lib.splitB] at h
    split at h
    · rw [List.mem_singleton] at h
      rw [h]; exact Nat.le_refl _
    · have hsz : ∀ a b, (s.extract a b).size ≤ s.size := fun a b => by
        rw [← size_data, ext_list, List.length_drop, List.length_take, size_data]; omega
      rcases List.mem_cons.1 h with h | h
      · rw [h]; exact hsz _ _
      · exact Nat.le_trans (split_small k _ w h) (hsz _ _)
/-! numbers of up to ten digits -/
def vl (h : Nat) (l : List UInt8) : Nat := l.foldl (fun h b => h * 10 + (b.toNat - 48)) h
def Digs (l : List UInt8) : Prop := ∀ b, b ∈ l → 48 ≤ b.toNat ∧ b.toNat ≤ 57
theorem dig1 (m : Nat) (h : m < 10) : (UInt8.ofNat (48 + m)).toNat = 48 + m := by
  rw [UInt8.toNat_ofNat']
  omega
theorem dd_digs : ∀ (f n : Nat), n < 10 ^ (f + 1) → Digs (Lib.decDigits n) ∧ vl 0 (Lib.decDigits n) = n ∧ (Lib.decDigits n).length ≤ f + 1 ∧ 0 < (Lib.decDigits n).length ∧ ((Lib.decDigits n).head? = some 48 → n = 0)
  | 0, n, hn => by
    have h : n < 10 := by omega
    rw [Lib.decDigits_one h]
    refine ⟨fun b hb => ?_, ?_, by simp, by simp, fun e => ?_⟩
    · rw [List.mem_singleton] at hb
      rw [hb, dig1 n h]; omega
    · simp only [vl, List.foldl_cons, List.foldl_nil, dig1 n h]; omega
    · have e2 : UInt8.ofNat (48 + n) = 48 := by simpa using e
      have := congrArg UInt8.toNat e2
      rw [dig1 n h] at this
      have h48 : (48 : UInt8).toNat = 48 := rfl
      omega
  | f + 1, n, hn => by
    by_cases c : n < 10
    · have := dd_digs 0 n (by omega)
      exact ⟨this.1, this.2.1, by omega, this.2.2.2⟩
    · obtain ⟨i1, i2, i3, i4, i5⟩ := dd_digs f (n / 10) (by rw [Nat.pow_succ] at hn; omega)
      rw [Lib.decDigits, dif_neg c]
      refine ⟨fun b hb => ?_, ?_, by simp; omega, by simp, fun e => ?_⟩
      · rcases List.mem_append.1 hb with hb | hb
        · exact i1 b hb
        · rw [List.mem_singleton] at hb
          rw [hb, dig1 _ (by omega)]; omega
      · simp only [vl, List.foldl_append, List.foldl_cons, List.foldl_nil] at i2 ⊢
        rw [i2, dig1 _ (by omega)]; omega
      · cases hx : Lib.decDigits (n / 10) with
        | nil => rw [hx] at i4; simp at i4
        | cons y l =>
          rw [hx] at e i5
          have := i5 (by simpa using e)
          omega
theorem vl_le : ∀ (l : List UInt8) (h : Nat), h ≤ vl h l
  | [], h => Nat.le_refl _
  | b :: l, h => Nat.le_trans (by omega) (vl_le l (h * 10 + (b.toNat - 48)))
theorem parseM (M : Nat) (hM : M ≤ 18446744073709551615) : ∀ (l : List UInt8) (acc : Nat), Digs l → vl acc l ≤ 1000000000000 → 1000000000000 ≤ M → Lib.parseUintM M acc l = .ok (vl acc l)
  | [], acc, _, _, _ => rfl
  | b :: l, acc, hd, hv, h2 => by
    have hb := hd b (by simp)
    have hle := vl_le l (acc * 10 + (b.toNat - 48))
    have hv' : vl (acc * 10 + (b.toNat - 48)) l ≤ 1000000000000 := hv
    rw [Lib.parseUintM, if_pos hb, if_neg (by omega), if_neg (by omega), parseM M hM l _ (fun x hx => hd x (by simp [hx])) hv' h2]
    rfl
theorem parse_dd (n : Nat) (h : n ≤ 1000000000) : Lib.parseIntB 64 (Lib.decDigits n) = .ok (n : Int) := by
  obtain ⟨i1, i2, i3, i4, i5⟩ := dd_digs 9 n (by omega)
  have hp : Lib.parseUintB 64 (Lib.decDigits n) = .ok n := by
    unfold Lib.parseUintB
    rw [if_neg (by intro h0; rw [h0] at i4; simp at i4), parseM _ (by decide) _ 0 i1 (by omega) (by decide), i2]
  obtain ⟨c, r, hc⟩ : ∃ c r, Lib.decDigits n = c :: r := by
    cases hx : Lib.decDigits n with
    | nil => rw [hx] at i4; simp at i4
    | cons c r => exact ⟨c, r, rfl⟩
  have hcd := i1 c (by rw [hc]; simp)
  rw [hc] at hp ⊢
  rw [Lib.parseIntB_plain 64 c r (by omega) (by omega), hp]
  show (if 2 ^ (64 - 1) ≤ n then Lib.NumEnd.range else Lib.NumEnd.ok (n : Int)) = _
  rw [if_neg (by have : (2 : Nat) ^ (64 - 1) = 9223372036854775808 := (by decide); omega)]
theorem number_at (n : Nat) (h : n ≤ 1000000000) : impl_number.f (bs (Lib.itoa (n : Int))) = some ((n : Int), true) := by
  rw [Lib.itoa_nonneg]
  obtain ⟨i1, i2, i3, i4, i5⟩ := dd_digs 9 n (by omega)
  have ht : Lib.trimPrefix (Lib.decDigits n) [45] = Lib.decDigits n := by
    unfold Lib.trimPrefix
    rw [if_neg]
    cases hx : Lib.decDigits n with
    | nil => rw [hx] at i4; simp at i4
    | cons c r =>
      have hcd := i1 c (by rw [hx]; simp)
      intro hh
      simp [Lib.hasPrefix, List.isPrefixOf] at hh
      rw [← hh] at hcd
      exact absurd hcd.1 (by decide)
  have hd := dec_some (n : Int) (by omega) (by omega)
  unfold impl_number.f
  rw [bs_data, ht, if_neg (by show ¬ (((Lib.decDigits n).toArray.size : Nat) : Int) > 10; rw [List.size_toArray]; omega), if_pos (by rw [bs_size]; omega), parse_dd n h]
  simp only [hd, Option.bind_some]
  rw [Lib.itoa_nonneg]
  congr 2
  rw [beq_iff_eq]
theorem l2n_val (s : ByteArray) (hd : Digs s.data.toList) (hs : s.size ≤ 10) (hv : vl 0 s.data.toList ≤ 1000000000000) (r : Int × Bool)
    (hr : Ev (fun k => if (0 : Int) < (s.size : Int) then (if bt s 0 = 48 then spec_l2Number.j4 k false (vl 0 s.data.toList : Nat) (decide ((s.size : Int) > 1)) else spec_l2Number.j4 k false (vl 0 s.data.toList : Nat) false) else none) r) :
    ∀ (d i : Nat), i + d = s.size → Ev (fun k => spec_l2Number.l0 k s 0 false ((vl 0 (s.data.toList.take i) : Nat) : Int) (i : Int)) r
  | 0, i, hi => by
    have e : s.data.toList.take i = s.data.toList := List.take_of_length_le (by rw [size_data]; omega)
    rw [e]
    refine Ev.succ ?_
    simp only [spec_l2Number.l0]
    refine Ev.neg (by omega) (Ev.pos (by omega) ?_)
    refine hr.imp ?_
    simp
  | d + 1, i, hi => by
    obtain ⟨b, hb⟩ := get_some (l := s.data.toList) (i := i) (by rw [size_data]; omega)
    have hbt := bt_data hb
    have hbd := hd b (List.mem_of_getElem? hb)
    have wi : Aside0 (wrap64 ((i : Int) + 1) = ((i + 1 : Nat) : Int)) := ⟨by rw [w64 (by omega) (by omega)]; omega⟩
    have et : s.data.toList.take (i + 1) = s.data.toList.take i ++ [b] := by rw [List.take_add_one, hb]; rfl
    have ev : vl 0 (s.data.toList.take (i + 1)) = vl 0 (s.data.toList.take i) * 10 + (b.toNat - 48) := by
      rw [et]; simp only [vl, List.foldl_append, List.foldl_cons, List.foldl_nil]
    have hle : vl 0 (s.data.toList.take (i + 1)) ≤ vl 0 s.data.toList := by
      conv => rhs; rw [← List.take_append_drop (i + 1) s.data.toList]
      simp only [vl, List.foldl_append]
      exact vl_le _ _
    have ih := l2n_val s hd hs hv r hr d (i + 1) (by omega)
    generalize vl 0 (s.data.toList.take (i + 1)) = v1 at *
    generalize vl 0 (s.data.toList.take i) = v0 at *
    generalize vl 0 s.data.toList = vv at *
    have wv : Aside0 (wrap64 (wrap64 ((v0 : Int) * 10) + (bt s (i : Int) - 48) % 256) = (v1 : Int)) := ⟨by
      rw [hbt, w64 (x := (v0 : Int) * 10) (by omega) (by omega), w64 (by omega) (by omega)]; omega⟩
    refine Ev.succ ?_
    simp only [spec_l2Number.l0, wi.out, wv.out]
    exact Ev.pos (by omega) (Ev.pos (by omega) (Ev.neg (by omega) (Ev.neg (by omega) ih)))
theorem l2_num (n : Nat) (h : n ≤ 1000000000) : Ev (fun k => spec_l2Number.f k (bs (Lib.itoa (n : Int)))) ((n : Int), true) := by
  rw [Lib.itoa_nonneg]
  obtain ⟨i1, i2, i3, i4, i5⟩ := dd_digs 9 n (by omega)
  generalize hS : bs (Lib.decDigits n) = S
  have hl : S.data.toList = Lib.decDigits n := by rw [← hS, bs_data]
  have hz : S.size = (Lib.decDigits n).length := by rw [← hS, bs_size]
  obtain ⟨c, hc⟩ := get_some (l := S.data.toList) (i := 0) (by rw [hl]; exact i4)
  have hbt : bt S 0 = (c.toNat : Int) := bt_data hc
  have hcd := i1 c (by rw [← hl]; exact List.mem_of_getElem? hc)
  have hh : bt S 0 = 48 → n = 0 := fun e => by
    refine i5 ?_
    rw [← hl, List.head?_eq_getElem?, hc]
    congr 1
    exact UInt8.toNat_inj.1 (by have : (48 : UInt8).toNat = 48 := rfl; omega)
  have key : Ev (fun k => if (0 : Int) < (S.size : Int) then (if bt S 0 = 48 then spec_l2Number.j4 k false (vl 0 S.data.toList : Nat) (decide ((S.size : Int) > 1)) else spec_l2Number.j4 k false (vl 0 S.data.toList : Nat) false) else none) ((n : Int), true) := by
    rw [hl, i2]
    have j : Ev (fun k => spec_l2Number.j4 k false (n : Int) false) ((n : Int), true) := Ev.succ (by simp only [spec_l2Number.j4]; exact Ev.neg (by decide) (Ev.neg (by decide) (Ev.now _)))
    refine Ev.pos (by omega) ?_
    by_cases c : bt S 0 = 48
    · have h0 := hh c
      have : S.size = 1 := by rw [hz, h0, Lib.decDigits_one (by decide)]; rfl
      rw [this]
      exact Ev.pos c j
    · exact Ev.neg c j
  have l := l2n_val S (by rw [hl]; exact i1) (by omega) (by rw [hl, i2]; omega) _ key S.size 0 (by omega)
  have w : Aside0 (wrap64 ((S.size : Int) - 0) = (S.size : Int)) := ⟨by rw [w64 (by omega) (by omega)]; omega⟩
  have ne : ¬ S.toList = [] := by
    rw [toList_data, hl]; intro h0; rw [h0] at i4; simp at i4
  have nb : (bt S 0 == 45) = false := by rw [beq_eq_false_iff_ne]; omega
  unfold spec_l2Number.f
  rw [nb]
  refine Ev.neg ne (Ev.pos (by omega) (Ev.succ ?_))
  simp only [spec_l2Number.j0]
  refine Ev.neg (by decide) (Ev.succ ?_)
  simp only [spec_l2Number.j1, w.out]
  refine Ev.neg (by omega) (Ev.succ ?_)
  simp only [spec_l2Number.j2]
  exact Ev.neg (by rw [decide_eq_false (by omega)]; decide) l
/-! a move as a text -/
def okM (a b c d : Int) : Prop := (0 ≤ a ∧ a ≤ 7) ∧ (0 ≤ b ∧ b ≤ 7) ∧ (1 ≤ c ∧ c ≤ 1000000000) ∧ (0 ≤ d ∧ d ≤ 999999)
instance (a b c d : Int) : Decidable (okM a b c d) := by unfold okM; infer_instance
def showL (a b c d : Int) : List UInt8 := Lib.itoa a ++ 32 :: (Lib.itoa b ++ 32 :: (Lib.itoa c ++ 32 :: Lib.itoa d))
def showB (a b c d : Int) : ByteArray := if okM a b c d then bs (showL a b c d) else ⟨#[]⟩
theorem in_all (a b c : Int) : spec_l1In.f a b c = some (decide (b ≤ a ∧ a ≤ c)) := by
  unfold spec_l1In.f
  split
  · rename_i h; congr 1; simp; omega
  · rename_i h; congr 1; simp; omega
theorem in_all2 (a b c : Int) : impl_within.f a b c = some (decide (b ≤ a ∧ a ≤ c)) := in_all a b c
theorem moveOk (a b c d : Int) : spec_MoveOk.f a b c d = some (decide (okM a b c d)) ∧ impl_MoveOk.f a b c d = some (decide (okM a b c d)) := by
  unfold spec_MoveOk.f impl_MoveOk.f impl_isAccount.f
  simp only [in_all, in_all2, Option.bind_some, decide_eq_true_eq]
  unfold okM
  by_cases c1 : 0 ≤ a ∧ a ≤ 7
  · by_cases c2 : 0 ≤ b ∧ b ≤ 7
    · by_cases c3 : 1 ≤ c ∧ c ≤ 1000000000
      · simp [c1, c2, c3]
      · simp [c1, c2, c3]
    · simp [c1, c2]
  · simp [c1]
theorem show_ev (a b c d : Int) : Ev (fun k => spec_ShowMove.f k a b c d) (showB a b c d) ∧ impl_ShowMove.f a b c d = some (showB a b c d) := by
  unfold spec_ShowMove.f impl_ShowMove.f showB
  simp only [(moveOk a b c d).1, (moveOk a b c d).2, Option.bind_some]
  by_cases h : okM a b c d
  · have h' := h
    unfold okM at h'
    simp only [decide_eq_true h, if_pos h, dec_some a (by omega) (by omega), dec_some b (by omega) (by omega), dec_some c (by omega) (by omega), dec_some d (by omega) (by omega), Option.bind_some]
    have la := itoa_len a (by omega) (by omega)
    have lb := itoa_len b (by omega) (by omega)
    have lc := itoa_len c (by omega) (by omega)
    have ld := itoa_len d (by omega) (by omega)
    have ea := int_ev a (by omega) (by omega)
    have eb := int_ev b (by omega) (by omega)
    have ec := int_ev c (by omega) (by omega)
    have ed := int_ev d (by omega) (by omega)
    have e : ((((((bs (Lib.itoa a) ++ (⟨#[32]⟩ : ByteArray)) ++ bs (Lib.itoa b)) ++ (⟨#[32]⟩ : ByteArray)) ++ bs (Lib.itoa c)) ++ (⟨#[32]⟩ : ByteArray)) ++ bs (Lib.itoa d)) = bs (showL a b c d) := by
      rw [show (⟨#[32]⟩ : ByteArray) = bs [32] from rfl, bs_app, bs_app, bs_app, bs_app, bs_app, bs_app]
      unfold showL
      congr 1
      simp
    rw [← e]
    generalize bs (Lib.itoa a) = sa at *
    generalize bs (Lib.itoa b) = sb at *
    generalize bs (Lib.itoa c) = sc at *
    generalize bs (Lib.itoa d) = sd at *
    have l32 : (⟨#[32]⟩ : ByteArray).size = 1 := rfl
    refine ⟨Ev.pos trivial (Ev.bind ea (Ev.pos (by omega) (Ev.bind eb (Ev.pos (by simp only [ByteArray.size_append, l32]; omega) (Ev.pos (by simp only [ByteArray.size_append, l32]; omega) (Ev.bind ec (Ev.pos (by simp only [ByteArray.size_append, l32]; omega) (Ev.pos (by simp only [ByteArray.size_append, l32]; omega) (Ev.bind ed (Ev.pos (by simp only [ByteArray.size_append, l32]; omega) (Ev.now _))))))))))), ?_⟩
    rw [if_pos trivial, if_pos (by omega), if_pos (by simp only [ByteArray.size_append, l32]; omega), if_pos (by simp only [ByteArray.size_append, l32]; omega), if_pos (by simp only [ByteArray.size_append, l32]; omega), if_pos (by simp only [ByteArray.size_append, l32]; omega), if_pos (by simp only [ByteArray.size_append, l32]; omega)]
  · simp only [decide_eq_false h, if_neg h]
    exact ⟨Ev.neg (by decide) (Ev.now _), if_neg (by decide)⟩
/-! both readers end -/
def zero5 : Int × Int × Int × Int × Bool := (0, 0, 0, 0, false)
def Told (s : ByteArray) (r : Int × Int × Int × Int × Bool) : Prop := r = zero5 ∨ ∃ a b c d, r = (a, b, c, d, true) ∧ (showB a b c d).toList = s.toList
theorem spec_loop (s : ByteArray) (W : List ByteArray) (hW : ∀ w, w ∈ W → w.size ≤ 4611686018427387904) (hl : W.length ≤ 1048577) : ∀ (d i : Nat) (n : List Int), i + d = W.length → n.length = i →
    ∃ r, Ev (fun k => spec_ReadMove.l0 k s W n (i : Int)) r ∧ Told s r
  | 0, i, n, hi, hn => by
    by_cases c : (n.length : Int) = 4
    · by_cases e : (showB (rd n 0) (rd n 1) (rd n 2) (rd n 3)).toList = s.toList
      · refine ⟨_, Ev.succ ?_, Or.inr ⟨_, _, _, _, rfl, e⟩⟩
        simp only [spec_ReadMove.l0]
        exact Ev.neg (by omega) (Ev.pos c (Ev.pos (by omega) (Ev.pos (by omega) (Ev.pos (by omega) (Ev.pos (by omega) (Ev.bind (show_ev _ _ _ _).1 (Ev.pos e (Ev.now _))))))))
      · refine ⟨zero5, Ev.succ ?_, Or.inl rfl⟩
        simp only [spec_ReadMove.l0]
        exact Ev.neg (by omega) (Ev.pos c (Ev.pos (by omega) (Ev.pos (by omega) (Ev.pos (by omega) (Ev.pos (by omega) (Ev.bind (show_ev _ _ _ _).1 (Ev.neg e (Ev.now _))))))))
    · refine ⟨zero5, Ev.succ ?_, Or.inl rfl⟩
      simp only [spec_ReadMove.l0]
      exact Ev.neg (by omega) (Ev.neg c (Ev.now _))
  | d + 1, i, n, hi, hn => by
    obtain ⟨w, hw⟩ := get_some (l := W) (i := i) (by omega)
    have hr : rdOf ByteArray.empty W (i : Int) = w := by simp [rdOf, List.getD_eq_getElem?_getD, hw]
    obtain ⟨⟨v, ok⟩, e⟩ := l2n_some w (hW w (List.mem_of_getElem? hw))
    cases ok with
    | false =>
      refine ⟨zero5, Ev.succ ?_, Or.inl rfl⟩
      simp only [spec_ReadMove.l0, hr]
      exact Ev.pos (by omega) (Ev.pos (by omega) (Ev.bind e (Ev.neg Bool.false_ne_true (Ev.now _))))
    | true =>
      obtain ⟨r, e2, h⟩ := spec_loop s W hW hl d (i + 1) (n ++ [v]) (by omega) (by simp; omega)
      have wi : Aside0 (wrap64 ((i : Int) + 1) = ((i + 1 : Nat) : Int)) := ⟨by rw [w64 (by omega) (by omega)]; omega⟩
      refine ⟨r, Ev.succ ?_, h⟩
      simp only [spec_ReadMove.l0, hr, wi.out]
      exact Ev.pos (by omega) (Ev.pos (by omega) (Ev.bind e (Ev.pos rfl (Ev.pos (by omega) e2))))
theorem spec_step (s : ByteArray) (W : List ByteArray) (n : List Int) (i : Nat) (w : ByteArray) (v : Int) (r) (hw : W[i]? = some w) (hi : i < 1048577) (hn : n.length = i) (e : Ev (fun k => spec_l2Number.f k w) (v, true)) (h : Ev (fun k => spec_ReadMove.l0 k s W (n ++ [v]) ((i + 1 : Nat) : Int)) r) : Ev (fun k => spec_ReadMove.l0 k s W n (i : Int)) r := by
  have hr : rdOf ByteArray.empty W (i : Int) = w := by simp [rdOf, List.getD_eq_getElem?_getD, hw]
  have wi : Aside0 (wrap64 ((i : Int) + 1) = ((i + 1 : Nat) : Int)) := ⟨by rw [w64 (by omega) (by omega)]; omega⟩
  have hlt := (List.getElem?_eq_some_iff.1 hw).1
  refine Ev.succ ?_
  simp only [spec_ReadMove.l0, hr, wi.out]
  exact Ev.pos (by omega) (Ev.pos (by omega) (Ev.bind e (Ev.pos rfl (Ev.pos (by omega) h))))
theorem impl_loop (s : ByteArray) (W : List ByteArray) (hW : ∀ w, w ∈ W → w.size ≤ 281474976710656) (hl : W.length ≤ 1048577) : ∀ (d i : Nat) (n : List Int), i + d = W.length → n.length = i →
    ∃ r, Ev (fun k => impl_ReadMove.l0 k s n W (W.length : Int) (i : Int)) r ∧ Told s r
  | 0, i, n, hi, hn => by
    by_cases c : (n.length : Int) = 4
    · by_cases z : s.toList = ([] : List UInt8)
      · refine ⟨zero5, Ev.succ ?_, Or.inl rfl⟩
        simp only [impl_ReadMove.l0]
        exact Ev.neg (by omega) (Ev.pos c (Ev.pos (by omega) (Ev.pos (by omega) (Ev.pos (by omega) (Ev.pos (by omega) (Ev.pos z (Ev.now _)))))))
      · by_cases e : (showB (rd n 0) (rd n 1) (rd n 2) (rd n 3)).toList = s.toList
        · refine ⟨_, Ev.succ ?_, Or.inr ⟨_, _, _, _, rfl, e⟩⟩
          simp only [impl_ReadMove.l0]
          exact Ev.neg (by omega) (Ev.pos c (Ev.pos (by omega) (Ev.pos (by omega) (Ev.pos (by omega) (Ev.pos (by omega) (Ev.neg z (Ev.bind (Ev.const (show_ev _ _ _ _).2) (Ev.pos e (Ev.now _)))))))))
        · refine ⟨zero5, Ev.succ ?_, Or.inl rfl⟩
          simp only [impl_ReadMove.l0]
          exact Ev.neg (by omega) (Ev.pos c (Ev.pos (by omega) (Ev.pos (by omega) (Ev.pos (by omega) (Ev.pos (by omega) (Ev.neg z (Ev.bind (Ev.const (show_ev _ _ _ _).2) (Ev.neg e (Ev.now _)))))))))
    · refine ⟨zero5, Ev.succ ?_, Or.inl rfl⟩
      simp only [impl_ReadMove.l0]
      exact Ev.neg (by omega) (Ev.neg c (Ev.now _))
  | d + 1, i, n, hi, hn => by
    obtain ⟨w, hw⟩ := get_some (l := W) (i := i) (by omega)
    have hr : rdOf ByteArray.empty W (i : Int) = w := by simp [rdOf, List.getD_eq_getElem?_getD, hw]
    obtain ⟨⟨v, ok⟩, e⟩ := number_some w (hW w (List.mem_of_getElem? hw))
    obtain ⟨r, e2, h⟩ := impl_loop s W hW hl d (i + 1) (n ++ [v]) (by omega) (by simp; omega)
    have wi : Aside0 (wrap64 ((i : Int) + 1) = ((i + 1 : Nat) : Int)) := ⟨by rw [w64 (by omega) (by omega)]; omega⟩
    refine ⟨r, Ev.succ ?_, h⟩
    simp only [impl_ReadMove.l0, hr, wi.out]
    exact Ev.pos (by omega) (Ev.pos (by omega) (Ev.pos (by omega) (Ev.bind (Ev.const e) (Ev.pos (by omega) e2))))
theorem impl_step (s : ByteArray) (W : List ByteArray) (n : List Int) (i : Nat) (w : ByteArray) (v : Int) (r) (hw : W[i]? = some w) (hi : i < 1048577) (hn : n.length = i) (e : impl_number.f w = some (v, true)) (h : Ev (fun k => impl_ReadMove.l0 k s (n ++ [v]) W (W.length : Int) ((i + 1 : Nat) : Int)) r) : Ev (fun k => impl_ReadMove.l0 k s n W (W.length : Int) (i : Int)) r := by
  have hr : rdOf ByteArray.empty W (i : Int) = w := by simp [rdOf, List.getD_eq_getElem?_getD, hw]
  have wi : Aside0 (wrap64 ((i : Int) + 1) = ((i + 1 : Nat) : Int)) := ⟨by rw [w64 (by omega) (by omega)]; omega⟩
  have hlt := (List.getElem?_eq_some_iff.1 hw).1
  refine Ev.succ ?_
  simp only [impl_ReadMove.l0, hr, wi.out]
  exact Ev.pos (by omega) (Ev.pos (by omega) (Ev.pos (by omega) (Ev.bind (Ev.const e) (Ev.pos (by omega) h))))
theorem spec_tot (s : ByteArray) (hs : s.size ≤ 1048576) : ∃ r, Ev (fun k => spec_ReadMove.f k s) r ∧ Told s r := by
  have hW : ∀ w, w ∈ ws [] s.data.toList → w.size ≤ 4611686018427387904 := fun w hw => by
    have := ws_small _ _ w hw
    rw [size_data] at this
    simp at this; omega
  have hl := ws_len s.data.toList []
  rw [size_data] at hl
  obtain ⟨r, e, h⟩ := spec_loop s (ws [] s.data.toList) hW (by omega) _ 0 [] (Nat.zero_add _) rfl
  exact ⟨r, Ev.bind (words_ev s hs) e, h⟩
theorem impl_tot (s : ByteArray) (hs : s.size ≤ 1048576) : ∃ r, Ev (fun k => impl_ReadMove.f k s) r ∧ Told s r := by
  have hsp : strings_Split.f s ⟨#[32]⟩ = some (Lib.splitB ⟨#[32]⟩ 0 (Lib.countB s ⟨#[32]⟩) s) := by
    unfold strings_Split.f
    rw [if_pos ⟨by omega, rfl⟩]
  have hW : ∀ w, w ∈ Lib.splitB ⟨#[32]⟩ 0 (Lib.countB s ⟨#[32]⟩) s → w.size ≤ 281474976710656 := fun w hw => by
    have := split_small _ _ w hw
    omega
  have hc := Lib.countB_le ⟨#[32]⟩ (by decide) s.size s (Nat.le_refl _)
  have hl := Lib.splitB_length_le ⟨#[32]⟩ 0 (Lib.countB s ⟨#[32]⟩) s
  obtain ⟨r, e, h⟩ := impl_loop s _ hW (by omega) _ 0 [] (Nat.zero_add _) rfl
  exact ⟨r, Ev.bind (Ev.const hsp) e, h⟩
/-! what is shown is read -/
theorem itoa_no32 (n : Nat) (h : n ≤ 1000000000) : (32 : UInt8) ∉ Lib.itoa (n : Int) := by rw [Lib.itoa_nonneg]; exact dig_no 32 (Or.inl rfl) 9 n (by omega)
theorem both_at (a b c d : Int) (h : okM a b c d) : Ev (fun k => spec_ReadMove.f k (bs (showL a b c d))) (a, b, c, d, true) ∧ Ev (fun k => impl_ReadMove.f k (bs (showL a b c d))) (a, b, c, d, true) := by
  have h' := h
  unfold okM at h'
  obtain ⟨a, rfl⟩ := Int.eq_ofNat_of_zero_le h'.1.1
  obtain ⟨b, rfl⟩ := Int.eq_ofNat_of_zero_le h'.2.1.1
  obtain ⟨c, rfl⟩ := Int.eq_ofNat_of_zero_le (show 0 ≤ c by omega)
  obtain ⟨d, rfl⟩ := Int.eq_ofNat_of_zero_le h'.2.2.2.1
  have na := itoa_no32 a (by omega)
  have nb := itoa_no32 b (by omega)
  have nc := itoa_no32 c (by omega)
  have nd := itoa_no32 d (by omega)
  have hB : showB a b c d = bs (showL a b c d) := by unfold showB; rw [if_pos h]
  have sh := show_ev a b c d
  rw [hB] at sh
  have hsz : (bs (showL a b c d)).size ≤ 1048576 := by
    have la := itoa_len (a : Int) (by omega) (by omega)
    have lb := itoa_len (b : Int) (by omega) (by omega)
    have lc := itoa_len (c : Int) (by omega) (by omega)
    have ld := itoa_len (d : Int) (by omega) (by omega)
    rw [bs_size] at la lb lc ld ⊢
    unfold showL
    simp only [List.length_append, List.length_cons]
    omega
  have hws : ws [] (bs (showL a b c d)).data.toList = [bs (Lib.itoa a), bs (Lib.itoa b), bs (Lib.itoa c), bs (Lib.itoa d)] := by
    rw [bs_data]
    unfold showL
    rw [ws_cut _ _ _ na, ws_cut _ _ _ nb, ws_cut _ _ _ nc, ws_end _ _ nd]
    rfl
  have hct : Lib.countB (bs (showL a b c d)) ⟨#[32]⟩ = 3 := by
    show Lib.count (bs (showL a b c d)).data.toList [32] = 3
    rw [bs_data, Lib.count_one]
    unfold showL
    simp [List.count_append, List.count_cons, List.count_eq_zero_of_not_mem na, List.count_eq_zero_of_not_mem nb, List.count_eq_zero_of_not_mem nc, List.count_eq_zero_of_not_mem nd]
  have hsp : strings_Split.f (bs (showL a b c d)) ⟨#[32]⟩ = some [bs (Lib.itoa a), bs (Lib.itoa b), bs (Lib.itoa c), bs (Lib.itoa d)] := by
    unfold strings_Split.f
    rw [if_pos ⟨by omega, rfl⟩, hct]
    unfold showL
    rw [split_cut _ _ na, split_cut _ _ nb, split_cut _ _ nc, Lib.splitB_zero]
  have hne : ¬ (bs (showL a b c d)).toList = ([] : List UInt8) := by
    rw [toList_data, bs_data]
    unfold showL
    simp
  constructor
  · refine Ev.bind (words_ev _ hsz) ?_
    rw [hws]
    refine spec_step _ _ [] 0 _ _ _ rfl (by decide) rfl (l2_num a (by omega)) ?_
    refine spec_step _ _ _ 1 _ _ _ rfl (by decide) rfl (l2_num b (by omega)) ?_
    refine spec_step _ _ _ 2 _ _ _ rfl (by decide) rfl (l2_num c (by omega)) ?_
    refine spec_step _ _ _ 3 _ _ _ rfl (by decide) rfl (l2_num d (by omega)) ?_
    refine Ev.succ ?_
    simp only [spec_ReadMove.l0]
    exact Ev.neg (Int.lt_irrefl 4) (Ev.pos rfl (Ev.pos (show (0 : Int) < 4 by decide) (Ev.pos (show (1 : Int) < 4 by decide) (Ev.pos (show (2 : Int) < 4 by decide) (Ev.pos (show (3 : Int) < 4 by decide) (Ev.bind sh.1 (Ev.pos rfl (Ev.now _))))))))
  · refine Ev.bind (Ev.const hsp) ?_
    refine impl_step _ [bs (Lib.itoa a), bs (Lib.itoa b), bs (Lib.itoa c), bs (Lib.itoa d)] [] 0 _ _ _ rfl (by decide) rfl (number_at a (by omega)) ?_
    refine impl_step _ _ _ 1 _ _ _ rfl (by decide) rfl (number_at b (by omega)) ?_
    refine impl_step _ _ _ 2 _ _ _ rfl (by decide) rfl (number_at c (by omega)) ?_
    refine impl_step _ _ _ 3 _ _ _ rfl (by decide) rfl (number_at d (by omega)) ?_
    refine Ev.succ ?_
    simp only [impl_ReadMove.l0]
    exact Ev.neg (Int.lt_irrefl 4) (Ev.pos rfl (Ev.pos (show (0 : Int) < 4 by decide) (Ev.pos (show (1 : Int) < 4 by decide) (Ev.pos (show (2 : Int) < 4 by decide) (Ev.pos (show (3 : Int) < 4 by decide) (Ev.neg hne (Ev.bind (Ev.const sh.2) (Ev.pos rfl (Ev.now _)))))))))
theorem both_none : Ev (fun k => spec_ReadMove.f k ⟨#[]⟩) zero5 ∧ Ev (fun k => impl_ReadMove.f k ⟨#[]⟩) zero5 :=
  ⟨Ev.of (k := 30) (fun k => spec_ReadMove.mono _ k) (by decide +kernel), Ev.of (k := 30) (fun k => impl_ReadMove.mono _ k) (by decide +kernel)⟩
theorem both (s : ByteArray) (hs : s.size ≤ 1048576) : ∃ r, Ev (fun k => spec_ReadMove.f k s) r ∧ Ev (fun k => impl_ReadMove.f k s) r := by
  by_cases z : s.toList = ([] : List UInt8)
  · have : s = ⟨#[]⟩ := by rw [← bs_of s, ← toList_data, z]; rfl
    rw [this]
    exact ⟨zero5, both_none⟩
  · have shape : ∀ a b c d, (showB a b c d).toList = s.toList → okM a b c d ∧ s = bs (showL a b c d) := fun a b c d e => by
      unfold showB at e
      by_cases h : okM a b c d
      · rw [if_pos h, toList_data, toList_data, bs_data] at e
        exact ⟨h, by rw [e, bs_of]⟩
      · rw [if_neg h] at e
        exact absurd (by rw [← e, toList_data]) z
    obtain ⟨r1, e1, h1⟩ := spec_tot s hs
    obtain ⟨r2, e2, h2⟩ := impl_tot s hs
    rcases h1 with rfl | ⟨a, b, c, d, _, e⟩
    · rcases h2 with rfl | ⟨a, b, c, d, _, e⟩
      · exact ⟨_, e1, e2⟩
      · obtain ⟨h, rfl⟩ := shape _ _ _ _ e
        exact ⟨_, both_at a b c d h⟩
    · obtain ⟨h, rfl⟩ := shape _ _ _ _ e
      exact ⟨_, both_at a b c d h⟩
theorem FnExactReadMove : laws_FnExactReadMove.Pure := by
  intro s _
  refine Ev.rounds (g := fun k => laws_FnExactReadMove.f k s) ?_
  unfold laws_FnExactReadMove.f
  refine Ev.ite (fun _ => Ev.now _) (fun h => ?_)
  obtain ⟨⟨a, b, c, d, o⟩, e1, e2⟩ := both s (by omega)
  refine Ev.bind e1 (Ev.bind e2 ?_)
  simp only [laws_eqMove.f, if_true, Option.bind_some]
  exact Ev.neg (by simp) (Ev.now _)
end Go.Proofs.YtokfpmkhfindmaaDoor.Pure
