/- Any two quorums of the program share more servers than may lie, and a quorum is there where all others lie: for every code. No condition. -/
import Derived.Test.YtgpofolfflfgiaaPFnQuorumsx2
namespace Go.Proofs.Ytgpofolfflfgiaa.Pure
open Go.RowKit Go.Proofs.Ytgpofolfflfgiaa.PFnQuorums Go.Proofs.YtgpofolfflfgiaaW.PrintWords Go.Proofs.YtgpofolfflfgiaaW.PrintLast Go.Proofs.YtgpofolfflfgiaaW.PrintMore

theorem w64 {x : Int} (h0 : -9223372036854775808 ≤ x) (h1 : x < 9223372036854775808) : wrap64 x = x := by
  unfold wrap64
  omega

/-! draws -/
theorem and255 (n : Int) : 0 ≤ Go.bits .and .i64 n 255 ∧ Go.bits .and .i64 n 255 ≤ 255 := by
  have h : (BitVec.ofInt 64 255).toNat = 2 ^ 8 - 1 := by decide
  have key : (BitVec.ofInt 64 n &&& BitVec.ofInt 64 255).toNat = (n % ((2 ^ 64 : Nat) : Int)).toNat % 2 ^ 8 := by
    rw [BitVec.toNat_and, BitVec.toNat_ofInt, h, Nat.and_two_pow_sub_one_eq_mod]
  have e : Go.bits .and .i64 n 255 = IntKind.i64.wrap ((BitVec.ofInt 64 n &&& BitVec.ofInt 64 255).toNat : Nat) := rfl
  rw [e, key, IntKind.wrap_i64]
  omega

theorem new_l0 (x0 : List Int) : ∀ (d k : Nat) (x3 x4 : Int), 0 ≤ x4 → x4 ≤ (x0.length : Int) → (x0.length : Int) - x4 = d → d < k → (x0.length : Int) < 9223372036854775807 → ∃ h, spec_l1New.l0 k x0 x3 x4 = some (x0, 0, h)
  | 0, k, x3, x4, h0, h1, h2, h3, h4 => by
    obtain ⟨k, rfl⟩ : ∃ m, k = m + 1 := ⟨k - 1, by omega⟩
    simp only [spec_l1New.l0]
    rw [if_neg (by omega)]
    exact ⟨_, rfl⟩
  | d + 1, k, x3, x4, h0, h1, h2, h3, h4 => by
    obtain ⟨k, rfl⟩ : ∃ m, k = m + 1 := ⟨k - 1, by omega⟩
    simp only [spec_l1New.l0]
    rw [if_pos (by omega), if_pos h0, w64 (x := x4 + 1) (by omega) (by omega)]
    exact new_l0 x0 d k _ _ (by omega) (by omega) (by omega) (by omega) h4
theorem new_some (x0 : List Int) (hl : (x0.length : Int) < 9223372036854775807) (k : Nat) (hk : x0.length < k) : ∃ h, spec_l1New.f k x0 = some (x0, 0, h) := by
  unfold spec_l1New.f
  exact new_l0 x0 x0.length k _ 0 (by omega) (by omega) (by omega) (by omega) hl
theorem byte_some (l : List Int) (hl : (l.length : Int) < 9223372036854775807) (i h : Int) (h0 : 0 ≤ i) (h1 : i ≤ l.length) : ∃ b i' h', spec_l1Byte.f l i h = some (b, i', h') ∧ 0 ≤ b ∧ b ≤ 255 ∧ 0 ≤ i' ∧ i' ≤ l.length := by
  unfold spec_l1Byte.f
  by_cases hlt : i < (l.length : Int)
  · rw [if_pos hlt, if_pos h0]
    exact ⟨_, _, _, rfl, (and255 _).1, (and255 _).2, by rw [w64 (by omega) (by omega)]; omega, by rw [w64 (by omega) (by omega)]; omega⟩
  · rw [if_neg hlt]
    exact ⟨_, _, _, rfl, (and255 _).1, (and255 _).2, h0, h1⟩
theorem tmod_in {a b : Int} (h0 : 0 ≤ a) (h1 : 0 < b) : 0 ≤ Int.tmod a b ∧ Int.tmod a b < b := by
  rw [Int.tmod_eq_emod_of_nonneg h0]
  exact ⟨Int.emod_nonneg _ (by omega), Int.emod_lt_of_pos _ h1⟩
theorem below_some (l : List Int) (hl : (l.length : Int) < 9223372036854775807) (i h n : Int) (h0 : 0 ≤ i) (h1 : i ≤ l.length) : ∃ b i' h', spec_l1Below.f l i h n = some (b, i', h') ∧ 0 ≤ b ∧ (0 < n → b < n) ∧ (n ≤ 0 → b = 0) ∧ 0 ≤ i' ∧ i' ≤ l.length := by
  unfold spec_l1Below.f
  by_cases hn : n ≤ 0
  · rw [if_pos hn]
    exact ⟨_, _, _, rfl, by omega, by omega, fun _ => rfl, h0, h1⟩
  · rw [if_neg hn]
    by_cases hn2 : n ≤ 256
    · rw [if_pos hn2]
      obtain ⟨b, i', h', e, hb0, hb1, hi0, hi1⟩ := byte_some l hl i h h0 h1
      rw [e]
      simp only [Option.bind_some]
      rw [if_neg (by omega)]
      have := tmod_in hb0 (b := n) (by omega)
      exact ⟨_, _, _, rfl, this.1, fun _ => this.2, by omega, hi0, hi1⟩
    · rw [if_neg hn2]
      obtain ⟨b1, i1, h1', e1, _, _, hi0, hi1⟩ := byte_some l hl i h h0 h1
      obtain ⟨b2, i2, h2', e2, _, _, hi0, hi1⟩ := byte_some l hl i1 h1' hi0 hi1
      obtain ⟨b3, i3, h3', e3, _, _, hi0, hi1⟩ := byte_some l hl i2 h2' hi0 hi1
      obtain ⟨b4, i4, h4', e4, _, _, hi0, hi1⟩ := byte_some l hl i3 h3' hi0 hi1
      rw [e1]; simp only [Option.bind_some]
      rw [e2]; simp only [Option.bind_some]
      rw [e3]; simp only [Option.bind_some]
      rw [e4]; simp only [Option.bind_some]
      rw [if_neg (by omega)]
      rw [w64 (x := b1 * 16777216) (by omega) (by omega), w64 (x := b2 * 65536) (by omega) (by omega), w64 (x := b3 * 256) (by omega) (by omega), w64 (x := b1 * 16777216 + b2 * 65536) (by omega) (by omega), w64 (x := b1 * 16777216 + b2 * 65536 + b3 * 256) (by omega) (by omega), w64 (x := b1 * 16777216 + b2 * 65536 + b3 * 256 + b4) (by omega) (by omega)]
      have := tmod_in (a := b1 * 16777216 + b2 * 65536 + b3 * 256 + b4) (by omega) (b := n) (by omega)
      exact ⟨_, _, _, rfl, this.1, fun _ => this.2, by omega, hi0, hi1⟩

/-! pick -/
theorem wf_u8 {l : List Int} (h : ∀ x ∈ l, (Lit.int .u8 x).wf = true) (i : Int) : 0 ≤ rd l i ∧ rd l i ≤ 255 := by
  unfold rd
  rw [List.getD_eq_getElem?_getD]
  cases e : l[i.toNat]? with
  | none => simp
  | some v =>
    have := h v (List.mem_of_getElem? e)
    simp only [Option.getD_some]
    simp [Lit.wf, IntKind.min, IntKind.max, IntKind.bits, IntKind.signed] at this
    omega
theorem pick_l0 (l : List Int) (hu : ∀ x ∈ l, (Lit.int .u8 x).wf = true) (hl : (l.length : Int) < 9223372036854775807) (s n : Int) (hs0 : 0 ≤ s) (hs : s ≤ 1000000) (hn : 0 < n) : ∀ (d k : Nat) (x i : Int), 0 ≤ x → x < 1000000000000 → 0 ≤ i → i ≤ l.length → (l.length : Int) - i = d → d < k → ∃ r, laws_pick.l0 k l s n x i = some r ∧ 0 ≤ r ∧ r < n
  | 0, k, x, i, hx0, hx1, h0, h1, h2, h3 => by
    obtain ⟨k, rfl⟩ : ∃ m, k = m + 1 := ⟨k - 1, by omega⟩
    simp only [laws_pick.l0]
    rw [if_neg (by omega), if_neg (by omega)]
    exact ⟨_, rfl, tmod_in hx0 hn⟩
  | d + 1, k, x, i, hx0, hx1, h0, h1, h2, h3 => by
    obtain ⟨k, rfl⟩ : ∃ m, k = m + 1 := ⟨k - 1, by omega⟩
    simp only [laws_pick.l0]
    have hb := wf_u8 hu i
    rw [if_pos (by omega), if_pos h0, w64 (x := i + 1) (by omega) (by omega), w64 (x := rd l i) (by omega) (by omega), w64 (x := x * 131) (by omega) (by omega), w64 (x := x * 131 + rd l i) (by omega) (by omega), w64 (x := x * 131 + rd l i + s) (by omega) (by omega)]
    have := tmod_in (a := x * 131 + rd l i + s) (by omega) (b := 1000003) (by omega)
    exact pick_l0 l hu hl s n hs0 hs hn d k _ _ (by omega) (by omega) (by omega) (by omega) (by omega) (by omega)
theorem pick_some (l : List Int) (hu : ∀ x ∈ l, (Lit.int .u8 x).wf = true) (hl : (l.length : Int) ≤ 4096) (s n : Int) (hs0 : 0 ≤ s) (hs : s ≤ 1000000) (hn : 0 < n) (k : Nat) (hk : l.length < k) : ∃ r, laws_pick.f k l s n = some r ∧ 0 ≤ r ∧ r < n := by
  unfold laws_pick.f
  rw [w64 (x := 7919 * s) (by omega) (by omega), w64 (x := l.length + 7919 * s) (by omega) (by omega)]
  exact pick_l0 l hu (by omega) s n hs0 hs hn l.length k _ 0 (by omega) (by omega) (by omega) (by omega) (by omega) (by omega)

/-! quorums -/
theorem bit_le (p q i : Nat) : p / 2 ^ i % 2 + q / 2 ^ i % 2 ≤ 1 + (p &&& q) / 2 ^ i % 2 := by
  have h := Nat.testBit_and p q i
  rw [Nat.testBit_eq_decide_div_mod_eq, Nat.testBit_eq_decide_div_mod_eq, Nat.testBit_eq_decide_div_mod_eq] at h
  have a1 : p / 2 ^ i % 2 < 2 := Nat.mod_lt _ (by omega)
  have a2 : q / 2 ^ i % 2 < 2 := Nat.mod_lt _ (by omega)
  by_cases h1 : p / 2 ^ i % 2 = 1
  · by_cases h2 : q / 2 ^ i % 2 = 1
    · simp only [h1, h2, decide_true, Bool.and_self, decide_eq_true_eq] at h
      omega
    · omega
  · omega
theorem and_nat (p q : Nat) (hp : p < 9223372036854775808) : Go.bits .and .i64 (p : Int) (q : Int) = ((p &&& q : Nat) : Int) ∨ 9223372036854775808 ≤ q := by
  by_cases hq : q < 9223372036854775808
  · left
    have e : Go.bits .and .i64 (p : Int) (q : Int) = IntKind.i64.wrap ((BitVec.ofInt 64 p &&& BitVec.ofInt 64 q).toNat : Nat) := rfl
    rw [e, BitVec.toNat_and, BitVec.toNat_ofInt, BitVec.toNat_ofInt]
    have e1 : ((p : Int) % ((2 ^ 64 : Nat) : Int)).toNat = p := by omega
    have e2 : ((q : Int) % ((2 ^ 64 : Nat) : Int)).toNat = q := by omega
    rw [e1, e2, IntKind.wrap_i64]
    have := Nat.and_le_left (n := p) (m := q)
    omega
  · right; omega
theorem u64w {i : Int} (h0 : 0 ≤ i) (h1 : i < 64) : IntKind.u64.wrap i = i := by
  simp [IntKind.wrap, IntKind.bits, IntKind.signed]
  omega
theorem sh_bit (p : Nat) (i : Int) (h0 : 0 ≤ i) (h1 : i < 64) : Int.tmod (shr .i64 (p : Int) (IntKind.u64.wrap i)) 2 = ((p / 2 ^ i.toNat % 2 : Nat) : Int) := by
  rw [u64w h0 h1]
  unfold shr
  rw [Nat.min_eq_left (by simp [IntKind.bits]; omega)]
  have e : (p : Int) / 2 ^ i.toNat = ((p / 2 ^ i.toNat : Nat) : Int) := by simp
  rw [e, Int.tmod_eq_emod_of_nonneg (Int.natCast_nonneg _)]
  omega

/-- The inner loop: what is counted of both is at least what is counted of the one and of the other, but the places. -/
theorem inner (c : List Int) (n q f all : Int) (hn : 0 ≤ n ∧ n ≤ 7) (hq : n + f < 2 * q) (k0 : Nat) (a b : Nat) (ha : a < 1000) (hb : b < 1000) :
    ∀ (d k : Nat) (x y z i : Int), 0 ≤ i → i ≤ n → n - i = d → d < k → k - d - 1 = k0 → 0 ≤ x → x ≤ i → 0 ≤ y → y ≤ i → 0 ≤ z → z ≤ i → x + y ≤ i + z →
      laws_FnQuorums.l1 k c n q f all a b x y z i = laws_FnQuorums.l0 k0 c n q f all (wrap64 (a + 1))
  | 0, k, x, y, z, i, h0, h1, h2, h3, hk, x0, x1, y0, y1, z0, z1, hs => by
    obtain ⟨k, rfl⟩ : ∃ m, k = m + 1 := ⟨k - 1, by omega⟩
    have : k = k0 := by omega
    subst this
    simp only [laws_FnQuorums.l1]
    rw [if_neg (by omega)]
    by_cases c1 : x ≥ q
    · rw [if_pos c1]
      by_cases c2 : y ≥ q
      · rw [if_pos c2, if_neg (by omega)]
      · rw [if_neg c2]
    · rw [if_neg c1]
  | d + 1, k, x, y, z, i, h0, h1, h2, h3, hk, x0, x1, y0, y1, z0, z1, hs => by
    obtain ⟨k, rfl⟩ : ∃ m, k = m + 1 := ⟨k - 1, by omega⟩
    simp only [laws_FnQuorums.l1]
    rw [if_pos (by omega), if_pos (by rw [u64w h0 (by omega)]; exact h0)]
    have hand : Go.bits .and .i64 (a : Int) (b : Int) = ((a &&& b : Nat) : Int) := (and_nat a b (by omega)).resolve_right (by omega)
    rw [hand, sh_bit a i h0 (by omega), sh_bit b i h0 (by omega), sh_bit (a &&& b) i h0 (by omega)]
    have hbit := bit_le a b i.toNat
    have a1 : a / 2 ^ i.toNat % 2 < 2 := Nat.mod_lt _ (by omega)
    have a2 : b / 2 ^ i.toNat % 2 < 2 := Nat.mod_lt _ (by omega)
    have a3 : (a &&& b) / 2 ^ i.toNat % 2 < 2 := Nat.mod_lt _ (by omega)
    generalize a / 2 ^ i.toNat % 2 = p1 at *
    generalize b / 2 ^ i.toNat % 2 = p2 at *
    generalize (a &&& b) / 2 ^ i.toNat % 2 = p3 at *
    rw [w64 (x := x + (p1 : Int)) (by omega) (by omega), w64 (x := y + (p2 : Int)) (by omega) (by omega), w64 (x := z + (p3 : Int)) (by omega) (by omega), w64 (x := i + 1) (by omega) (by omega)]
    exact inner c n q f all hn hq k0 a b ha hb d k _ _ _ _ (by omega) (by omega) (by omega) (by omega) (by omega) (by omega) (by omega) (by omega) (by omega) (by omega) (by omega) (by omega)

theorem outer (c : List Int) (hu : ∀ x ∈ c, (Lit.int .u8 x).wf = true) (hl : (c.length : Int) ≤ 4096) (n q f all : Int) (hn : 0 ≤ n ∧ n ≤ 7) (hq : n + f < 2 * q) (hall : 0 ≤ all ∧ all ≤ 1000) (hend : n - f ≥ q) (hqf : q > f) (hf : 0 ≤ f) :
    ∀ (d k : Nat) (a : Int), 0 ≤ a → a ≤ all → all - a = d → d * 10 + 5000 < k → laws_FnQuorums.l0 k c n q f all a = some true
  | 0, k, a, h0, h1, h2, h3 => by
    obtain ⟨k, rfl⟩ : ∃ m, k = m + 1 := ⟨k - 1, by omega⟩
    simp only [laws_FnQuorums.l0]
    rw [if_neg (by omega), w64 (x := n - f) (by omega) (by omega), if_pos hend]
    simp [hqf]
  | d + 1, k, a, h0, h1, h2, h3 => by
    obtain ⟨k, rfl⟩ : ∃ m, k = m + 1 := ⟨k - 1, by omega⟩
    simp only [laws_FnQuorums.l0]
    rw [if_pos (by omega)]
    obtain ⟨b, hb, hb0, hb1⟩ := pick_some c hu hl a all h0 (by omega) (by omega) k (by omega)
    rw [hb]
    simp only [Option.bind_some]
    obtain ⟨a', rfl⟩ := Int.eq_ofNat_of_zero_le h0
    obtain ⟨b', rfl⟩ := Int.eq_ofNat_of_zero_le hb0
    rw [inner c n q f all hn hq (k - n.toNat - 1) a' b' (by omega) (by omega) n.toNat k 0 0 0 0 (by omega) (by omega) (by omega) (by omega) (by omega) (by omega) (by omega) (by omega) (by omega) (by omega) (by omega) (by omega), w64 (x := (a' : Int) + 1) (by omega) (by omega)]
    exact outer c hu hl n q f all hn hq hall hend hqf hf d _ _ (by omega) (by omega) (by omega) (by omega)

theorem quorums_at (c : List Int) (hu : ∀ x ∈ c, (Lit.int .u8 x).wf = true) (hl : (c.length : Int) ≤ 4096) (k : Nat) (hk : 20000 ≤ k) (n q f all : Int) (hn : 0 ≤ n ∧ n ≤ 7) (hq : n + f < 2 * q) (hall : 0 ≤ all ∧ all ≤ 1000) (hend : n - f ≥ q) (hqf : q > f) (hf : 0 ≤ f) (e1 : wrap64 (Int.tdiv (wrap64 (n - 1)) 3) = f) (e2 : shl .i64 1 n = all) : laws_FnQuorums.j0 k c n q false = some true := by
  obtain ⟨k, rfl⟩ : ∃ m, k = m + 1 := ⟨k - 1, by omega⟩
  simp only [laws_FnQuorums.j0]
  rw [if_neg (by decide), if_pos (by rw [u64w hn.1 (by omega)]; omega), u64w hn.1 (by omega), e1, e2]
  exact outer c hu hl n q f all hn hq hall hend hqf hf all.toNat k 0 (by omega) (by omega) (by omega) (by omega)

theorem FnQuorums : laws_FnQuorums.Pure := by
  intro c hm hr hu
  by_cases hbig : (c.length : Int) > 4096
  · refine ⟨0, ?_⟩
    unfold laws_FnQuorums.f laws_big.f
    simp [hbig]
  · refine ⟨20001, ?_⟩
    unfold laws_FnQuorums.f laws_big.f
    have hl : (c.length : Int) ≤ 4096 := by omega
    simp only [hbig, decide_false, Option.bind_some, Bool.false_eq_true, if_false]
    have hd : ∃ n, spec_DrawQuorum.f 20001 c = some n ∧ n ∈ [(-1 : Int), 0, 1, 2, 3, 4, 5, 7, 10, 4611686018427387904] := by
      unfold spec_DrawQuorum.f
      obtain ⟨h, e⟩ := new_some c (by omega) 20001 (by omega)
      rw [e]
      simp only [Option.bind_some]
      obtain ⟨b, i', h', e2, b0, b1, _, _, _⟩ := below_some c (by omega) 0 h 10 (by omega) (by omega)
      rw [e2]
      simp only [Option.bind_some, List.length_cons, List.length_nil]
      rw [if_pos b0, if_pos (by have := b1 (by omega); omega)]
      refine ⟨_, rfl, ?_⟩
      have b1 := b1 (by omega)
      unfold rd
      obtain ⟨m, rfl⟩ := Int.eq_ofNat_of_zero_le b0
      have hm : m < 10 := by omega
      simp only [Int.toNat_natCast]
      rw [List.getD_eq_getElem?_getD, List.getElem?_eq_getElem (by simp; omega), Option.getD_some]
      exact List.getElem_mem _
    obtain ⟨n, en, hn⟩ := hd
    rw [en]
    simp only [Option.bind_some]
    unfold impl_Quorum.f spec_Quorum.f spec_l15Servers.f
    simp only [List.mem_cons, List.not_mem_nil, or_false] at hn
    rcases hn with rfl | rfl | rfl | rfl | rfl | rfl | rfl | rfl | rfl | rfl
    · simp [laws_FnQuorums.j0]
    · simp [laws_FnQuorums.j0]
    · simp [wrap64]
      exact quorums_at c hu hl _ (by omega) 1 1 0 2 (by omega) (by omega) (by omega) (by omega) (by omega) (by omega) (by decide +kernel) (by decide +kernel)
    · simp [laws_FnQuorums.j0]
    · simp [laws_FnQuorums.j0]
    · simp [wrap64]
      exact quorums_at c hu hl _ (by omega) 4 3 1 16 (by omega) (by omega) (by omega) (by omega) (by omega) (by omega) (by decide +kernel) (by decide +kernel)
    · simp [laws_FnQuorums.j0]
    · simp [wrap64]
      exact quorums_at c hu hl _ (by omega) 7 5 2 128 (by omega) (by omega) (by omega) (by omega) (by omega) (by omega) (by decide +kernel) (by decide +kernel)
    · simp [laws_FnQuorums.j0]
    · simp [laws_FnQuorums.j0]

end Go.Proofs.Ytgpofolfflfgiaa.Pure
