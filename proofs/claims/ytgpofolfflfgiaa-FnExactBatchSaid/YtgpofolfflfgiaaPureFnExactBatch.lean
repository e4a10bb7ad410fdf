/- The program's Batch returns what the reference's Batch returns, for every list of writes. No condition. -/
import Derived.Test.YtgpofolfflfgiaaBoilFnExactBatch
namespace Go.Proofs.Ytgpofolfflfgiaa.Pure
open Go.RowKit Go.Proofs.Ytgpofolfflfgiaa.PFnExactBatch Go.Proofs.YtgpofolfflfgiaaW.PrintWords Go.Proofs.YtgpofolfflfgiaaW.PrintLast Go.Proofs.YtgpofolfflfgiaaW.PrintMore
set_option maxRecDepth 100000
set_option linter.unusedVariables false
set_option linter.unusedSimpArgs false
theorem within_eq (a b c : Int) : impl_within.f a b c = some (decide (b ≤ a ∧ a ≤ c)) := by
  unfold impl_within.f
  split
  · rename_i h; congr 1; simp; omega
  · rename_i h; congr 1; simp; omega
theorem in_eq (a b c : Int) : spec_l1In.f a b c = some (decide (b ≤ a ∧ a ≤ c)) := by
  unfold spec_l1In.f
  split
  · rename_i h; congr 1; simp; omega
  · rename_i h; congr 1; simp; omega
/-! a number, seven bits to a byte -/
def numF : Nat → Nat → List Int
  | 0, n => [((n % 256 : Nat) : Int)]
  | f + 1, n => if n < 128 then [(n : Int)] else ((n % 128 + 128 : Nat) : Int) :: numF f (n / 128)
def numB (n : Nat) : List Int := numF 8 n
theorem numF_len : ∀ f n, 1 ≤ (numF f n).length ∧ (numF f n).length ≤ f + 1
  | 0, n => by simp [numF]
  | f + 1, n => by
    unfold numF
    split
    · simp
    · have := numF_len f (n / 128)
      simp only [List.length_cons]
      omega
theorem numB_len (n : Nat) : 1 ≤ (numB n).length ∧ (numB n).length ≤ 9 := numF_len 8 n
theorem or_all : ∀ b : Fin 256, Go.bits .or .u8 ((b.val : Nat) : Int) 128 = ((b.val % 128 + 128 : Nat) : Int) := by decide +kernel
theorem snum_l0 : ∀ (f n : Nat) (acc : List Int), n < 128 ^ (f + 1) → n ≤ 4611686018427387904 → acc.length + f ≤ 1000000 → Ev (fun k => spec_l1Number.l0 k n acc) (acc ++ numF f n)
  | 0, n, acc, h, hn, ha => by
    refine Ev.succ ?_
    simp only [spec_l1Number.l0, numF]
    rw [show (n : Int) % 256 = ((n % 256 : Nat) : Int) by omega]
    exact Ev.neg (by omega) (Ev.pos (by omega) (Ev.now _))
  | f + 1, n, acc, h, hn, ha => by
    refine Ev.succ ?_
    simp only [spec_l1Number.l0, numF]
    by_cases c : n < 128
    · rw [if_pos c, show (n : Int) % 256 = (n : Int) by omega]
      exact Ev.neg (by omega) (Ev.pos (by omega) (Ev.now _))
    · rw [if_neg c, show Int.tdiv (n : Int) 128 = ((n / 128 : Nat) : Int) from rfl, show Int.tmod (n : Int) 128 = ((n % 128 : Nat) : Int) from rfl]
      rw [w64 (x := ((n / 128 : Nat) : Int)) (by omega) (by omega), w64 (x := ((n % 128 : Nat) : Int) + 128) (by omega) (by omega)]
      have hd : n / 128 < 128 ^ (f + 1) := Nat.div_lt_of_lt_mul (by rw [Nat.pow_succ] at h; omega)
      have ih := snum_l0 f (n / 128) (acc ++ [((n % 128 + 128 : Nat) : Int)]) hd (by omega) (by simp; omega)
      rw [List.append_assoc] at ih
      refine Ev.pos (by omega) (Ev.pos (by omega) ?_)
      rw [show (((n % 128 : Nat) : Int) + 128) % 256 = ((n % 128 + 128 : Nat) : Int) by omega]
      exact ih
theorem inum_l0 : ∀ (f n : Nat) (acc : List Int), n < 128 ^ (f + 1) → n ≤ 4611686018427387904 → acc.length + f ≤ 1000000 → Ev (fun k => impl_Number.l0 k n acc) (acc ++ numF f n)
  | 0, n, acc, h, hn, ha => by
    refine Ev.succ ?_
    simp only [impl_Number.l0, numF]
    rw [show (n : Int) % 256 = ((n % 256 : Nat) : Int) by omega]
    exact Ev.neg (by omega) (Ev.pos (by omega) (Ev.now _))
  | f + 1, n, acc, h, hn, ha => by
    refine Ev.succ ?_
    simp only [impl_Number.l0, numF]
    by_cases c : n < 128
    · rw [if_pos c, show (n : Int) % 256 = (n : Int) by omega]
      exact Ev.neg (by omega) (Ev.pos (by omega) (Ev.now _))
    · have ho := or_all ⟨n % 256, by omega⟩
      rw [if_neg c, show (n : Int) / 128 = ((n / 128 : Nat) : Int) by omega, show (n : Int) % 256 = ((n % 256 : Nat) : Int) by omega, ho, show n % 256 % 128 = n % 128 by omega]
      have hd : n / 128 < 128 ^ (f + 1) := Nat.div_lt_of_lt_mul (by rw [Nat.pow_succ] at h; omega)
      have ih := inum_l0 f (n / 128) (acc ++ [((n % 128 + 128 : Nat) : Int)]) hd (by omega) (by simp; omega)
      rw [List.append_assoc] at ih
      exact Ev.pos (by omega) (Ev.pos (by omega) ih)
theorem snumber (n : Nat) (h : n ≤ 4611686018427387904) : Ev (fun k => spec_l1Number.f k n) (numB n) := by
  unfold spec_l1Number.f
  exact snum_l0 8 n [] (by omega) h (by simp)
theorem inumber (n : Nat) (h : n ≤ 1099511627776) : Ev (fun k => impl_Number.f k n) (numB n) := by
  unfold impl_Number.f
  have c : (0 : Int) ≤ (n : Int) ∧ (n : Int) ≤ 1099511627776 := ⟨by omega, by omega⟩
  simp only [within_eq, decide_eq_true c, Option.bind_some]
  exact Ev.pos (by simp) (inum_l0 8 n [] (by omega) (by omega) (by simp))
/-! texts behind how many there are -/
def textB (s : ByteArray) : List Int := numB s.size ++ bytesOf s
theorem textB_len (s : ByteArray) : (textB s).length ≤ s.size + 9 := by
  have := numB_len s.size
  simp only [textB, List.length_append, bytesOf_length]
  omega
theorem stext (s : ByteArray) (h : s.size ≤ 3000) : Ev (fun k => spec_l1Text.f k s) (textB s) := by
  have := numB_len s.size
  unfold spec_l1Text.f
  exact Ev.bind (snumber s.size (by omega)) (Ev.pos (by omega) (Ev.now _))
theorem itext (s : ByteArray) (h : s.size ≤ 3000) : Ev (fun k => impl_Text.f k s) (textB s) := by
  have := numB_len s.size
  unfold impl_Text.f
  exact Ev.neg (by omega) (Ev.bind (inumber s.size (by omega)) (Ev.pos (by omega) (Ev.now _)))
def fitT (l : List ByteArray) : Bool := l.all fun s => decide (s.size ≤ 3000)
def flatT (l : List ByteArray) : List Int := l.flatMap textB
theorem fitT_cons (s : ByteArray) (l : List ByteArray) : fitT (s :: l) = (decide (s.size ≤ 3000) && fitT l) := rfl
theorem flatT_cons (s : ByteArray) (l : List ByteArray) : flatT (s :: l) = textB s ++ flatT l := by simp [flatT]
theorem flatT_len : ∀ l : List ByteArray, fitT l = true → (flatT l).length ≤ 3009 * l.length
  | [], _ => by simp [flatT]
  | s :: l, h => by
    simp only [fitT, List.all_cons, Bool.and_eq_true, decide_eq_true_eq] at h
    have h1 := flatT_len l h.2
    have h2 := textB_len s
    simp only [flatT, List.flatMap_cons, List.length_append, List.length_cons] at h1 ⊢
    omega
theorem rdS {l : List ByteArray} {i : Nat} (hi : i < l.length) : rdOf ByteArray.empty l (i : Int) = l[i] := rdOf_get (List.getElem?_eq_getElem hi)
theorem texts_l0 (l : List ByteArray) (hl : l.length ≤ 200) : ∀ (d i : Nat) (acc : List Int), i + d = l.length → acc.length + 3009 * d ≤ 1000000 →
    Ev (fun k => spec_Texts.l0 k l acc i) (if fitT (l.drop i) then acc ++ flatT (l.drop i) else []) ∧ Ev (fun k => impl_Texts.l0 k acc l (l.length : Int) i) (if fitT (l.drop i) then acc ++ flatT (l.drop i) else [])
  | 0, i, acc, hi, ha => by
    rw [List.drop_eq_nil_of_le (by omega)]
    refine ⟨Ev.succ ?_, Ev.succ ?_⟩
    · simp only [spec_Texts.l0, fitT, flatT, List.all_nil, if_true, List.flatMap_nil, List.append_nil]
      exact Ev.neg (by omega) (Ev.now _)
    · simp only [impl_Texts.l0, fitT, flatT, List.all_nil, if_true, List.flatMap_nil, List.append_nil]
      exact Ev.neg (by omega) (Ev.now _)
  | d + 1, i, acc, hi, ha => by
    have hd : l.drop i = l[i]'(by omega) :: l.drop (i + 1) := List.drop_eq_getElem_cons (by omega)
    have hr := rdS (l := l) (i := i) (by omega)
    rw [hd]
    by_cases c : l[i].size ≤ 3000
    · have e1 := stext l[i] c
      have e2 := itext l[i] c
      have hb := textB_len l[i]
      have hf : fitT (l[i] :: l.drop (i + 1)) = fitT (l.drop (i + 1)) := by rw [fitT_cons, decide_eq_true c, Bool.true_and]
      obtain ⟨j1, j2⟩ := texts_l0 l hl d (i + 1) (acc ++ textB l[i]) (by omega) (by simp; omega)
      rw [hf, show acc ++ flatT (l[i] :: l.drop (i + 1)) = (acc ++ textB l[i]) ++ flatT (l.drop (i + 1)) by rw [flatT_cons, List.append_assoc]]
      refine ⟨Ev.succ ?_, Ev.succ ?_⟩
      · simp only [spec_Texts.l0, hr]
        rw [w64 (x := (i : Int) + 1) (by omega) (by omega), cast_succ]
        exact Ev.pos (by omega) (Ev.pos (by omega) (Ev.neg (by omega) (Ev.bind e1 (Ev.pos (by omega) j1))))
      · simp only [impl_Texts.l0, hr]
        rw [w64 (x := (i : Int) + 1) (by omega) (by omega), cast_succ]
        exact Ev.pos (by omega) (Ev.pos (by omega) (Ev.pos (by omega) (Ev.neg (by omega) (Ev.bind e2 (Ev.pos (by omega) j2)))))
    · have hf : fitT (l[i] :: l.drop (i + 1)) = false := by rw [fitT_cons, decide_eq_false c, Bool.false_and]
      rw [hf]
      refine ⟨Ev.succ ?_, Ev.succ ?_⟩
      · simp only [spec_Texts.l0, hr]
        exact Ev.pos (by omega) (Ev.pos (by omega) (Ev.pos (by omega) (Ev.now _)))
      · simp only [impl_Texts.l0, hr]
        exact Ev.pos (by omega) (Ev.pos (by omega) (Ev.pos (by omega) (Ev.pos (by omega) (Ev.now _))))
/-- The bytes of texts; none if they are too many or too long. -/
def textsB (l : List ByteArray) : List Int := if l.length ≤ 200 ∧ fitT l = true then numB l.length ++ flatT l else []
theorem textsB_len (l : List ByteArray) : (textsB l).length ≤ 700000 := by
  unfold textsB
  split
  · rename_i h
    have h1 := numB_len l.length
    have h2 := flatT_len l h.2
    simp only [List.length_append]
    omega
  · simp
theorem texts_ev (l : List ByteArray) (hl : l.length ≤ 4611686018427387904) : Ev (fun k => spec_Texts.f k l) (textsB l) ∧ Ev (fun k => impl_Texts.f k l) (textsB l) := by
  unfold spec_Texts.f impl_Texts.f
  by_cases c : (l.length : Int) > 200
  · have : textsB l = [] := by unfold textsB; rw [if_neg (fun h => by omega)]
    rw [this]
    exact ⟨Ev.pos c (Ev.now _), Ev.pos c (Ev.now _)⟩
  · have h1 := numB_len l.length
    obtain ⟨j1, j2⟩ := texts_l0 l (by omega) l.length 0 (numB l.length) (by omega) (by omega)
    have : (if fitT (l.drop 0) = true then numB l.length ++ flatT (l.drop 0) else []) = textsB l := by
      unfold textsB
      rw [List.drop_zero]
      by_cases f : fitT l = true
      · rw [if_pos f, if_pos ⟨by omega, f⟩]
      · rw [if_neg f, if_neg (fun h => f h.2)]
    rw [this] at j1 j2
    exact ⟨Ev.neg c (Ev.bind (snumber l.length (by omega)) j1), Ev.neg c (Ev.bind (inumber l.length (by omega)) j2)⟩
/-! batches -/
def okW (x : S105) : Bool := decide (1 ≤ (x.f0.size : Int) ∧ (x.f0.size : Int) ≤ 40) && (decide ((x.f1.size : Int) ≤ 200) && (!x.f2 || decide (x.f1.toList = ([] : List UInt8))))
theorem sentry (x : S105) : spec_l3Entry.f x.f0 x.f1 1 x.f2 = some (okW x) := by
  unfold spec_l3Entry.f okW
  simp only [in_eq, Option.bind_some]
  by_cases h1 : (x.f0.size : Int) ≥ 1
  · by_cases h2 : (x.f0.size : Int) ≤ 40
    · by_cases h3 : (x.f1.size : Int) ≤ 200
      · cases hg : x.f2
        · simp [h1, h2, h3] <;> omega
        · by_cases h4 : x.f1.toList = ([] : List UInt8)
          · simp [h1, h2, h3, h4] <;> omega
          · simp [h1, h2, h3, h4]
      · simp [h1, h2, h3]
    · simp [h1, h2]
  · simp [h1]
theorem ientry (x : S105) : impl_entryOk.f x.f0 x.f1 1 x.f2 = some (okW x) := by
  unfold impl_entryOk.f okW
  simp only [within_eq, Option.bind_some]
  by_cases h1 : 1 ≤ (x.f0.size : Int) ∧ (x.f0.size : Int) ≤ 40
  · rw [decide_eq_true h1]
    by_cases h3 : (x.f1.size : Int) ≤ 200
    · cases hg : x.f2
      · simp [h3]
      · by_cases h4 : x.f1.toList = ([] : List UInt8)
        · simp [h3, h4]
        · simp [h3, h4]
    · simp [h3]
  · rw [decide_eq_false h1]
    simp
theorem ilit (x : S105) : impl_batchOk_1.f x.f0 x.f1 x.f2 = some (!okW x) := by
  unfold impl_batchOk_1.f
  rw [ientry]
  rfl
theorem rdw {l : List S105} {i : Nat} (hi : i < l.length) : rd_T105 l (i : Int) = l[i] := rdS_T105 (List.getElem?_eq_getElem hi)
theorem sbatch_l0 (l : List S105) (hl : l.length ≤ 4611686018427387904) : ∀ (d i : Nat), i + d = l.length → Ev (fun k => spec_l7Batch.l0 k l i) ((l.drop i).all okW)
  | 0, i, hi => by
    rw [List.drop_eq_nil_of_le (by omega)]
    refine Ev.succ ?_
    simp only [spec_l7Batch.l0, List.all_nil]
    exact Ev.neg (by omega) (Ev.now _)
  | d + 1, i, hi => by
    have ih := sbatch_l0 l hl d (i + 1) (by omega)
    rw [List.drop_eq_getElem_cons (show i < l.length by omega), List.all_cons]
    refine Ev.succ ?_
    simp only [spec_l7Batch.l0, rdw (show i < l.length by omega), sentry, Option.bind_some]
    rw [w64 (x := (i : Int) + 1) (by omega) (by omega), cast_succ]
    refine Ev.pos (by omega) (Ev.pos (by omega) ?_)
    cases okW l[i] with
    | true => exact Ev.pos rfl (by simpa using ih)
    | false => exact Ev.neg (by simp) (Ev.now _)
def okB (l : List S105) : Bool := decide ((l.length : Int) ≤ 20) && l.all okW
theorem sbatchOk (l : List S105) (hl : l.length ≤ 4611686018427387904) : Ev (fun k => spec_l7Batch.f k l) (okB l) := by
  unfold spec_l7Batch.f okB
  by_cases h : (l.length : Int) > 20
  · rw [decide_eq_false (by omega), Bool.false_and]
    exact Ev.pos h (Ev.now _)
  · rw [decide_eq_true (by omega), Bool.true_and]
    exact Ev.neg h (by simpa using sbatch_l0 l hl l.length 0 (by omega))
theorem ibatchOk (l : List S105) : impl_batchOk.f l = some (okB l) := by
  have hs : (l.all fun x => (impl_batchOk_1.f x.f0 x.f1 x.f2).isSome) = true := List.all_eq_true.2 (fun x _ => by rw [ilit]; rfl)
  have ha : (l.any fun x => (impl_batchOk_1.f x.f0 x.f1 x.f2).getD false) = !(l.all okW) := by
    have : (fun x : S105 => (impl_batchOk_1.f x.f0 x.f1 x.f2).getD false) = fun x => !okW x := by
      funext x
      rw [ilit]
      rfl
    rw [this]
    simp [List.not_all_eq_any_not]
  unfold impl_batchOk.f impl_Write_98.f okB
  rw [if_pos hs, ha]
  by_cases h : (l.length : Int) ≤ 20
  · rw [if_pos h, decide_eq_true h]
    simp
  · rw [if_neg h, decide_eq_false h]
    rfl
def flg (b : Bool) : ByteArray := if b = true then (⟨#[49]⟩ : ByteArray) else (⟨#[48]⟩ : ByteArray)
theorem sflag (b : Bool) : ∃ n, spec_l4Flag.f b = some n ∧ Ev (fun k => spec_l2Int.f k n) (flg b) := by
  cases b with
  | true => exact ⟨1, rfl, Ev.of (fun k => spec_l2Int.mono 1 k) (k := 9) (by decide +kernel)⟩
  | false => exact ⟨0, rfl, Ev.of (fun k => spec_l2Int.mono 0 k) (k := 9) (by decide +kernel)⟩
def fl (x : S105) : List ByteArray := [x.f0, x.f1, flg x.f2]
theorem fl_cons (x : S105) (l : List S105) : (x :: l).flatMap fl = fl x ++ l.flatMap fl := by simp
theorem fl_len : ∀ l : List S105, (l.flatMap fl).length = 3 * l.length
  | [] => rfl
  | x :: l => by rw [fl_cons, List.length_append, fl_len l]; simp [fl]; omega
theorem batch_l0 (l : List S105) (hl : l.length ≤ 20) : ∀ (d i : Nat) (acc : List ByteArray), i + d = l.length → acc.length + 3 * d ≤ 1000 →
    Ev (fun k => spec_l10Batch.l0 k l acc i) (strOfNums (textsB (acc ++ (l.drop i).flatMap fl))) ∧ Ev (fun k => impl_Batch.l0 k acc l (l.length : Int) i) (strOfNums (textsB (acc ++ (l.drop i).flatMap fl)))
  | 0, i, acc, hi, ha => by
    rw [List.drop_eq_nil_of_le (by omega)]
    simp only [List.flatMap_nil, List.append_nil]
    obtain ⟨t1, t2⟩ := texts_ev acc (by omega)
    refine ⟨Ev.succ ?_, Ev.succ ?_⟩
    · simp only [spec_l10Batch.l0]
      exact Ev.neg (by omega) (Ev.bind t1 (Ev.now _))
    · simp only [impl_Batch.l0]
      exact Ev.neg (by omega) (Ev.bind t2 (Ev.now _))
  | d + 1, i, acc, hi, ha => by
    obtain ⟨n, e1, e2⟩ := sflag l[i].f2
    obtain ⟨j1, j2⟩ := batch_l0 l hl d (i + 1) (acc ++ fl l[i]) (by omega) (by simp [fl]; omega)
    rw [List.append_assoc, ← fl_cons, ← List.drop_eq_getElem_cons (show i < l.length by omega)] at j1 j2
    have hlen : (fl l[i]).length = 3 := rfl
    refine ⟨Ev.succ ?_, Ev.succ ?_⟩
    · simp only [spec_l10Batch.l0, rdw (show i < l.length by omega), e1, Option.bind_some]
      rw [w64 (x := (i : Int) + 1) (by omega) (by omega), cast_succ]
      exact Ev.pos (by omega) (Ev.pos (by omega) (Ev.bind e2 (Ev.pos (by simp; omega) j1)))
    · simp only [impl_Batch.l0, rdw (show i < l.length by omega), Option.bind_some]
      rw [w64 (x := (i : Int) + 1) (by omega) (by omega), cast_succ]
      refine Ev.pos (by omega) (Ev.pos (by omega) (Ev.pos (by omega) ?_))
      cases hb : l[i].f2 with
      | true =>
        have : fl l[i] = [l[i].f0, l[i].f1, (⟨#[49]⟩ : ByteArray)] := by simp [fl, flg, hb]
        rw [this] at j2
        exact Ev.pos rfl (Ev.pos (by simp; omega) j2)
      | false =>
        have : fl l[i] = [l[i].f0, l[i].f1, (⟨#[48]⟩ : ByteArray)] := by simp [fl, flg, hb]
        rw [this] at j2
        exact Ev.neg (by simp) (Ev.pos (by simp; omega) j2)
/-- A batch as a text. -/
def batchT (l : List S105) : ByteArray := if okB l = true ∧ l ≠ [] then strOfNums (textsB (l.flatMap fl)) else (⟨#[]⟩ : ByteArray)
theorem batch_ev (l : List S105) (hl : l.length ≤ 4611686018427387904) : Ev (fun k => spec_Batch.f k l) (batchT l) ∧ Ev (fun k => impl_Batch.f k l) (batchT l) := by
  have e := sbatchOk l hl
  have no : Ev (fun k => impl_Batch.j0 k l true) (⟨#[]⟩ : ByteArray) := Ev.succ (by simp only [impl_Batch.j0]; exact Ev.pos (by simp) (Ev.now _))
  unfold spec_Batch.f impl_Batch.f batchT
  simp only [ibatchOk, Option.bind_some]
  cases hb : okB l with
  | false =>
    rw [hb] at e
    rw [if_neg (fun h => by simp at h)]
    exact ⟨Ev.bind e (Ev.neg (by simp) (Ev.now _)), Ev.neg (by simp) no⟩
  | true =>
    have hl20 : l.length ≤ 20 := by
      simp only [okB, Bool.and_eq_true, decide_eq_true_eq] at hb
      omega
    rw [hb] at e
    by_cases hn : l = []
    · subst hn
      rw [if_neg (fun h => h.2 rfl)]
      exact ⟨Ev.bind e (Ev.pos rfl (Ev.pos rfl (Ev.now _))), Ev.pos rfl no⟩
    · have h0 : 0 < l.length := Nat.pos_of_ne_zero (fun h => hn (List.length_eq_zero_iff.1 h))
      rw [if_pos ⟨rfl, hn⟩]
      obtain ⟨j1, j2⟩ := batch_l0 l hl20 l.length 0 [] (by omega) (by simp; omega)
      rw [List.drop_zero, List.nil_append] at j1 j2
      have hz : ((l.length : Int) == 0) = false := by
        rw [beq_eq_false_iff_ne]; omega
      rw [hz]
      refine ⟨Ev.bind e (Ev.pos rfl (Ev.neg (by omega) (Ev.bind (show Ev (fun k => spec_l10Batch.f k l) _ from j1) (Ev.now _)))), Ev.pos rfl (Ev.succ ?_)⟩
      simp only [impl_Batch.j0]
      exact Ev.neg (by simp) j2
theorem FnExactBatch : laws_FnExactBatch.Pure := by
  intro l hok
  refine Ev.rounds (g := fun k => laws_FnExactBatch.f k l) ?_
  unfold laws_FnExactBatch.f
  obtain ⟨u, hu, _, hu1, hp⟩ := laws_szWriteS_ev l 1048576 (by omega) (by omega) hok
  refine Ev.bind hu (Ev.ite (fun _ => Ev.now _) (fun h => ?_))
  have hsm := hp (by omega)
  have hl1 := hsm.1
  have ht := laws_toWriteS_ev l hsm
  have hm : (l.map cv103).length ≤ 1048576 := by simpa using hl1
  generalize l.map cv103 = x at ht hm
  obtain ⟨e1, e2⟩ := batch_ev x (by omega)
  have ex := laws_eqWriteS_ev x ⟨by omega, fun _ _ => ⟨trivial, trivial, trivial⟩⟩
  exact Ev.bind ht (Ev.bind e1 (Ev.bind ht (Ev.bind e2 (Ev.pos rfl (Ev.bind ht (Ev.bind ex (Ev.pos rfl (Ev.now _))))))))

end Go.Proofs.Ytgpofolfflfgiaa.Pure
