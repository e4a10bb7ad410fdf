/- The program's ReadBatch returns what the reference's ReadBatch returns, for every text. No condition. -/
import Derived.Test.YtckgkhlgnblblaaBoilFnExactReadBatch
namespace Go.Proofs.Ytckgkhlgnblblaa.Pure
open Go.RowKit Go.Proofs.Ytckgkhlgnblblaa.PFnExactReadBatch Go.Proofs.YtckgkhlgnblblaaW.PrintWords Go.Proofs.YtckgkhlgnblblaaW.PrintLast Go.Proofs.YtckgkhlgnblblaaW.PrintMore
set_option maxRecDepth 100000
set_option linter.unusedVariables false
set_option linter.unusedSimpArgs false
theorem within_eq (a b c : Int) : impl_within.f a b c = some (decide (b ≤ a ∧ a ≤ c)) := by
  unfold impl_within.f
  split
  · rename_i h; congr 1; simp; omega
  · rename_i h; congr 1; simp; omega
theorem in_eq (a b c : Int) : spec_l1In.f a b c = some (decide (b ≤ a ∧ a ≤ c)) := by
  unfold spec_l1In.f
  split
  · rename_i h; congr 1; simp; omega
  · rename_i h; congr 1; simp; omega
/-! a number, seven bits to a byte -/
def numF : Nat → Nat → List Int
  | 0, n => [((n % 256 : Nat) : Int)]
  | f + 1, n => if n < 128 then [(n : Int)] else ((n % 128 + 128 : Nat) : Int) :: numF f (n / 128)
def numB (n : Nat) : List Int := numF 8 n
theorem numF_len : ∀ f n, 1 ≤ (numF f n).length ∧ (numF f n).length ≤ f + 1
  | 0, n => by simp [numF]
  | f + 1, n => by
    unfold numF
    split
    · simp
    · have := numF_len f (n / 128)
      simp only [List.length_cons]
      omega
theorem numB_len (n : Nat) : 1 ≤ (numB n).length ∧ (numB n).length ≤ 9 := numF_len 8 n
theorem or_all : ∀ b : Fin 256, Go.bits .or .u8 ((b.val : Nat) : Int) 128 = ((b.val % 128 + 128 : Nat) : Int) := by decide +kernel
theorem snum_l0 : ∀ (f n : Nat) (acc : List Int), n < 128 ^ (f + 1) → n ≤ 4611686018427387904 → acc.length + f ≤ 1000000 → Ev (fun k => spec_l1Number.l0 k n acc) (acc ++ numF f n)
  | 0, n, acc, h, hn, ha => by
    refine Ev.succ ?_
    simp only [spec_l1Number.l0, numF]
    rw [show (n : Int) % 256 = ((n % 256 : Nat) : Int) by omega]
    exact Ev.neg (by omega) (Ev.pos (by omega) (Ev.now _))
  | f + 1, n, acc, h, hn, ha => by
    refine Ev.succ ?_
    simp only [spec_l1Number.l0, numF]
    by_cases c : n < 128
    · rw [if_pos c, show (n : Int) % 256 = (n : Int) by omega]
      exact Ev.neg (by omega) (Ev.pos (by omega) (Ev.now _))
    · rw [if_neg c, show Int.tdiv (n : Int) 128 = ((n / 128 : Nat) : Int) from rfl, show Int.tmod (n : Int) 128 = ((n % 128 : Nat) : Int) from rfl]
      rw [w64 (x := ((n / 128 : Nat) : Int)) (by omega) (by omega), w64 (x := ((n % 128 : Nat) : Int) + 128) (by omega) (by omega)]
      have hd : n / 128 < 128 ^ (f + 1) := Nat.div_lt_of_lt_mul (by rw [Nat.pow_succ] at h; omega)
      have ih := snum_l0 f (n / 128) (acc ++ [((n % 128 + 128 : Nat) : Int)]) hd (by omega) (by simp; omega)
      rw [List.append_assoc] at ih
      refine Ev.pos (by omega) (Ev.pos (by omega) ?_)
      rw [show (((n % 128 : Nat) : Int) + 128) % 256 = ((n % 128 + 128 : Nat) : Int) by omega]
      exact ih
theorem inum_l0 : ∀ (f n : Nat) (acc : List Int), n < 128 ^ (f + 1) → n ≤ 4611686018427387904 → acc.length + f ≤ 1000000 → Ev (fun k => impl_Number.l0 k n acc) (acc ++ numF f n)
  | 0, n, acc, h, hn, ha => by
    refine Ev.succ ?_
    simp only [impl_Number.l0, numF]
    rw [show (n : Int) % 256 = ((n % 256 : Nat) : Int) by omega]
    exact Ev.neg (by omega) (Ev.pos (by omega) (Ev.now _))
  | f + 1, n, acc, h, hn, ha => by
    refine Ev.succ ?_
    simp only [impl_Number.l0, numF]
    by_cases c : n < 128
    · rw [if_pos c, show (n : Int) % 256 = (n : Int) by omega]
      exact Ev.neg (by omega) (Ev.pos (by omega) (Ev.now _))
    · have ho := or_all ⟨n % 256, by omega⟩
      rw [if_neg c, show (n : Int) / 128 = ((n / 128 : Nat) : Int) by omega, show (n : Int) % 256 = ((n % 256 : Nat) : Int) by omega, ho, show n % 256 % 128 = n % 128 by omega]
      have hd : n / 128 < 128 ^ (f + 1) := Nat.div_lt_of_lt_mul (by rw [Nat.pow_succ] at h; omega)
      have ih := inum_l0 f (n / 128) (acc ++ [((n % 128 + 128 : Nat) : Int)]) hd (by omega) (by simp; omega)
      rw [List.append_assoc] at ih
      exact Ev.pos (by omega) (Ev.pos (by omega) ih)
theorem snumber (n : Nat) (h : n ≤ 4611686018427387904) : Ev (fun k => spec_l1Number.f k n) (numB n) := by
  unfold spec_l1Number.f
  exact snum_l0 8 n [] (by omega) h (by simp)
theorem inumber (n : Nat) (h : n ≤ 1099511627776) : Ev (fun k => impl_Number.f k n) (numB n) := by
  unfold impl_Number.f
  have c : (0 : Int) ≤ (n : Int) ∧ (n : Int) ≤ 1099511627776 := ⟨by omega, by omega⟩
  simp only [within_eq, decide_eq_true c, Option.bind_some]
  exact Ev.pos (by simp) (inum_l0 8 n [] (by omega) (by omega) (by simp))
/-! texts behind how many there are -/
def textB (s : ByteArray) : List Int := numB s.size ++ bytesOf s
theorem textB_len (s : ByteArray) : (textB s).length ≤ s.size + 9 := by
  have := numB_len s.size
  simp only [textB, List.length_append, bytesOf_length]
  omega
theorem stext (s : ByteArray) (h : s.size ≤ 3000) : Ev (fun k => spec_l1Text.f k s) (textB s) := by
  have := numB_len s.size
  unfold spec_l1Text.f
  exact Ev.bind (snumber s.size (by omega)) (Ev.pos (by omega) (Ev.now _))
theorem itext (s : ByteArray) (h : s.size ≤ 3000) : Ev (fun k => impl_Text.f k s) (textB s) := by
  have := numB_len s.size
  unfold impl_Text.f
  exact Ev.neg (by omega) (Ev.bind (inumber s.size (by omega)) (Ev.pos (by omega) (Ev.now _)))
def fitT (l : List ByteArray) : Bool := l.all fun s => decide (s.size ≤ 3000)
def flatT (l : List ByteArray) : List Int := l.flatMap textB
theorem fitT_cons (s : ByteArray) (l : List ByteArray) : fitT (s :: l) = (decide (s.size ≤ 3000) && fitT l) := rfl
theorem flatT_cons (s : ByteArray) (l : List ByteArray) : flatT (s :: l) = textB s ++ flatT l := by simp [flatT]
theorem flatT_len : ∀ l : List ByteArray, fitT l = true → (flatT l).length ≤ 3009 * l.length
  | [], _ => by simp [flatT]
  | s :: l, h => by
    simp only [fitT, List.all_cons, Bool.and_eq_true, decide_eq_true_eq] at h
    have h1 := flatT_len l h.2
    have h2 := textB_len s
    simp only [flatT, List.flatMap_cons, List.length_append, List.length_cons] at h1 ⊢
    omega
theorem rdS {l : List ByteArray} {i : Nat} (hi : i < l.length) : rdOf ByteArray.empty l (i : Int) = l[i] := rdOf_get (List.getElem?_eq_getElem hi)
theorem texts_l0 (l : List ByteArray) (hl : l.length ≤ 200) : ∀ (d i : Nat) (acc : List Int), i + d = l.length → acc.length + 3009 * d ≤ 1000000 →
    Ev (fun k => spec_Texts.l0 k l acc i) (if fitT (l.drop i) then acc ++ flatT (l.drop i) else []) ∧ Ev (fun k => impl_Texts.l0 k acc l (l.length : Int) i) (if fitT (l.drop i) then acc ++ flatT (l.drop i) else [])
  | 0, i, acc, hi, ha => by
    rw [List.drop_eq_nil_of_le (by omega)]
    refine ⟨Ev.succ ?_, Ev.succ ?_⟩
    · simp only [spec_Texts.l0, fitT, flatT, List.all_nil, if_true, List.flatMap_nil, List.append_nil]
      exact Ev.neg (by omega) (Ev.now _)
    · simp only [impl_Texts.l0, fitT, flatT, List.all_nil, if_true, List.flatMap_nil, List.append_nil]
      exact Ev.neg (by omega) (Ev.now _)
  | d + 1, i, acc, hi, ha => by
    have hd : l.drop i = l[i]'(by omega) :: l.drop (i + 1) := List.drop_eq_getElem_cons (by omega)
    have hr := rdS (l := l) (i := i) (by omega)
    rw [hd]
    by_cases c : l[i].size ≤ 3000
    · have e1 := stext l[i] c
      have e2 := itext l[i] c
      have hb := textB_len l[i]
      have hf : fitT (l[i] :: l.drop (i + 1)) = fitT (l.drop (i + 1)) := by rw [fitT_cons, decide_eq_true c, Bool.true_and]
      obtain ⟨j1, j2⟩ := texts_l0 l hl d (i + 1) (acc ++ textB l[i]) (by omega) (by simp; omega)
      rw [hf, show acc ++ flatT (l[i] :: l.drop (i + 1)) = (acc ++ textB l[i]) ++ flatT (l.drop (i + 1)) by rw [flatT_cons, List.append_assoc]]
      refine ⟨Ev.succ ?_, Ev.succ ?_⟩
      · simp only [spec_Texts.l0, hr]
        rw [w64 (x := (i : Int) + 1) (by omega) (by omega), cast_succ]
        exact Ev.pos (by omega) (Ev.pos (by omega) (Ev.neg (by omega) (Ev.bind e1 (Ev.pos (by omega) j1))))
      · simp only [impl_Texts.l0, hr]
        rw [w64 (x := (i : Int) + 1) (by omega) (by omega), cast_succ]
        exact Ev.pos (by omega) (Ev.pos (by omega) (Ev.pos (by omega) (Ev.neg (by omega) (Ev.bind e2 (Ev.pos (by omega) j2)))))
    · have hf : fitT (l[i] :: l.drop (i + 1)) = false := by rw [fitT_cons, decide_eq_false c, Bool.false_and]
      rw [hf]
      refine ⟨Ev.succ ?_, Ev.succ ?_⟩
      · simp only [spec_Texts.l0, hr]
        exact Ev.pos (by omega) (Ev.pos (by omega) (Ev.pos (by omega) (Ev.now _)))
      · simp only [impl_Texts.l0, hr]
        exact Ev.pos (by omega) (Ev.pos (by omega) (Ev.pos (by omega) (Ev.pos (by omega) (Ev.now _))))
/-- The bytes of texts; none if they are too many or too long. -/
def textsB (l : List ByteArray) : List Int := if l.length ≤ 200 ∧ fitT l = true then numB l.length ++ flatT l else []
theorem textsB_len (l : List ByteArray) : (textsB l).length ≤ 700000 := by
  unfold textsB
  split
  · rename_i h
    have h1 := numB_len l.length
    have h2 := flatT_len l h.2
    simp only [List.length_append]
    omega
  · simp
theorem texts_ev (l : List ByteArray) (hl : l.length ≤ 4611686018427387904) : Ev (fun k => spec_Texts.f k l) (textsB l) ∧ Ev (fun k => impl_Texts.f k l) (textsB l) := by
  unfold spec_Texts.f impl_Texts.f
  by_cases c : (l.length : Int) > 200
  · have : textsB l = [] := by unfold textsB; rw [if_neg (fun h => by omega)]
    rw [this]
    exact ⟨Ev.pos c (Ev.now _), Ev.pos c (Ev.now _)⟩
  · have h1 := numB_len l.length
    obtain ⟨j1, j2⟩ := texts_l0 l (by omega) l.length 0 (numB l.length) (by omega) (by omega)
    have : (if fitT (l.drop 0) = true then numB l.length ++ flatT (l.drop 0) else []) = textsB l := by
      unfold textsB
      rw [List.drop_zero]
      by_cases f : fitT l = true
      · rw [if_pos f, if_pos ⟨by omega, f⟩]
      · rw [if_neg f, if_neg (fun h => f h.2)]
    rw [this] at j1 j2
    exact ⟨Ev.neg c (Ev.bind (snumber l.length (by omega)) j1), Ev.neg c (Ev.bind (inumber l.length (by omega)) j2)⟩
/-! batches -/
def okW (x : S127) : Bool := decide (1 ≤ (x.f0.size : Int) ∧ (x.f0.size : Int) ≤ 40) && (decide ((x.f1.size : Int) ≤ 200) && (!x.f2 || decide (x.f1.toList = ([] : List UInt8))))
theorem sentry (x : S127) : spec_l3Entry.f x.f0 x.f1 1 x.f2 = some (okW x) := by
  unfold spec_l3Entry.f okW
  simp only [in_eq, Option.bind_some]
  by_cases h1 : (x.f0.size : Int) ≥ 1
  · by_cases h2 : (x.f0.size : Int) ≤ 40
    · by_cases h3 : (x.f1.size : Int) ≤ 200
      · cases hg : x.f2
        · simp [h1, h2, h3] <;> omega
        · by_cases h4 : x.f1.toList = ([] : List UInt8)
          · simp [h1, h2, h3, h4] <;> omega
          · simp [h1, h2, h3, h4]
      · simp [h1, h2, h3]
    · simp [h1, h2]
  · simp [h1]
theorem ientry (x : S127) : impl_entryOk.f x.f0 x.f1 1 x.f2 = some (okW x) := by
  unfold impl_entryOk.f okW
  simp only [within_eq, Option.bind_some]
  by_cases h1 : 1 ≤ (x.f0.size : Int) ∧ (x.f0.size : Int) ≤ 40
  · rw [decide_eq_true h1]
    by_cases h3 : (x.f1.size : Int) ≤ 200
    · cases hg : x.f2
      · simp [h3]
      · by_cases h4 : x.f1.toList = ([] : List UInt8)
        · simp [h3, h4]
        · simp [h3, h4]
    · simp [h3]
  · rw [decide_eq_false h1]
    simp
theorem ilit (x : S127) : impl_batchOk_1.f x.f0 x.f1 x.f2 = some (!okW x) := by
  unfold impl_batchOk_1.f
  rw [ientry]
  rfl
theorem rdw {l : List S127} {i : Nat} (hi : i < l.length) : rd_T127 l (i : Int) = l[i] := rdS_T127 (List.getElem?_eq_getElem hi)
theorem sbatch_l0 (l : List S127) (hl : l.length ≤ 4611686018427387904) : ∀ (d i : Nat), i + d = l.length → Ev (fun k => spec_l7Batch.l0 k l i) ((l.drop i).all okW)
  | 0, i, hi => by
    rw [List.drop_eq_nil_of_le (by omega)]
    refine Ev.succ ?_
    simp only [spec_l7Batch.l0, List.all_nil]
    exact Ev.neg (by omega) (Ev.now _)
  | d + 1, i, hi => by
    have ih := sbatch_l0 l hl d (i + 1) (by omega)
    rw [List.drop_eq_getElem_cons (show i < l.length by omega), List.all_cons]
    refine Ev.succ ?_
    simp only [spec_l7Batch.l0, rdw (show i < l.length by omega), sentry, Option.bind_some]
    rw [w64 (x := (i : Int) + 1) (by omega) (by omega), cast_succ]
    refine Ev.pos (by omega) (Ev.pos (by omega) ?_)
    cases okW l[i] with
    | true => exact Ev.pos rfl (by simpa using ih)
    | false => exact Ev.neg (by simp) (Ev.now _)
def okB (l : List S127) : Bool := decide ((l.length : Int) ≤ 20) && l.all okW
theorem sbatchOk (l : List S127) (hl : l.length ≤ 4611686018427387904) : Ev (fun k => spec_l7Batch.f k l) (okB l) := by
  unfold spec_l7Batch.f okB
  by_cases h : (l.length : Int) > 20
  · rw [decide_eq_false (by omega), Bool.false_and]
    exact Ev.pos h (Ev.now _)
  · rw [decide_eq_true (by omega), Bool.true_and]
    exact Ev.neg h (by simpa using sbatch_l0 l hl l.length 0 (by omega))
theorem ibatchOk (l : List S127) : impl_batchOk.f l = some (okB l) := by
  have hs : (l.all fun x => (impl_batchOk_1.f x.f0 x.f1 x.f2).isSome) = true := List.all_eq_true.2 (fun x _ => by rw [ilit]; rfl)
  have ha : (l.any fun x => (impl_batchOk_1.f x.f0 x.f1 x.f2).getD false) = !(l.all okW) := by
    have : (fun x : S127 => (impl_batchOk_1.f x.f0 x.f1 x.f2).getD false) = fun x => !okW x := by
      funext x
      rw [ilit]
      rfl
    rw [this]
    simp [List.not_all_eq_any_not]
  unfold impl_batchOk.f impl_Write_164.f okB
  rw [if_pos hs, ha]
  by_cases h : (l.length : Int) ≤ 20
  · rw [if_pos h, decide_eq_true h]
    simp
  · rw [if_neg h, decide_eq_false h]
    rfl
def flg (b : Bool) : ByteArray := if b = true then (⟨#[49]⟩ : ByteArray) else (⟨#[48]⟩ : ByteArray)
theorem sflag (b : Bool) : ∃ n, spec_l4Flag.f b = some n ∧ Ev (fun k => spec_l2Int.f k n) (flg b) := by
  cases b with
  | true => exact ⟨1, rfl, Ev.of (fun k => spec_l2Int.mono 1 k) (k := 9) (by decide +kernel)⟩
  | false => exact ⟨0, rfl, Ev.of (fun k => spec_l2Int.mono 0 k) (k := 9) (by decide +kernel)⟩
def fl (x : S127) : List ByteArray := [x.f0, x.f1, flg x.f2]
theorem fl_cons (x : S127) (l : List S127) : (x :: l).flatMap fl = fl x ++ l.flatMap fl := by simp
theorem fl_len : ∀ l : List S127, (l.flatMap fl).length = 3 * l.length
  | [] => rfl
  | x :: l => by rw [fl_cons, List.length_append, fl_len l]; simp [fl]; omega
theorem batch_l0 (l : List S127) (hl : l.length ≤ 20) : ∀ (d i : Nat) (acc : List ByteArray), i + d = l.length → acc.length + 3 * d ≤ 1000 →
    Ev (fun k => spec_l10Batch.l0 k l acc i) (strOfNums (textsB (acc ++ (l.drop i).flatMap fl))) ∧ Ev (fun k => impl_Batch.l0 k acc l (l.length : Int) i) (strOfNums (textsB (acc ++ (l.drop i).flatMap fl)))
  | 0, i, acc, hi, ha => by
    rw [List.drop_eq_nil_of_le (by omega)]
    simp only [List.flatMap_nil, List.append_nil]
    obtain ⟨t1, t2⟩ := texts_ev acc (by omega)
    refine ⟨Ev.succ ?_, Ev.succ ?_⟩
    · simp only [spec_l10Batch.l0]
      exact Ev.neg (by omega) (Ev.bind t1 (Ev.now _))
    · simp only [impl_Batch.l0]
      exact Ev.neg (by omega) (Ev.bind t2 (Ev.now _))
  | d + 1, i, acc, hi, ha => by
    obtain ⟨n, e1, e2⟩ := sflag l[i].f2
    obtain ⟨j1, j2⟩ := batch_l0 l hl d (i + 1) (acc ++ fl l[i]) (by omega) (by simp [fl]; omega)
    rw [List.append_assoc, ← fl_cons, ← List.drop_eq_getElem_cons (show i < l.length by omega)] at j1 j2
    have hlen : (fl l[i]).length = 3 := rfl
    refine ⟨Ev.succ ?_, Ev.succ ?_⟩
    · simp only [spec_l10Batch.l0, rdw (show i < l.length by omega), e1, Option.bind_some]
      rw [w64 (x := (i : Int) + 1) (by omega) (by omega), cast_succ]
      exact Ev.pos (by omega) (Ev.pos (by omega) (Ev.bind e2 (Ev.pos (by simp; omega) j1)))
    · simp only [impl_Batch.l0, rdw (show i < l.length by omega), Option.bind_some]
      rw [w64 (x := (i : Int) + 1) (by omega) (by omega), cast_succ]
      refine Ev.pos (by omega) (Ev.pos (by omega) (Ev.pos (by omega) ?_))
      cases hb : l[i].f2 with
      | true =>
        have : fl l[i] = [l[i].f0, l[i].f1, (⟨#[49]⟩ : ByteArray)] := by simp [fl, flg, hb]
        rw [this] at j2
        exact Ev.pos rfl (Ev.pos (by simp; omega) j2)
      | false =>
        have : fl l[i] = [l[i].f0, l[i].f1, (⟨#[48]⟩ : ByteArray)] := by simp [fl, flg, hb]
        rw [this] at j2
        exact Ev.neg (by simp) (Ev.pos (by simp; omega) j2)
/-- A batch as a text. -/
def batchT (l : List S127) : ByteArray := if okB l = true ∧ l ≠ [] then strOfNums (textsB (l.flatMap fl)) else (⟨#[]⟩ : ByteArray)
theorem batch_ev (l : List S127) (hl : l.length ≤ 4611686018427387904) : Ev (fun k => spec_Batch.f k l) (batchT l) ∧ Ev (fun k => impl_Batch.f k l) (batchT l) := by
  have e := sbatchOk l hl
  have no : Ev (fun k => impl_Batch.j0 k l true) (⟨#[]⟩ : ByteArray) := Ev.succ (by simp only [impl_Batch.j0]; exact Ev.pos (by simp) (Ev.now _))
  unfold spec_Batch.f impl_Batch.f batchT
  simp only [ibatchOk, Option.bind_some]
  cases hb : okB l with
  | false =>
    rw [hb] at e
    rw [if_neg (fun h => by simp at h)]
    exact ⟨Ev.bind e (Ev.neg (by simp) (Ev.now _)), Ev.neg (by simp) no⟩
  | true =>
    have hl20 : l.length ≤ 20 := by
      simp only [okB, Bool.and_eq_true, decide_eq_true_eq] at hb
      omega
    rw [hb] at e
    by_cases hn : l = []
    · subst hn
      rw [if_neg (fun h => h.2 rfl)]
      exact ⟨Ev.bind e (Ev.pos rfl (Ev.pos rfl (Ev.now _))), Ev.pos rfl no⟩
    · have h0 : 0 < l.length := Nat.pos_of_ne_zero (fun h => hn (List.length_eq_zero_iff.1 h))
      rw [if_pos ⟨rfl, hn⟩]
      obtain ⟨j1, j2⟩ := batch_l0 l hl20 l.length 0 [] (by omega) (by simp; omega)
      rw [List.drop_zero, List.nil_append] at j1 j2
      have hz : ((l.length : Int) == 0) = false := by
        rw [beq_eq_false_iff_ne]; omega
      rw [hz]
      refine ⟨Ev.bind e (Ev.pos rfl (Ev.neg (by omega) (Ev.bind (show Ev (fun k => spec_l10Batch.f k l) _ from j1) (Ev.now _)))), Ev.pos rfl (Ev.succ ?_)⟩
      simp only [impl_Batch.j0]
      exact Ev.neg (by simp) j2
/-! reading -/
def byteL (xs : List Int) : Prop := ∀ y, y ∈ xs → 0 ≤ y ∧ y ≤ 255
theorem byteL_drop {xs : List Int} (h : byteL xs) (n : Nat) : byteL (xs.drop n) := fun y hy => h y (List.mem_of_mem_drop hy)
theorem byteL_of (s : ByteArray) : byteL (bytesOf s) := by
  intro y hy
  unfold bytesOf at hy
  obtain ⟨b, _, rfl⟩ := List.mem_map.1 hy
  have := b.toNat_lt
  omega
theorem and_all : ∀ b : Fin 256, Go.bits .and .u8 ((b.val : Nat) : Int) 127 = ((b.val % 128 : Nat) : Int) := by decide +kernel
theorem shl_all : ∀ c : Fin 128, ∀ i : Fin 6, shl .i64 ((c.val : Nat) : Int) ((7 * i.val : Nat) : Int) = ((c.val * 2 ^ (7 * i.val) : Nat) : Int) := by decide +kernel
theorem pow_le {i : Nat} (h : i ≤ 5) : 2 ^ (7 * i) ≤ 34359738368 := Nat.le_trans (Nat.pow_le_pow_right (by decide) (show 7 * i ≤ 35 by omega)) (by decide)
theorem or_nat (n c i : Nat) (hi : i ≤ 5) (hn : n < 2 ^ (7 * i)) (hc : c < 128) : Go.bits .or .i64 (n : Int) ((c * 2 ^ (7 * i) : Nat) : Int) = ((n + c * 2 ^ (7 * i) : Nat) : Int) := by
  have hp := pow_le hi
  have hor : n ||| c * 2 ^ (7 * i) = n + c * 2 ^ (7 * i) := by
    rw [Nat.mul_comm c, Nat.or_comm, ← Nat.two_pow_add_eq_or_of_lt hn]
    omega
  have hq : c * 2 ^ (7 * i) ≤ 127 * 2 ^ (7 * i) := Nat.mul_le_mul_right _ (by omega)
  generalize 2 ^ (7 * i) = p at *
  generalize c * p = q at *
  have key : (BitVec.ofInt 64 (n : Int) ||| BitVec.ofInt 64 (q : Int)).toNat = n + q := by
    rw [BitVec.toNat_or, BitVec.toNat_ofInt, BitVec.toNat_ofInt, ← hor]
    have h1 : ((n : Int) % ((2 ^ 64 : Nat) : Int)).toNat = n := by omega
    have h2 : ((q : Int) % ((2 ^ 64 : Nat) : Int)).toNat = q := by omega
    rw [h1, h2]
  have e : Go.bits .or .i64 (n : Int) (q : Int) = IntKind.i64.wrap ((BitVec.ofInt 64 (n : Int) ||| BitVec.ofInt 64 (q : Int)).toNat : Nat) := rfl
  rw [e, key, IntKind.wrap_i64]
  omega
def RN (xs : List Int) (r : Int × Int) : Prop := r = (0, 0) ∨ (0 < r.2 ∧ r.2 ≤ xs.length ∧ 0 ≤ r.1 ∧ r.1 ≤ 1099511627776)
theorem rnum_step (xs : List Int) (hl : xs.length ≤ 4611686018427387904) (i b : Nat) (n p N P' : Int) (hi5 : i ≤ 5) (hlt : i < xs.length) (hb : b ≤ 255) (hv : rd xs (i : Int) = (b : Int))
    (eo : Go.bits .or .i64 n (shl .i64 (wrap64 (Go.bits .and .u8 (b : Int) 127)) (wrap64 (7 * (i : Int)))) = N) (esp : wrap64 (n + wrap64 (Int.tmod (wrap64 (b : Int)) 128 * p)) = N) (ew : wrap64 (p * 128) = P') (hN0 : 0 ≤ N)
    (H : ∃ r : Int × Int, Ev (fun k => spec_ReadNumber.l0 k xs N P' ((i + 1 : Nat) : Int)) r ∧ Ev (fun k => impl_ReadNumber.l0 k N xs (xs.length : Int) ((i + 1 : Nat) : Int)) r ∧ RN xs r) :
    ∃ r : Int × Int, Ev (fun k => spec_ReadNumber.l0 k xs n p (i : Int)) r ∧ Ev (fun k => impl_ReadNumber.l0 k n xs (xs.length : Int) (i : Int)) r ∧ RN xs r := by
  have e6 : wrap64 ((i : Int) + 1) = ((i + 1 : Nat) : Int) := by rw [w64 (by omega) (by omega), cast_succ]
  have w7 : (0 : Int) ≤ wrap64 (7 * (i : Int)) := by rw [w64 (by omega) (by omega)]; omega
  have wb : wrap64 (b : Int) = (b : Int) := w64 (by omega) (by omega)
  rw [wb] at esp
  have key : ∃ r : Int × Int, Ev (fun k => spec_ReadNumber.j1 (k + 1) xs n p (i : Int) true) r ∧ Ev (fun k => impl_ReadNumber.l0 (k + 1) n xs (xs.length : Int) (i : Int)) r ∧ RN xs r := by
    simp only [spec_ReadNumber.j1, impl_ReadNumber.l0, hv, eo, wb, esp, ew, e6]
    clear eo esp ew e6 wb hv
    have i0 : (0 : Int) ≤ (i : Int) := by omega
    have i1 : (i : Int) < (xs.length : Int) := by omega
    have i5 : ¬ (i : Int) > 5 := by omega
    by_cases c1 : (b : Int) < 128
    · by_cases c2 : N > 1099511627776
      · refine ⟨(0, 0), Ev.pos (by trivial) (Ev.pos i0 (Ev.pos i1 (Ev.pos c1 (Ev.pos c2 (Ev.now _))))), ?_, Or.inl rfl⟩
        refine Ev.pos i1 (Ev.pos i0 (Ev.pos i1 (Ev.neg i5 (Ev.pos w7 (Ev.pos c1 ?_)))))
        by_cases c3 : (i : Int) > 0
        · refine Ev.pos c3 ?_
          by_cases c4 : (b : Int) = 0
          · exact Ev.pos c4 (Ev.now _)
          · exact Ev.neg c4 (Ev.pos c2 (Ev.now _))
        · exact Ev.neg c3 (Ev.pos c2 (Ev.now _))
      · have good : RN xs (N, ((i + 1 : Nat) : Int)) := Or.inr ⟨by dsimp only; omega, by dsimp only; omega, hN0, by dsimp only; omega⟩
        by_cases c3 : (i : Int) > 0
        · by_cases c4 : (b : Int) = 0
          · exact ⟨(0, 0), Ev.pos (by trivial) (Ev.pos i0 (Ev.pos i1 (Ev.pos c1 (Ev.neg c2 (Ev.pos c3 (Ev.pos c4 (Ev.now _))))))), Ev.pos i1 (Ev.pos i0 (Ev.pos i1 (Ev.neg i5 (Ev.pos w7 (Ev.pos c1 (Ev.pos c3 (Ev.pos c4 (Ev.now _)))))))), Or.inl rfl⟩
          · exact ⟨(N, ((i + 1 : Nat) : Int)), Ev.pos (by trivial) (Ev.pos i0 (Ev.pos i1 (Ev.pos c1 (Ev.neg c2 (Ev.pos c3 (Ev.neg c4 (Ev.now _))))))), Ev.pos i1 (Ev.pos i0 (Ev.pos i1 (Ev.neg i5 (Ev.pos w7 (Ev.pos c1 (Ev.pos c3 (Ev.neg c4 (Ev.neg c2 (Ev.now _))))))))), good⟩
        · exact ⟨(N, ((i + 1 : Nat) : Int)), Ev.pos (by trivial) (Ev.pos i0 (Ev.pos i1 (Ev.pos c1 (Ev.neg c2 (Ev.neg c3 (Ev.now _)))))), Ev.pos i1 (Ev.pos i0 (Ev.pos i1 (Ev.neg i5 (Ev.pos w7 (Ev.pos c1 (Ev.neg c3 (Ev.neg c2 (Ev.now _)))))))), good⟩
    · obtain ⟨r, h1, h2, h3⟩ := H
      exact ⟨r, Ev.pos (by trivial) (Ev.pos i0 (Ev.pos i1 (Ev.neg c1 h1))), Ev.pos i1 (Ev.pos i0 (Ev.pos i1 (Ev.neg i5 (Ev.pos w7 (Ev.neg c1 h2))))), h3⟩
  obtain ⟨r, k1, k2, k3⟩ := key
  refine ⟨r, Ev.succ ?_, Ev.succ k2, k3⟩
  simp only [spec_ReadNumber.l0]
  refine Ev.pos (by omega) ?_
  rw [decide_eq_true (show (i : Int) < 6 by omega)]
  exact Ev.succ k1
theorem or_at (n i b : Nat) (hi : i ≤ 5) (hn : n < 2 ^ (7 * i)) (hb : b ≤ 255) : Go.bits .or .i64 (n : Int) (shl .i64 (wrap64 (Go.bits .and .u8 (b : Int) 127)) (wrap64 (7 * (i : Int)))) = ((n + b % 128 * 2 ^ (7 * i) : Nat) : Int) := by
  have ea := and_all ⟨b, by omega⟩
  have es := shl_all ⟨b % 128, by omega⟩ ⟨i, by omega⟩
  simp only at ea es
  have w1 : wrap64 ((b % 128 : Nat) : Int) = ((b % 128 : Nat) : Int) := w64 (by clear ea es; omega) (by clear ea es; omega)
  have w7 : wrap64 (7 * (i : Int)) = ((7 * i : Nat) : Int) := by clear ea es w1; rw [w64 (by omega) (by omega)]; omega
  rw [ea, w1, w7, es]
  exact or_nat n (b % 128) i hi hn (by clear ea es w1 w7; omega)
theorem sum_at (n i b : Nat) (hi : i ≤ 5) (hn : n < 2 ^ (7 * i)) (hb : b ≤ 255) : wrap64 ((n : Int) + wrap64 (Int.tmod (wrap64 (b : Int)) 128 * ((2 ^ (7 * i) : Nat) : Int))) = ((n + b % 128 * 2 ^ (7 * i) : Nat) : Int) ∧ n + b % 128 * 2 ^ (7 * i) < 2 ^ (7 * (i + 1)) ∧ wrap64 (((2 ^ (7 * i) : Nat) : Int) * 128) = ((2 ^ (7 * (i + 1)) : Nat) : Int) := by
  have hp := pow_le hi
  have wb : wrap64 (b : Int) = (b : Int) := w64 (by omega) (by omega)
  have tm : Int.tmod (b : Int) 128 = ((b % 128 : Nat) : Int) := rfl
  have hpow : 2 ^ (7 * (i + 1)) = 128 * 2 ^ (7 * i) := by rw [show 7 * (i + 1) = 7 * i + 7 by omega, Nat.pow_add]; exact Nat.mul_comm _ _
  rw [wb, tm, ← Int.natCast_mul, hpow]
  have hq : b % 128 * 2 ^ (7 * i) ≤ 127 * 2 ^ (7 * i) := Nat.mul_le_mul_right _ (by clear wb tm hpow; omega)
  clear wb tm hpow
  generalize 2 ^ (7 * i) = p at *
  generalize b % 128 * p = q at *
  refine ⟨?_, by omega, ?_⟩
  · rw [w64 (x := (q : Int)) (by omega) (by omega), w64 (by omega) (by omega)]
    omega
  · rw [w64 (by omega) (by omega)]
    omega
theorem rnum_l0 (xs : List Int) (hb : byteL xs) (hl : xs.length ≤ 4611686018427387904) : ∀ (d i n : Nat), i + d = 6 → i ≤ xs.length → n < 2 ^ (7 * i) →
    ∃ r : Int × Int, Ev (fun k => spec_ReadNumber.l0 k xs (n : Int) ((2 ^ (7 * i) : Nat) : Int) (i : Int)) r ∧ Ev (fun k => impl_ReadNumber.l0 k (n : Int) xs (xs.length : Int) (i : Int)) r ∧ RN xs r
  | 0, i, n, hi, hx, hn => by
    have i6 : ¬ (i : Int) < 6 := by clear hn; omega
    have i5 : (i : Int) > 5 := by clear hn; omega
    have i0 : (0 : Int) ≤ (i : Int) := by clear hn; omega
    clear hn
    generalize ((2 ^ (7 * i) : Nat) : Int) = p
    refine ⟨(0, 0), Ev.succ ?_, Ev.succ ?_, Or.inl rfl⟩
    · simp only [spec_ReadNumber.l0]
      have hz : ∀ b, b = false → Ev (fun k => spec_ReadNumber.j1 k xs (n : Int) p (i : Int) b) ((0, 0) : Int × Int) := by
        intro b hb'
        subst hb'
        refine Ev.succ ?_
        simp only [spec_ReadNumber.j1]
        exact Ev.neg (by simp) (Ev.now _)
      by_cases c : (i : Int) < (xs.length : Int)
      · exact Ev.pos c (hz _ (decide_eq_false i6))
      · exact Ev.neg c (hz _ rfl)
    · simp only [impl_ReadNumber.l0]
      by_cases c : (i : Int) < (xs.length : Int)
      · exact Ev.pos c (Ev.pos i0 (Ev.pos c (Ev.pos i5 (Ev.now _))))
      · exact Ev.neg c (Ev.now _)
  | d + 1, i, n, hi, hx, hn => by
    have hi5 : i ≤ 5 := by clear hn; omega
    by_cases c : i < xs.length
    · have hy := hb _ (List.getElem_mem c)
      have hrd : rd xs (i : Int) = xs[i] := by
        show xs.getD i 0 = xs[i]
        rw [List.getD_eq_getElem?_getD, List.getElem?_eq_getElem c]
        rfl
      obtain ⟨b, hbv⟩ := Int.eq_ofNat_of_zero_le hy.1
      have hb255 : b ≤ 255 := by clear hn; omega
      have hv : rd xs (i : Int) = (b : Int) := by rw [hrd]; exact hbv
      obtain ⟨esp, hN, ew⟩ := sum_at n i b hi5 hn hb255
      exact rnum_step xs hl i b (n : Int) _ _ _ hi5 c hb255 hv (or_at n i b hi5 hn hb255) esp ew (Int.natCast_nonneg _) (rnum_l0 xs hb hl d (i + 1) (n + b % 128 * 2 ^ (7 * i)) (by clear esp hN ew hn; omega) c hN)
    · have i1 : ¬ (i : Int) < (xs.length : Int) := by clear hn; omega
      clear hn
      generalize ((2 ^ (7 * i) : Nat) : Int) = p
      refine ⟨(0, 0), Ev.succ ?_, Ev.succ ?_, Or.inl rfl⟩
      · simp only [spec_ReadNumber.l0]
        refine Ev.neg i1 (Ev.succ ?_)
        simp only [spec_ReadNumber.j1]
        exact Ev.neg (by simp) (Ev.now _)
      · simp only [impl_ReadNumber.l0]
        exact Ev.neg i1 (Ev.now _)
theorem rnum_ev (xs : List Int) (hb : byteL xs) (hl : xs.length ≤ 4611686018427387904) : ∃ r : Int × Int, Ev (fun k => spec_ReadNumber.f k xs) r ∧ Ev (fun k => impl_ReadNumber.f k xs) r ∧ RN xs r :=
  rnum_l0 xs hb hl 6 0 0 (by omega) (by omega) (by decide)
theorem rtext_ev (xs : List Int) (hb : byteL xs) (hl : xs.length ≤ 4611686018427387904) : ∃ r : ByteArray × Int, Ev (fun k => spec_ReadText.f k xs) r ∧ Ev (fun k => impl_ReadText.f k xs) r ∧ 0 ≤ r.2 ∧ r.2 ≤ xs.length := by
  obtain ⟨⟨n, t⟩, h1, h2, h3⟩ := rnum_ev xs hb hl
  have key : ∃ r : ByteArray × Int, (∀ g : Nat → Option (ByteArray × Int), g = (fun _ => (if t = 0 then (some ((⟨#[]⟩ : ByteArray), 0)) else (if n > 3000 then (some ((⟨#[]⟩ : ByteArray), 0)) else (if n > (wrap64 ((xs.length : Int) - t)) then (some ((⟨#[]⟩ : ByteArray), 0)) else (if 0 ≤ t then (if t ≤ (wrap64 (t + n)) then (if (wrap64 (t + n)) ≤ (xs.length : Int) then (some (strOfNums ((xs.take ((wrap64 (t + n)) : Int).toNat).drop (t : Int).toNat), wrap64 (t + n))) else (none)) else (none)) else (none)))))) → Ev g r) ∧ 0 ≤ r.2 ∧ r.2 ≤ xs.length := by
    by_cases c0 : t = 0
    · exact ⟨((⟨#[]⟩ : ByteArray), 0), fun g hg => by subst hg; exact Ev.pos c0 (Ev.now _), by simp, by simp⟩
    · rcases h3 with h3 | ⟨q1, q2, q3, q4⟩
      · have : t = 0 := congrArg Prod.snd h3
        exact absurd this c0
      · dsimp only at q1 q2 q3 q4
        by_cases c1 : n > 3000
        · exact ⟨((⟨#[]⟩ : ByteArray), 0), fun g hg => by subst hg; exact Ev.neg c0 (Ev.pos c1 (Ev.now _)), by simp, by simp⟩
        · have w1 : wrap64 ((xs.length : Int) - t) = (xs.length : Int) - t := w64 (by omega) (by omega)
          have w2 : wrap64 (t + n) = t + n := w64 (by omega) (by omega)
          rw [w1, w2]
          by_cases c2 : n > (xs.length : Int) - t
          · exact ⟨((⟨#[]⟩ : ByteArray), 0), fun g hg => by subst hg; exact Ev.neg c0 (Ev.neg c1 (Ev.pos c2 (Ev.now _))), by simp, by simp⟩
          · exact ⟨_, fun g hg => by subst hg; exact Ev.neg c0 (Ev.neg c1 (Ev.neg c2 (Ev.pos (by omega) (Ev.pos (by omega) (Ev.pos (by omega) (Ev.now _)))))), by dsimp only; omega, by dsimp only; omega⟩
  obtain ⟨r, k1, k2, k3⟩ := key
  unfold spec_ReadText.f impl_ReadText.f
  exact ⟨r, Ev.bind h1 (k1 _ rfl), Ev.bind h2 (k1 _ rfl), k2, k3⟩
theorem goes_some (xs : List Int) (bad : Bool) (t : Int) (h0 : 0 ≤ t) (h1 : t ≤ xs.length) : impl_cursor_goes.f xs bad t = some (xs.drop t.toNat, bad || (t == 0)) := by
  unfold impl_cursor_goes.f
  rw [if_pos ⟨h0, h1⟩]
theorem rtexts_l0 (D : List Int) (hb : byteL D) (hl : D.length ≤ 4611686018427387904) : ∀ (m at_ : Nat) (out : List ByteArray), 0 < at_ → at_ ≤ D.length → out.length + m ≤ 1000 →
    ∃ (r1 : List ByteArray × Int) (r2 : List ByteArray × List Int × Bool), Ev (fun k => spec_l1ReadTexts.l0 k D (m : Int) (at_ : Int) out) r1 ∧ Ev (fun k => impl_cursor_texts.l0 k (D.drop at_) false (m : Int) out) r2 ∧ r1.1.length ≤ 1000 ∧ ((r1.2 = 0 ∧ r2.2.2 = true) ∨ (0 < r1.2 ∧ r1.2 ≤ D.length ∧ r2 = (r1.1, D.drop r1.2.toNat, false)))
  | 0, at_, out, h0, h1, ho => by
    refine ⟨(out, (at_ : Int)), (out, D.drop at_, false), Ev.succ ?_, Ev.succ ?_, by dsimp only; omega, Or.inr ⟨by dsimp only; omega, by dsimp only; omega, by simp⟩⟩
    · simp only [spec_l1ReadTexts.l0]
      exact Ev.neg (by omega) (Ev.now _)
    · simp only [impl_cursor_texts.l0]
      exact Ev.neg (by omega) (Ev.now _)
  | m + 1, at_, out, h0, h1, ho => by
    have hdl : (D.drop at_).length = D.length - at_ := List.length_drop
    obtain ⟨⟨s, t⟩, e1, e2, t0, t1⟩ := rtext_ev (D.drop at_) (byteL_drop hb at_) (by omega)
    dsimp only at t0 t1
    have wm : wrap64 (((m + 1 : Nat) : Int) - 1) = (m : Int) := by rw [w64 (by omega) (by omega)]; omega
    have eg := goes_some (D.drop at_) false t t0 t1
    have et : Ev (fun k => impl_cursor_text.f k (D.drop at_) false) (s, (D.drop at_).drop t.toNat, false || (t == 0)) := by
      unfold impl_cursor_text.f
      refine Ev.bind e2 ?_
      dsimp only
      rw [eg]
      exact Ev.now _
    by_cases c : t = 0
    · subst c
      refine ⟨([], 0), (out ++ [s], (D.drop at_).drop (0 : Int).toNat, true), Ev.succ ?_, Ev.succ ?_, by simp, Or.inl ⟨rfl, rfl⟩⟩
      · simp only [spec_l1ReadTexts.l0, Int.toNat_natCast]
        exact Ev.pos (by omega) (Ev.pos (by omega) (Ev.pos (by omega) (Ev.bind e1 (Ev.pos rfl (Ev.now _)))))
      · simp only [impl_cursor_texts.l0]
        refine Ev.pos (by omega) (Ev.neg (by simp) (Ev.bind et (Ev.pos (by omega) ?_)))
        dsimp only
        rw [wm]
        refine Ev.succ ?_
        simp only [impl_cursor_texts.l0]
        by_cases cm : (m : Int) > 0
        · exact Ev.pos cm (Ev.pos rfl (Ev.now _))
        · exact Ev.neg cm (Ev.now _)
    · obtain ⟨tn, rfl⟩ := Int.eq_ofNat_of_zero_le t0
      have wt : wrap64 ((at_ : Int) + (tn : Int)) = ((at_ + tn : Nat) : Int) := by rw [w64 (by omega) (by omega)]; omega
      obtain ⟨r1, r2, j1, j2, j3⟩ := rtexts_l0 D hb hl m (at_ + tn) (out ++ [s]) (by omega) (by omega) (by simp; omega)
      refine ⟨r1, r2, Ev.succ ?_, Ev.succ ?_, j3⟩
      · simp only [spec_l1ReadTexts.l0, Int.toNat_natCast]
        refine Ev.pos (by omega) (Ev.pos (by omega) (Ev.pos (by omega) (Ev.bind e1 (Ev.neg c (Ev.pos (by omega) ?_)))))
        rw [wm]
        dsimp only
        rw [wt]
        exact j1
      · simp only [impl_cursor_texts.l0]
        refine Ev.pos (by omega) (Ev.neg (by simp) (Ev.bind et (Ev.pos (by omega) ?_)))
        dsimp only
        rw [wm, Int.toNat_natCast, List.drop_drop, show (false || ((tn : Int) == 0)) = false by rw [Bool.false_or, beq_eq_false_iff_ne]; exact c]
        exact j2
theorem rtextsL_ev (D : List Int) (hb : byteL D) (hl : D.length ≤ 4611686018427387904) : ∃ r : List ByteArray × Bool, Ev (fun k => spec_ReadTextsL.f k D) r ∧ Ev (fun k => impl_ReadTextsL.f k D) r ∧ r.1.length ≤ 1000 ∧ (r.2 = true → D ≠ []) := by
  obtain ⟨⟨n, t⟩, h1, h2, h3⟩ := rnum_ev D hb hl
  unfold spec_ReadTextsL.f impl_ReadTextsL.f spec_l1ReadTexts.f impl_cursor_texts.f impl_cursor_number.f
  have t0 : 0 ≤ t ∧ t ≤ D.length := by
    rcases h3 with h3 | ⟨q1, q2, _⟩
    · have : t = 0 := congrArg Prod.snd h3
      omega
    · dsimp only at q1 q2
      omega
  have eg := goes_some D false t t0.1 t0.2
  have en : Ev (fun k => (impl_ReadNumber.f k D).bind fun p => (impl_cursor_goes.f D false p.2).bind fun q => some (p.1, q.1, q.2)) (n, D.drop t.toNat, false || (t == 0)) := by
    refine Ev.bind h2 ?_
    dsimp only
    rw [eg]
    exact Ev.now _
  have bad1 : ∀ (y : List ByteArray), Ev (fun k => spec_l1ReadTexts.j0 k D n t y true) (y, 0) := fun y => Ev.succ (by simp only [spec_l1ReadTexts.j0]; exact Ev.pos (by trivial) (Ev.now _))
  have bad2 : ∀ (xs : List Int) (m : Int) (o : List ByteArray), Ev (fun k => impl_cursor_texts.l0 k xs true m o) (o, xs, true) := fun xs m o => Ev.succ (by
    simp only [impl_cursor_texts.l0]
    by_cases cm : m > 0
    · exact Ev.pos cm (Ev.pos (by trivial) (Ev.now _))
    · exact Ev.neg cm (Ev.now _))
  by_cases c0 : t = 0
  · refine ⟨([], false), Ev.bind (a := (([] : List ByteArray), (0 : Int))) (Ev.bind h1 ?_) (Ev.pos rfl (Ev.now _)), Ev.bind (a := (([] : List ByteArray), D.drop t.toNat, true)) (Ev.bind en ?_) (Ev.now _), by simp, by simp⟩
    · simp only [Option.bind_some]
      subst c0
      exact Ev.pos (by trivial) (bad1 _)
    · dsimp only
      have : (false || (t == 0)) = true := by simp [c0]
      rw [this, ite_self]
      exact bad2 _ _ _
  · rcases h3 with h3 | ⟨q1, q2, q3, q4⟩
    · have : t = 0 := congrArg Prod.snd h3
      exact absurd this c0
    · dsimp only at q1 q2 q3 q4
      have ez : (false || (t == 0)) = false := by rw [Bool.false_or, beq_eq_false_iff_ne]; exact c0
      rw [ez] at en
      by_cases c1 : n > 200
      · refine ⟨([], false), Ev.bind (a := (([] : List ByteArray), (0 : Int))) (Ev.bind h1 ?_) (Ev.pos rfl (Ev.now _)), Ev.bind (a := (([] : List ByteArray), D.drop t.toNat, true)) (Ev.bind en ?_) (Ev.now _), by simp, by simp⟩
        · simp only [Option.bind_some]
          refine Ev.neg c0 ?_
          rw [decide_eq_true c1]
          exact bad1 _
        · dsimp only
          rw [if_pos c1]
          exact bad2 _ _ _
      · obtain ⟨m, rfl⟩ := Int.eq_ofNat_of_zero_le q3
        obtain ⟨a, rfl⟩ := Int.eq_ofNat_of_zero_le t0.1
        obtain ⟨r1, r2, j1, j2, j3, j4⟩ := rtexts_l0 D hb hl m a [] (by omega) (by omega) (by simp; omega)
        have s1 : Ev (fun k => (spec_ReadNumber.f k D).bind fun bt => ((some (([] : List ByteArray) : List ByteArray)).bind fun y => (if bt.2 = 0 then (spec_l1ReadTexts.j0 k D bt.1 bt.2 y true) else (spec_l1ReadTexts.j0 k D bt.1 bt.2 y (decide (bt.1 > 200)))))) r1 := by
          refine Ev.bind h1 ?_
          simp only [Option.bind_some]
          refine Ev.neg c0 ?_
          rw [decide_eq_false c1]
          refine Ev.succ ?_
          simp only [spec_l1ReadTexts.j0]
          exact Ev.neg (by simp) j1
        have s2 : Ev (fun k => ((impl_ReadNumber.f k D).bind fun p => (impl_cursor_goes.f D false p.2).bind fun q => some (p.1, q.1, q.2)).bind fun m => impl_cursor_texts.l0 k m.2.1 (if m.1 > 200 then true else m.2.2) m.1 []) r2 := by
          refine Ev.bind en ?_
          dsimp only
          rw [if_neg c1, Int.toNat_natCast]
          exact j2
        have hD : D ≠ [] := by
          rintro rfl
          simp at q2
          omega
        rcases j4 with ⟨k1, k2⟩ | ⟨k1, k2, k3⟩
        · refine ⟨([], false), Ev.bind s1 (Ev.pos k1 (Ev.now _)), Ev.bind s2 ?_, by simp, by simp⟩
          unfold impl_cursor_ended.f
          rw [if_pos k2]
          exact Ev.now _
        · have hne : ¬ r1.2 = 0 := by omega
          have hdl : (D.drop r1.2.toNat).length = D.length - r1.2.toNat := List.length_drop
          by_cases ce : r1.2 = (D.length : Int)
          · refine ⟨(r1.1, true), Ev.bind s1 (Ev.neg hne (Ev.pos ce (Ev.now _))), Ev.bind s2 ?_, j3, fun _ => hD⟩
            rw [k3]
            unfold impl_cursor_ended.f
            dsimp only
            rw [if_neg (by simp), hdl]
            have : (((D.length - r1.2.toNat : Nat) : Int) == 0) = true := by rw [beq_iff_eq]; omega
            rw [this]
            exact Ev.now _
          · refine ⟨([], false), Ev.bind s1 (Ev.neg hne (Ev.neg ce (Ev.now _))), Ev.bind s2 ?_, by simp, by simp⟩
            rw [k3]
            unfold impl_cursor_ended.f
            dsimp only
            rw [if_neg (by simp), hdl]
            have : (((D.length - r1.2.toNat : Nat) : Int) == 0) = false := by rw [beq_eq_false_iff_ne]; omega
            rw [this]
            exact Ev.now _
theorem rtexts_ev (s : ByteArray) (hl : s.size ≤ 4611686018427387904) : ∃ r : List ByteArray × Bool, Ev (fun k => spec_ReadTexts.f k s) r ∧ Ev (fun k => impl_ReadTexts.f k s) r ∧ r.1.length ≤ 1000 ∧ (r.2 = true → s.toList ≠ []) := by
  have hsz := bytesOf_length s
  obtain ⟨r, h1, h2, h3, h4⟩ := rtextsL_ev (bytesOf s) (byteL_of s) (by omega)
  unfold spec_ReadTexts.f impl_ReadTexts.f
  refine ⟨r, Ev.pos (by omega) h1, Ev.pos (by omega) h2, h3, fun hr he => h4 hr ?_⟩
  unfold bytesOf
  rw [show s.data.toList = [] by simpa [ByteArray.toList_eq] using he]
  rfl
/-! the batch of a text -/
theorem rb_l0 (s : ByteArray) (hs : s.toList ≠ []) (L : List ByteArray) (hL : L.length ≤ 1000) : ∀ (d i : Nat) (out : List S127), i + 3 * d = L.length → out.length + d ≤ 1000 →
    ∃ r : List S127 × Bool, Ev (fun k => spec_ReadBatch.l0 k s L out (i : Int)) r ∧ Ev (fun k => impl_ReadBatch.l0 k s L out (i : Int)) r ∧ r.1.length ≤ 1000
  | 0, i, out, hi, ho => by
    obtain ⟨b1, b2⟩ := batch_ev out (by omega)
    by_cases c : (batchT out).toList = s.toList
    · refine ⟨(out, true), Ev.succ ?_, Ev.succ ?_, by dsimp only; omega⟩
      · simp only [spec_ReadBatch.l0]
        exact Ev.neg (by omega) (Ev.bind b1 (Ev.pos c (Ev.neg hs (Ev.now _))))
      · simp only [impl_ReadBatch.l0]
        exact Ev.neg (by omega) (Ev.bind b2 (Ev.pos c (Ev.now _)))
    · refine ⟨([], false), Ev.succ ?_, Ev.succ ?_, by simp⟩
      · simp only [spec_ReadBatch.l0]
        exact Ev.neg (by omega) (Ev.bind b1 (Ev.neg c (Ev.now _)))
      · simp only [impl_ReadBatch.l0]
        exact Ev.neg (by omega) (Ev.bind b2 (Ev.neg c (Ev.now _)))
  | d + 1, i, out, hi, ho => by
    have w1 : wrap64 ((i : Int) + 1) = (i : Int) + 1 := w64 (by omega) (by omega)
    have w2 : wrap64 ((i : Int) + 2) = (i : Int) + 2 := w64 (by omega) (by omega)
    have w3 : wrap64 ((i : Int) + 3) = ((i + 3 : Nat) : Int) := by rw [w64 (by omega) (by omega)]; omega
    obtain ⟨r, j1, j2, j3⟩ := rb_l0 s hs L hL d (i + 3) (out ++ [(⟨rdOf ByteArray.empty L (i : Int), rdOf ByteArray.empty L ((i : Int) + 1), ((rdOf ByteArray.empty L ((i : Int) + 2)).toList == ([49] : List UInt8))⟩ : S127)]) (by omega) (by simp; omega)
    refine ⟨r, Ev.succ ?_, Ev.succ ?_, j3⟩
    · simp only [spec_ReadBatch.l0, w1, w2, w3]
      exact Ev.pos (by omega) (Ev.pos (by omega) (Ev.pos (by omega) (Ev.pos (by omega) (Ev.pos (by omega) (Ev.pos (by omega) (Ev.pos (by omega) j1))))))
    · simp only [impl_ReadBatch.l0, w1, w2, w3]
      exact Ev.pos (by omega) (Ev.pos (by omega) (Ev.pos (by omega) (Ev.pos (by omega) (Ev.pos (by omega) (Ev.pos (by omega) (Ev.pos (by omega) j2))))))
theorem rb_ev (s : ByteArray) (hl : s.size ≤ 4611686018427387904) : ∃ r : List S127 × Bool, Ev (fun k => spec_ReadBatch.f k s) r ∧ Ev (fun k => impl_ReadBatch.f k s) r ∧ r.1.length ≤ 1000 := by
  obtain ⟨⟨L, b⟩, h1, h2, h3, h4⟩ := rtexts_ev s hl
  dsimp only at h3
  have no1 : ∀ c, c = true → Ev (fun k => spec_ReadBatch.j0 k s L [] c) (([], false) : List S127 × Bool) := fun c hc => Ev.succ (by simp only [spec_ReadBatch.j0]; exact Ev.pos hc (Ev.now _))
  have no2 : ∀ c, c = true → Ev (fun k => impl_ReadBatch.j0 k s L c) (([], false) : List S127 × Bool) := fun c hc => Ev.succ (by simp only [impl_ReadBatch.j0]; exact Ev.pos hc (Ev.now _))
  unfold spec_ReadBatch.f impl_ReadBatch.f
  cases b with
  | false =>
    refine ⟨([], false), Ev.bind h1 ?_, Ev.bind h2 (Ev.neg (by simp) (no2 _ rfl)), by simp⟩
    simp only [Option.bind_some]
    exact Ev.neg (by simp) (no1 _ rfl)
  | true =>
    have hs := h4 rfl
    by_cases c : (L.length : Int) % 3 = 0
    · have e3 : (((L.length : Int) % 3) != 0) = false := by rw [c]; rfl
      obtain ⟨r, j1, j2, j3⟩ := rb_l0 s hs L h3 (L.length / 3) 0 [] (by omega) (by simp; omega)
      by_cases c0 : (L.length : Int) = 0
      · have hL : L = [] := List.length_eq_zero_iff.1 (by omega)
        subst hL
        refine ⟨([], false), Ev.bind h1 ?_, Ev.bind h2 (Ev.pos rfl (Ev.pos rfl (no2 _ rfl))), by simp⟩
        simp only [Option.bind_some]
        refine Ev.pos (by trivial) (Ev.succ ?_)
        simp only [spec_ReadBatch.j0]
        refine Ev.neg (by simp) (Ev.succ ?_)
        obtain ⟨b1, _⟩ := batch_ev ([] : List S127) (by simp)
        simp only [spec_ReadBatch.l0]
        refine Ev.neg (by simp) (Ev.bind b1 (Ev.neg ?_ (Ev.now _)))
        unfold batchT
        rw [if_neg (by simp)]
        exact fun h => hs (by rw [← h]; simp [ByteArray.toList_eq])
      · refine ⟨r, Ev.bind h1 ?_, Ev.bind h2 (Ev.pos rfl (Ev.neg c0 (Ev.succ ?_))), j3⟩
        · simp only [Option.bind_some]
          refine Ev.pos (by trivial) (Ev.succ ?_)
          simp only [spec_ReadBatch.j0, e3]
          exact Ev.neg (by simp) j1
        · simp only [impl_ReadBatch.j0, e3]
          exact Ev.neg (by simp) j2
    · have e3 : (((L.length : Int) % 3) != 0) = true := by rw [bne_iff_ne]; exact c
      have c0 : ¬ (L.length : Int) = 0 := fun h => c (by rw [h]; rfl)
      refine ⟨([], false), Ev.bind h1 ?_, Ev.bind h2 (Ev.pos rfl (Ev.neg c0 (no2 _ e3))), by simp⟩
      simp only [Option.bind_some]
      exact Ev.pos (by trivial) (no1 _ e3)
theorem ct_le : ∀ y : List S127, (ctList ctS127) y ≤ 3 * y.length
  | [] => by simp [ctList]
  | x :: y => by
    have := ct_le y
    simp only [ctList, ctS127, ctOne, List.map_cons, List.sum_cons, List.length_cons] at this ⊢
    omega
theorem FnExactReadBatch : laws_FnExactReadBatch.Pure := by
  intro s hok
  refine Ev.rounds (g := fun k => laws_FnExactReadBatch.f k s) ?_
  unfold laws_FnExactReadBatch.f
  refine Ev.ite (fun _ => Ev.now _) (fun h => ?_)
  obtain ⟨⟨l, b⟩, h1, h2, h3⟩ := rb_ev s (by omega)
  dsimp only at h3
  have hc := ct_le l
  obtain ⟨r, z, q, m, g, _⟩ := laws_markWriteS_ev l 1 (by omega) (by omega) ⟨by omega, fun _ _ => ⟨trivial, trivial, trivial⟩⟩
  have p : ¬ r < 0 := by omega
  have e := laws_eqWriteS_ev l ⟨by omega, fun _ _ => ⟨trivial, trivial, trivial⟩⟩
  exact Ev.bind h1 (Ev.bind h2 (Ev.bind e (Ev.pos rfl (Ev.neg (by simp) (Ev.bind m (Ev.bind g (Ev.neg p (Ev.pos rfl (Ev.bind h2 (Ev.bind e (Ev.pos rfl (Ev.neg (by simp) (Ev.bind g (Ev.neg p (Ev.pos rfl (Ev.now _))))))))))))))))

end Go.Proofs.Ytckgkhlgnblblaa.Pure
