-- Written by a program of this session (wip/tools/pp.py over the kit's print).
import Derived.Test.YtokfpmkhfindmaaDoorPFnProofsx0
import Derived.Test.YtokfpmkhfindmaaDoorPFnProofsx5
import Derived.Test.YtokfpmkhfindmaaDoorPFnProofsx6
namespace Go.Proofs.YtokfpmkhfindmaaDoor.PFnProofs
open Go.RowKit Go.Proofs.YtokfpmkhfindmaaDoorW.PrintWords Go.Proofs.YtokfpmkhfindmaaDoorW.PrintLast Go.Proofs.YtokfpmkhfindmaaDoorW.PrintMore
attribute [local go_sem] max2_int min2_int max_two min_two max_three min_three max_four min_four
attribute [local go_sem high] str_gtr str_leq str_geq
set_option linter.unusedVariables false
set_option linter.unusedSimpArgs false

/-! ### impl_Gathered_1: function 41 -/
def gathP (v4 : Int → Int → Int → Int → Int → Option Bool) (by_ view nm n : Int) (x : S43) : Bool := decide (x.f2 = by_) && (decide (x.f0 = view) && (decide (x.f1 = nm) && (v4 x.f0 x.f1 x.f2 x.f3 n).getD false))
set_option maxHeartbeats 8000000 in
set_option maxRecDepth 100000 in
theorem impl_Gathered_1.calls_c (k : Nat) (x : S43) (by_ view nm n : Int) (gby gp gn : Nat) (w : World) (hT : TabOk w) (h1 : w.cell? ⟨gby, 0, none⟩ = some (.int .i64 by_)) (h2 : w.cell? ⟨gp, 0, none⟩ = some (.int .i64 view)) (h3 : w.cell? ⟨gp, 1, none⟩ = some (.int .i64 nm)) (h4 : w.cell? ⟨gn, 0, none⟩ = some (.int .i64 n)) (hs : (impl_VoteOk.f k x.f0 x.f1 x.f2 x.f3 n).isSome = true) :
  Calls Tryd.prog 41 #[.agg #[.int .i64 x.f0, .int .i64 x.f1, .int .i64 x.f2, .int .i64 x.f3], .pointer (some ⟨gby, 0, none⟩), .pointer (some ⟨gp, 0, none⟩), .pointer (some ⟨gn, 0, none⟩)] w fun e w' => e = .returned (.bool (gathP (impl_VoteOk.f k) by_ view nm n x)) ∧ Below w.heap.size w w' := by
 have eg1 : ∀ args w, (callFunc 25 args).run Tryd.prog w = .ok (.enter 25 args) w := enters_ Tryd.func25 (by kernel_rfl) rfl
 obtain ⟨r, hr⟩ := Option.isSome_iff_exists.1 hs
 have HR := Aside0.mk hr
 have HP : Aside0 (gathP (impl_VoteOk.f k) by_ view nm n x = (decide (x.f2 = by_) && (decide (x.f0 = view) && (decide (x.f1 = nm) && r)))) := ⟨(by unfold gathP; rw [hr]; rfl)⟩
 have HB : Aside0 (Below w.heap.size w (w.alloc (.cells #[.int .i64 x.f0, .int .i64 x.f1, .int .i64 x.f2, .int .i64 x.f3] 43))) := ⟨below_alloc (Below.refl _ _) _⟩
 have HT := Aside0.mk (tab_at hT HB.out)
 have h1 := pw_cell_below HB.out h1
 have h2 := pw_cell_below HB.out h2
 have h3 := pw_cell_below HB.out h3
 have h4 := pw_cell_below HB.out h4
 generalize gathP (impl_VoteOk.f k) by_ view nm n x = R at HP
 clear hr hs hT
 by_cases c1 : x.f2 = by_
 ·have c1b : (x.f2 == by_) = true := by simpa using c1
  by_cases c2 : x.f0 = view
  ·have c2b : (x.f0 == view) = true := by simpa using c2
   by_cases c3 : x.f1 = nm
   ·have c3b : (x.f1 == nm) = true := by simpa using c3
    have HP2 : Aside0 (R = r) := ⟨(by rw [HP.out, decide_eq_true c1, decide_eq_true c2, decide_eq_true c3]; rfl)⟩
    clear c1 c2 c3 HP
    go_enter Tryd.func41, Tryd.ntmps41
    go_wp2_with fail
    refine (impl_VoteOk.calls k x.f0 x.f1 x.f2 x.f3 n r _ HR.out HT.out).mono ?_
    rintro e w' ⟨rfl, hb⟩
    have HB2 := Aside0.mk (below_step HB.out hb)
    clear hb HB
    go_wp2
    go_ret
    exact ⟨(by rw [HP2.out]; first | rfl | (cases r <;> rfl)), HB2.out⟩
   ·have c3b : (x.f1 == nm) = false := by simpa using c3
    have HP2 : Aside0 (R = false) := ⟨(by rw [HP.out, decide_eq_true c1, decide_eq_true c2, decide_eq_false c3]; rfl)⟩
    clear c1 c2 c3 HP
    go_enter Tryd.func41, Tryd.ntmps41
    go_wp2
    go_ret
    exact ⟨(by rw [HP2.out]; rfl), HB.out⟩
  ·have c2b : (x.f0 == view) = false := by simpa using c2
   have HP2 : Aside0 (R = false) := ⟨(by rw [HP.out, decide_eq_true c1, decide_eq_false c2]; rfl)⟩
   clear c1 c2 HP
   go_enter Tryd.func41, Tryd.ntmps41
   go_wp2
   go_ret
   exact ⟨(by rw [HP2.out]; rfl), HB.out⟩
 ·have c1b : (x.f2 == by_) = false := by simpa using c1
  have HP2 : Aside0 (R = false) := ⟨(by rw [HP.out, decide_eq_false c1]; rfl)⟩
  clear c1 HP
  go_enter Tryd.func41, Tryd.ntmps41
  go_wp2
  go_ret
  exact ⟨(by rw [HP2.out]; rfl), HB.out⟩
def impl_Vote.f (k : Nat) (l0 : List S43) (by_ view nm n : Int) : Option Int := if (l0.all fun x => (impl_VoteOk.f k x.f0 x.f1 x.f2 x.f3 n).isSome) = true then some (idxP (gathP (impl_VoteOk.f k) by_ view nm n) l0) else none
theorem impl_Vote.mono : ∀ a0 a1 a2 a3 a4 k, LeO (impl_Vote.f k a0 a1 a2 a3 a4) (impl_Vote.f (k + 1) a0 a1 a2 a3 a4) := by
 intro l0 by_ view nm n k r h
 unfold impl_Vote.f at h ⊢
 by_cases hc : (l0.all fun x => (impl_VoteOk.f k x.f0 x.f1 x.f2 x.f3 n).isSome) = true
 ·rw [if_pos hc] at h
  have hm : ∀ x, x ∈ l0 → impl_VoteOk.f (k + 1) x.f0 x.f1 x.f2 x.f3 n = impl_VoteOk.f k x.f0 x.f1 x.f2 x.f3 n := fun x hx => by
   obtain ⟨b, hb⟩ := Option.isSome_iff_exists.1 (List.all_eq_true.1 hc x hx)
   rw [hb]
   exact impl_VoteOk.mono _ _ _ _ _ _ _ hb
  rw [if_pos (List.all_eq_true.2 (fun x hx => by rw [hm x hx]; exact List.all_eq_true.1 hc x hx)), ← h]
  have : ∀ (l : List S43), (∀ x, x ∈ l → impl_VoteOk.f (k + 1) x.f0 x.f1 x.f2 x.f3 n = impl_VoteOk.f k x.f0 x.f1 x.f2 x.f3 n) → l.findIdx? (gathP (impl_VoteOk.f (k + 1)) by_ view nm n) = l.findIdx? (gathP (impl_VoteOk.f k) by_ view nm n) := by
   intro l
   induction l with
   | nil => intro _; rfl
   | cons x l ih =>
    intro hl
    rw [List.findIdx?_cons, List.findIdx?_cons, ih (fun y hy => hl y (List.mem_cons_of_mem _ hy))]
    have e : gathP (impl_VoteOk.f (k + 1)) by_ view nm n x = gathP (impl_VoteOk.f k) by_ view nm n x := by unfold gathP; rw [hl x (List.mem_cons_self ..)]
    rw [e]
  unfold idxP
  rw [this l0 hm]
 ·rw [if_neg hc] at h
  cases h
theorem impl_Vote.calls (k : Nat) (A0 : Option Addr) (c0 : Nat) (l0 : List S43) (by_ view nm n : Int) (r : Int) (w : World) (hr0 : Kd.C k43 w A0 l0.length l0) (hc0 : l0.length ≤ c0) (h : impl_Vote.f k l0 by_ view nm n = some r) (hT : TabOk w) (gby gp gn : Nat) (h1 : w.cell? ⟨gby, 0, none⟩ = some (.int .i64 by_)) (h2 : w.cell? ⟨gp, 0, none⟩ = some (.int .i64 view)) (h3 : w.cell? ⟨gp, 1, none⟩ = some (.int .i64 nm)) (h4 : w.cell? ⟨gn, 0, none⟩ = some (.int .i64 n)) :
  Calls Tryd.prog 40 #[.slice A0 l0.length c0, .func (.func 41) #[] #[.pointer (some ⟨gby, 0, none⟩), .pointer (some ⟨gp, 0, none⟩), .pointer (some ⟨gn, 0, none⟩)]] w fun e w' => e = .returned (.int .i64 r) ∧ Below w.heap.size w w' := by
 have eg : ∀ args w, (callFunc 41 args).run Tryd.prog w = .ok (.enter 41 args) w := enters_ Tryd.func41 (by kernel_rfl) rfl
 unfold impl_Vote.f at h
 by_cases hc : (l0.all fun x => (impl_VoteOk.f k x.f0 x.f1 x.f2 x.f3 n).isSome) = true
 ·rw [if_pos hc] at h
  obtain rfl := Option.some.inj h
  refine impl_Vote.calls_p A0 c0 l0 41 _ (gathP (impl_VoteOk.f k) by_ view nm n) w hr0 hc0 eg ?_
  rintro W x cs hm hb hK
  obtain rfl := k43_open hK
  exact impl_Gathered_1.calls_c k x by_ view nm n gby gp gn W (tab_at hT hb) (pw_cell_below hb h1) (pw_cell_below hb h2) (pw_cell_below hb h3) (pw_cell_below hb h4) (List.all_eq_true.1 hc x hm)
 ·rw [if_neg hc] at h
  cases h

end Go.Proofs.YtokfpmkhfindmaaDoor.PFnProofs
