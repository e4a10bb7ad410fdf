-- Written by a program of this session (wip/tools/pp.py over the kit's print).
import Derived.Test.YtokfpmkhfindmaaDoorPFnProofsx0
import Derived.Test.YtokfpmkhfindmaaDoorPFnProofsx1
import Derived.Test.YtokfpmkhfindmaaDoorPFnProofsx3
import Derived.Test.YtokfpmkhfindmaaDoorPFnProofsx4
import Derived.Test.YtokfpmkhfindmaaDoorPFnProofsx6
import Derived.Test.YtokfpmkhfindmaaDoorPFnProofsx8
import Derived.Test.YtokfpmkhfindmaaDoorPFnProofsx9
import Derived.Test.YtokfpmkhfindmaaDoorPFnProofsx11
import Derived.Test.YtokfpmkhfindmaaDoorPFnProofsx12
import Derived.Test.YtokfpmkhfindmaaDoorPFnProofsx13
import Derived.Test.YtokfpmkhfindmaaDoorPFnProofsx15
import Derived.Test.YtokfpmkhfindmaaDoorPFnProofsx16
namespace Go.Proofs.YtokfpmkhfindmaaDoor.PFnProofs
open Go.RowKit Go.Proofs.YtokfpmkhfindmaaDoorW.PrintWords Go.Proofs.YtokfpmkhfindmaaDoorW.PrintLast Go.Proofs.YtokfpmkhfindmaaDoorW.PrintMore
attribute [local go_sem] max2_int min2_int max_two min_two max_three min_three max_four min_four
attribute [local go_sem high] str_gtr str_leq str_geq
set_option linter.unusedVariables false
set_option linter.unusedSimpArgs false

attribute [local go_sem high] eqA43
/-! ### laws_FnProofs: function 4 -/
mutual
def laws_FnProofs.j0 : Nat → Int → Bool → Bool → Int → Int → List Int → List Int → Option (Bool)
 | 0, _, _, _, _, _, _, _ => none
 | k + 1, x4, x6, x107, x469000, x469001, x469002, x469003 => if x107 = true then (none) else (if x6 = true then (laws_FnProofs.l0 k x4 (([] : List (S43))) 0 x469000 x469001 x469002 x469003) else ((laws_likeProof.f k x469000 x469001 x469002 x469003 0 0 ([] : List Int) ([] : List Int)).bind fun t513 => (some t513)))
def laws_FnProofs.l0 : Nat → Int → List (S43) → Int → Int → Int → List Int → List Int → Option (Bool)
 | 0, _, _, _, _, _, _, _ => none
 | k + 1, x4, x17, x18, x469000, x469001, x469002, x469003 => (spec_Quorum.f x4).bind fun t517 => (if x18 < (wrap64 (t517 - 1)) then (if 0 ≤ x18 then (if x18 < (x469002.length : Int) then ((spec_Voted.f k (rd x469002 x18) x469000 x469001).bind fun bt519 => (if x17.length < 4398046511104 then (laws_FnProofs.l0 k x4 (x17 ++ [(⟨bt519.1, bt519.2.1, bt519.2.2.1, bt519.2.2.2⟩ : S43)]) (wrap64 (x18 + 1)) x469000 x469001 x469002 x469003) else (none))) else (none)) else (none)) else (if x17.length + x17.length < 4398046511104 then ((impl_Gathered.f k (x17 ++ x17) x4).bind fun bt529 => ((impl_ProofOk.f k x469000 x469001 x469002 x469003 x4).bind fun t539 => (if t539 = true then ((spec_Quorum.f x4).bind fun t540 => (if (x469002.length : Int) ≥ t540 then (some (!bt529.2.2.2.2)) else (none))) else (none)))) else (none)))
end
def laws_FnProofs.f (k : Nat) (l0 : List Int) : Option (Bool) := (laws_big.f l0).bind fun t454 => (if t454 = true then (some true) else ((spec_DrawGathered.f k l0).bind fun bt455 => ((impl_Gathered.f k bt455.1 bt455.2).bind fun bt459 => ((spec_DrawProofOk.f k l0).bind fun bt469 => ((spec_DrawVoteOk.f k l0).bind fun bt479 => ((spec_DrawVoted.f k l0).bind fun bt485 => ((impl_Voted.f k bt485.1 bt485.2.1 bt485.2.2).bind fun bt488 => ((spec_Gathered.f k bt455.1 bt455.2).bind fun bt493 => (if (bt459.2.2.2.2 != bt493.2.2.2.2) = true then (none) else ((laws_likeProof.f k bt459.1 bt459.2.1 bt459.2.2.1 bt459.2.2.2.1 bt493.1 bt493.2.1 bt493.2.2.1 bt493.2.2.2.1).bind fun t503 => (if t503 = true then ((impl_ProofOk.f k bt469.1 bt469.2.1 bt469.2.2.1 bt469.2.2.2.1 bt469.2.2.2.2).bind fun t504 => ((spec_ProofOk.f k bt469.1 bt469.2.1 bt469.2.2.1 bt469.2.2.2.1 bt469.2.2.2.2).bind fun t505 => (if (t504 != t505) = true then (none) else ((impl_VoteOk.f k bt479.1 bt479.2.1 bt479.2.2.1 bt479.2.2.2.1 bt479.2.2.2.2).bind fun t506 => ((spec_VoteOk.f k bt479.1 bt479.2.1 bt479.2.2.1 bt479.2.2.2.1 bt479.2.2.2.2).bind fun t507 => (if (t506 != t507) = true then (none) else ((spec_Voted.f k bt485.1 bt485.2.1 bt485.2.2).bind fun bt508 => (if (!(bt488.1 == bt508.1) || (!(bt488.2.1 == bt508.2.1) || (!(bt488.2.2.1 == bt508.2.2.1) || (!(bt488.2.2.2 == bt508.2.2.2))))) = true then (none) else (if bt488.1 > 0 then (if bt488.2.2.1 < 4 then ((impl_VoteOk.f k bt488.1 bt488.2.1 bt488.2.2.1 bt488.2.2.2 4).bind fun t512 => (laws_FnProofs.j0 k bt455.2 bt459.2.2.2.2 (!t512) bt459.1 bt459.2.1 bt459.2.2.1 bt459.2.2.2.1)) else (laws_FnProofs.j0 k bt455.2 bt459.2.2.2.2 false bt459.1 bt459.2.1 bt459.2.2.1 bt459.2.2.2.1)) else (laws_FnProofs.j0 k bt455.2 bt459.2.2.2.2 false bt459.1 bt459.2.1 bt459.2.2.1 bt459.2.2.2.1)))))))))) else (none))))))))))))
theorem laws_FnProofs.mono_l : ∀ k, (∀ y0 y1 y2 y3 y4 y5 y6, LeO (laws_FnProofs.j0 k y0 y1 y2 y3 y4 y5 y6) (laws_FnProofs.j0 (k + 1) y0 y1 y2 y3 y4 y5 y6)) ∧ (∀ y0 y1 y2 y3 y4 y5 y6, LeO (laws_FnProofs.l0 k y0 y1 y2 y3 y4 y5 y6) (laws_FnProofs.l0 (k + 1) y0 y1 y2 y3 y4 y5 y6))
 | 0 => ⟨fun _ _ _ _ _ _ _ r h => by simp [laws_FnProofs.j0] at h, fun _ _ _ _ _ _ _ r h => by simp [laws_FnProofs.l0] at h⟩
 | k + 1 => by
  obtain ⟨ih0, ih1⟩ := laws_FnProofs.mono_l k
  refine ⟨?_, ?_⟩
  ·intro y0 y1 y2 y3 y4 y5 y6
   unfold laws_FnProofs.j0
   repeat' first
   | (with_reducible exact ih0 _ _ _ _ _ _ _)
   | (with_reducible exact ih1 _ _ _ _ _ _ _)
   | (with_reducible exact impl_Gathered.mono _ _ _)
   | (with_reducible exact impl_ProofOk.mono _ _ _ _ _ _)
   | (with_reducible exact impl_VoteOk.mono _ _ _ _ _ _)
   | (with_reducible exact impl_Voted.mono _ _ _ _)
   | (with_reducible exact laws_likeProof.mono _ _ _ _ _ _ _ _ _)
   | (with_reducible exact spec_DrawGathered.mono _ _)
   | (with_reducible exact spec_DrawProofOk.mono _ _)
   | (with_reducible exact spec_DrawVoteOk.mono _ _)
   | (with_reducible exact spec_DrawVoted.mono _ _)
   | (with_reducible exact spec_Gathered.mono _ _ _)
   | (with_reducible exact spec_ProofOk.mono _ _ _ _ _ _)
   | (with_reducible exact spec_VoteOk.mono _ _ _ _ _ _)
   | (with_reducible exact spec_Voted.mono _ _ _ _)
   | (with_reducible exact LeO.refl _)
   | (with_reducible exact LeO.none _)
   | (with_reducible refine LeO.ite ?_ ?_)
   | (with_reducible refine LeO.bind ?_ (fun _ => ?_))
   | exact ih0 _ _ _ _ _ _ _
   | exact ih1 _ _ _ _ _ _ _
   | exact impl_Gathered.mono _ _ _
   | exact impl_ProofOk.mono _ _ _ _ _ _
   | exact impl_VoteOk.mono _ _ _ _ _ _
   | exact impl_Voted.mono _ _ _ _
   | exact laws_likeProof.mono _ _ _ _ _ _ _ _ _
   | exact spec_DrawGathered.mono _ _
   | exact spec_DrawProofOk.mono _ _
   | exact spec_DrawVoteOk.mono _ _
   | exact spec_DrawVoted.mono _ _
   | exact spec_Gathered.mono _ _ _
   | exact spec_ProofOk.mono _ _ _ _ _ _
   | exact spec_VoteOk.mono _ _ _ _ _ _
   | exact spec_Voted.mono _ _ _ _
   | exact LeO.none _
   | refine LeO.ite ?_ ?_
   | refine LeO.bind ?_ (fun _ => ?_)
  ·intro y0 y1 y2 y3 y4 y5 y6
   unfold laws_FnProofs.l0
   repeat' first
   | (with_reducible exact ih0 _ _ _ _ _ _ _)
   | (with_reducible exact ih1 _ _ _ _ _ _ _)
   | (with_reducible exact impl_Gathered.mono _ _ _)
   | (with_reducible exact impl_ProofOk.mono _ _ _ _ _ _)
   | (with_reducible exact impl_VoteOk.mono _ _ _ _ _ _)
   | (with_reducible exact impl_Voted.mono _ _ _ _)
   | (with_reducible exact laws_likeProof.mono _ _ _ _ _ _ _ _ _)
   | (with_reducible exact spec_DrawGathered.mono _ _)
   | (with_reducible exact spec_DrawProofOk.mono _ _)
   | (with_reducible exact spec_DrawVoteOk.mono _ _)
   | (with_reducible exact spec_DrawVoted.mono _ _)
   | (with_reducible exact spec_Gathered.mono _ _ _)
   | (with_reducible exact spec_ProofOk.mono _ _ _ _ _ _)
   | (with_reducible exact spec_VoteOk.mono _ _ _ _ _ _)
   | (with_reducible exact spec_Voted.mono _ _ _ _)
   | (with_reducible exact LeO.refl _)
   | (with_reducible exact LeO.none _)
   | (with_reducible refine LeO.ite ?_ ?_)
   | (with_reducible refine LeO.bind ?_ (fun _ => ?_))
   | exact ih0 _ _ _ _ _ _ _
   | exact ih1 _ _ _ _ _ _ _
   | exact impl_Gathered.mono _ _ _
   | exact impl_ProofOk.mono _ _ _ _ _ _
   | exact impl_VoteOk.mono _ _ _ _ _ _
   | exact impl_Voted.mono _ _ _ _
   | exact laws_likeProof.mono _ _ _ _ _ _ _ _ _
   | exact spec_DrawGathered.mono _ _
   | exact spec_DrawProofOk.mono _ _
   | exact spec_DrawVoteOk.mono _ _
   | exact spec_DrawVoted.mono _ _
   | exact spec_Gathered.mono _ _ _
   | exact spec_ProofOk.mono _ _ _ _ _ _
   | exact spec_VoteOk.mono _ _ _ _ _ _
   | exact spec_Voted.mono _ _ _ _
   | exact LeO.none _
   | refine LeO.ite ?_ ?_
   | refine LeO.bind ?_ (fun _ => ?_)
theorem laws_FnProofs.mono : ∀ a0 k, LeO (laws_FnProofs.f k a0) (laws_FnProofs.f (k + 1) a0) := by
 intro a0 k
 obtain ⟨ih0, ih1⟩ := laws_FnProofs.mono_l k
 unfold laws_FnProofs.f
 repeat' first
   | (with_reducible exact ih0 _ _ _ _ _ _ _)
   | (with_reducible exact ih1 _ _ _ _ _ _ _)
   | (with_reducible exact impl_Gathered.mono _ _ _)
   | (with_reducible exact impl_ProofOk.mono _ _ _ _ _ _)
   | (with_reducible exact impl_VoteOk.mono _ _ _ _ _ _)
   | (with_reducible exact impl_Voted.mono _ _ _ _)
   | (with_reducible exact laws_likeProof.mono _ _ _ _ _ _ _ _ _)
   | (with_reducible exact spec_DrawGathered.mono _ _)
   | (with_reducible exact spec_DrawProofOk.mono _ _)
   | (with_reducible exact spec_DrawVoteOk.mono _ _)
   | (with_reducible exact spec_DrawVoted.mono _ _)
   | (with_reducible exact spec_Gathered.mono _ _ _)
   | (with_reducible exact spec_ProofOk.mono _ _ _ _ _ _)
   | (with_reducible exact spec_VoteOk.mono _ _ _ _ _ _)
   | (with_reducible exact spec_Voted.mono _ _ _ _)
   | (with_reducible exact LeO.refl _)
   | (with_reducible exact LeO.none _)
   | (with_reducible refine LeO.ite ?_ ?_)
   | (with_reducible refine LeO.bind ?_ (fun _ => ?_))
   | exact ih0 _ _ _ _ _ _ _
   | exact ih1 _ _ _ _ _ _ _
   | exact impl_Gathered.mono _ _ _
   | exact impl_ProofOk.mono _ _ _ _ _ _
   | exact impl_VoteOk.mono _ _ _ _ _ _
   | exact impl_Voted.mono _ _ _ _
   | exact laws_likeProof.mono _ _ _ _ _ _ _ _ _
   | exact spec_DrawGathered.mono _ _
   | exact spec_DrawProofOk.mono _ _
   | exact spec_DrawVoteOk.mono _ _
   | exact spec_DrawVoted.mono _ _
   | exact spec_Gathered.mono _ _ _
   | exact spec_ProofOk.mono _ _ _ _ _ _
   | exact spec_VoteOk.mono _ _ _ _ _ _
   | exact spec_Voted.mono _ _ _ _
   | exact LeO.none _
   | refine LeO.ite ?_ ?_
   | refine LeO.bind ?_ (fun _ => ?_)
def laws_FnProofs.T10 : Bool × List (List Nat × List Nat) := (true, [([], []), ([], []), ([0, 1], [0, 1]), ([2], [2]), ([3], [3]), ([3], [3]), ([4, 5, 3, 3], [3, 4, 5]), ([6, 3], [3, 6]), ([3, 7], [3, 7]), ([8, 6], [8]), ([9], [9]), ([9], [9]), ([10, 11, 9, 9], [9, 10, 11]), ([9], [9]), ([9], [9]), ([13, 14, 12, 9], [9, 13, 14]), ([12, 15, 9], [9, 12, 15]), ([9, 16], [9, 16]), ([17, 15], [17]), ([18], [18]), ([18], [18]), ([19, 20, 18, 18], [18, 19, 20]), ([18], [18]), ([18], [18]), ([22, 23, 21, 18], [18, 22, 23]), ([21, 24, 18], [18, 21, 24]), ([18, 25], [18, 25]), ([26, 24], [26]), ([27], [27]), ([27], [27]), ([27], [27]), ([27], [27]), ([29, 30, 31, 27, 27], [27, 29, 30, 31]), ([28, 32, 27], [27, 28, 32]), ([27, 33], [27, 33])])
def laws_FnProofs.B10 : List Nat := [0, 0, 3, 7, 15, 15, 63, 127, 255, 511, 1023, 1023, 4095, 1023, 1023, 32767, 65535, 131071, 262143, 524287, 524287, 2097151, 524287, 524287, 16777215, 33554431, 67108863, 134217727, 268435455, 268435455, 268435455, 268435455, 4026531839, 8589934591, 17179869183]
theorem laws_FnProofs.tab10 : rtab .any (opsOf Tryd.f4 10) = laws_FnProofs.T10 := by kernel_rfl
theorem laws_FnProofs.bits10 : waitsOk laws_FnProofs.T10.2 laws_FnProofs.B10 = true := by kernel_rfl
def laws_FnProofs.T20 : Bool × List (List Nat × List Nat) := (true, [([], []), ([], []), ([1], [1]), ([], []), ([2, 3], [2, 3]), ([4], [4]), ([], []), ([6], [6]), ([], []), ([8], [8]), ([5, 7, 9], [5, 7, 9]), ([10], [10]), ([0, 11, 10], [0, 11]), ([12, 12, 0, 1, 2, 3, 4, 5, 6, 7, 8, 9, 10, 11, 12], [0, 12])])
def laws_FnProofs.B20 : List Nat := [0, 0, 2, 0, 14, 30, 0, 64, 0, 256, 1022, 2046, 4095, 8191]
theorem laws_FnProofs.tab20 : rtab .any (opsOf Tryd.f4 20) = laws_FnProofs.T20 := by kernel_rfl
theorem laws_FnProofs.bits20 : waitsOk laws_FnProofs.T20.2 laws_FnProofs.B20 = true := by kernel_rfl
def laws_FnProofs.T22 : Bool × List (List Nat × List Nat) := (true, [([], []), ([], []), ([0, 1], [0, 1]), ([2, 2], [2]), ([3], [3]), ([4, 3], [3, 4]), ([5, 3], [3, 5]), ([3], [3]), ([7, 3, 3], [3, 7]), ([6, 8, 3], [3, 6, 8]), ([3, 9], [3, 9]), ([10, 8], [10]), ([11], [11]), ([12, 11], [11, 12]), ([11, 13], [11, 13]), ([14, 11, 0, 1, 2, 3, 4, 5, 6, 7, 8, 9, 10, 11, 12, 13, 14], [14])])
def laws_FnProofs.B22 : List Nat := [0, 0, 3, 7, 15, 31, 63, 15, 143, 511, 1023, 2047, 4095, 8191, 16383, 32767]
theorem laws_FnProofs.tab22 : rtab .any (opsOf Tryd.f4 22) = laws_FnProofs.T22 := by kernel_rfl
theorem laws_FnProofs.bits22 : waitsOk laws_FnProofs.T22.2 laws_FnProofs.B22 = true := by kernel_rfl
set_option maxHeartbeats 8000000 in
set_option maxRecDepth 100000 in
theorem laws_FnProofs.calls (k : Nat) (A0 : Option Addr) (c0 : Nat) (l0 : List Int) (r : Bool) (w : World) (hr0 : Kd.C (Kd.int .u8) w A0 l0.length l0) (hc0 : l0.length ≤ c0) (h : laws_FnProofs.f k l0 = some r) (hT : TabOk w) :
  Calls Tryd.prog 4 #[.slice A0 l0.length c0] w fun e w' => e = .returned (.bool r) ∧ Below w.heap.size w w' := by
 have HT := Aside0.mk hT
 clear hT
 have hu26 := Tryd.underlying26
 have hu43 := Tryd.underlying43
 have HR0 := Aside0.mk hr0
 have HC0 := Aside0.mk hc0
 clear hr0 hc0
 have HB := Aside0.mk (Below.refl w.heap.size w)
 have H : ((laws_big.f l0).bind fun t454 => (if t454 = true then (some true) else ((spec_DrawGathered.f k l0).bind fun bt455 => ((impl_Gathered.f k bt455.1 bt455.2).bind fun bt459 => ((spec_DrawProofOk.f k l0).bind fun bt469 => ((spec_DrawVoteOk.f k l0).bind fun bt479 => ((spec_DrawVoted.f k l0).bind fun bt485 => ((impl_Voted.f k bt485.1 bt485.2.1 bt485.2.2).bind fun bt488 => ((spec_Gathered.f k bt455.1 bt455.2).bind fun bt493 => (if (bt459.2.2.2.2 != bt493.2.2.2.2) = true then (none) else ((laws_likeProof.f k bt459.1 bt459.2.1 bt459.2.2.1 bt459.2.2.2.1 bt493.1 bt493.2.1 bt493.2.2.1 bt493.2.2.2.1).bind fun t503 => (if t503 = true then ((impl_ProofOk.f k bt469.1 bt469.2.1 bt469.2.2.1 bt469.2.2.2.1 bt469.2.2.2.2).bind fun t504 => ((spec_ProofOk.f k bt469.1 bt469.2.1 bt469.2.2.1 bt469.2.2.2.1 bt469.2.2.2.2).bind fun t505 => (if (t504 != t505) = true then (none) else ((impl_VoteOk.f k bt479.1 bt479.2.1 bt479.2.2.1 bt479.2.2.2.1 bt479.2.2.2.2).bind fun t506 => ((spec_VoteOk.f k bt479.1 bt479.2.1 bt479.2.2.1 bt479.2.2.2.1 bt479.2.2.2.2).bind fun t507 => (if (t506 != t507) = true then (none) else ((spec_Voted.f k bt485.1 bt485.2.1 bt485.2.2).bind fun bt508 => (if (!(bt488.1 == bt508.1) || (!(bt488.2.1 == bt508.2.1) || (!(bt488.2.2.1 == bt508.2.2.1) || (!(bt488.2.2.2 == bt508.2.2.2))))) = true then (none) else (if bt488.1 > 0 then (if bt488.2.2.1 < 4 then ((impl_VoteOk.f k bt488.1 bt488.2.1 bt488.2.2.1 bt488.2.2.2 4).bind fun t512 => (laws_FnProofs.j0 k bt455.2 bt459.2.2.2.2 (!t512) bt459.1 bt459.2.1 bt459.2.2.1 bt459.2.2.2.1)) else (laws_FnProofs.j0 k bt455.2 bt459.2.2.2.2 false bt459.1 bt459.2.1 bt459.2.2.1 bt459.2.2.2.1)) else (laws_FnProofs.j0 k bt455.2 bt459.2.2.2.2 false bt459.1 bt459.2.1 bt459.2.2.1 bt459.2.2.2.1)))))))))) else (none))))))))))))) = some r := h
 clear h
 replace H := Option.bind_eq_some_iff.mp H
 obtain ⟨t454, A20, H⟩ := H
 replace H : (if t454 = true then (some true) else ((spec_DrawGathered.f k l0).bind fun bt455 => ((impl_Gathered.f k bt455.1 bt455.2).bind fun bt459 => ((spec_DrawProofOk.f k l0).bind fun bt469 => ((spec_DrawVoteOk.f k l0).bind fun bt479 => ((spec_DrawVoted.f k l0).bind fun bt485 => ((impl_Voted.f k bt485.1 bt485.2.1 bt485.2.2).bind fun bt488 => ((spec_Gathered.f k bt455.1 bt455.2).bind fun bt493 => (if (bt459.2.2.2.2 != bt493.2.2.2.2) = true then (none) else ((laws_likeProof.f k bt459.1 bt459.2.1 bt459.2.2.1 bt459.2.2.2.1 bt493.1 bt493.2.1 bt493.2.2.1 bt493.2.2.2.1).bind fun t503 => (if t503 = true then ((impl_ProofOk.f k bt469.1 bt469.2.1 bt469.2.2.1 bt469.2.2.2.1 bt469.2.2.2.2).bind fun t504 => ((spec_ProofOk.f k bt469.1 bt469.2.1 bt469.2.2.1 bt469.2.2.2.1 bt469.2.2.2.2).bind fun t505 => (if (t504 != t505) = true then (none) else ((impl_VoteOk.f k bt479.1 bt479.2.1 bt479.2.2.1 bt479.2.2.2.1 bt479.2.2.2.2).bind fun t506 => ((spec_VoteOk.f k bt479.1 bt479.2.1 bt479.2.2.1 bt479.2.2.2.1 bt479.2.2.2.2).bind fun t507 => (if (t506 != t507) = true then (none) else ((spec_Voted.f k bt485.1 bt485.2.1 bt485.2.2).bind fun bt508 => (if (!(bt488.1 == bt508.1) || (!(bt488.2.1 == bt508.2.1) || (!(bt488.2.2.1 == bt508.2.2.1) || (!(bt488.2.2.2 == bt508.2.2.2))))) = true then (none) else (if bt488.1 > 0 then (if bt488.2.2.1 < 4 then ((impl_VoteOk.f k bt488.1 bt488.2.1 bt488.2.2.1 bt488.2.2.2 4).bind fun t512 => (laws_FnProofs.j0 k bt455.2 bt459.2.2.2.2 (!t512) bt459.1 bt459.2.1 bt459.2.2.1 bt459.2.2.2.1)) else (laws_FnProofs.j0 k bt455.2 bt459.2.2.2.2 false bt459.1 bt459.2.1 bt459.2.2.1 bt459.2.2.2.1)) else (laws_FnProofs.j0 k bt455.2 bt459.2.2.2.2 false bt459.1 bt459.2.1 bt459.2.2.1 bt459.2.2.2.1)))))))))) else (none)))))))))))) = some r := H
 have A2 := Aside0.mk A20
 clear A20
 have HC3 := Aside0.mk H
 clear H
 go_enter Tryd.func4, Tryd.ntmps4
 go_upto_if 22 with (first | ((with_reducible refine gate_callee (f := 16) rfl ?_); refine goesL_ (some 22) rfl rfl Tryd.func16 (by kernel_rfl) rfl #[.slice A0 l0.length c0] rfl d0 ?_; (with_reducible refine (laws_big.calls _ _ l0 t454 _ ?side1 ?side2 A2.out).mono ?_); (case side1 => exact (by repeat (first | exact HR0.out | (with_reducible refine Kd.C_alloc ?_ _) | (with_reducible refine Kd.C_drewN ?_ _) | (with_reducible refine Kd.C_drew ?_)))); (case side2 => exact HC0.out); rintro e w' ⟨rfl, ⟨nd, rfl⟩⟩; refine ⟨_, rfl, ?_⟩))
 (try simp only [Act.put, List.setIfInBounds_toArray, List.set_cons_zero, List.set_cons_succ])
 have H := HC3.out
 clear HC3
 by_cases c4 : t454 = true
 ·subst c4
  have H1 : (some true) = some r := by rw [if_pos rfl] at H; exact H
  clear H
  have H := H1
  clear H1
  obtain rfl := Option.some.inj H
  go_wp2
  go_ret
  exact ⟨o2, o7⟩
 ·replace c4 := Bool.eq_false_iff.mpr c4
  subst c4
  have H1 : ((spec_DrawGathered.f k l0).bind fun bt455 => ((impl_Gathered.f k bt455.1 bt455.2).bind fun bt459 => ((spec_DrawProofOk.f k l0).bind fun bt469 => ((spec_DrawVoteOk.f k l0).bind fun bt479 => ((spec_DrawVoted.f k l0).bind fun bt485 => ((impl_Voted.f k bt485.1 bt485.2.1 bt485.2.2).bind fun bt488 => ((spec_Gathered.f k bt455.1 bt455.2).bind fun bt493 => (if (bt459.2.2.2.2 != bt493.2.2.2.2) = true then (none) else ((laws_likeProof.f k bt459.1 bt459.2.1 bt459.2.2.1 bt459.2.2.2.1 bt493.1 bt493.2.1 bt493.2.2.1 bt493.2.2.2.1).bind fun t503 => (if t503 = true then ((impl_ProofOk.f k bt469.1 bt469.2.1 bt469.2.2.1 bt469.2.2.2.1 bt469.2.2.2.2).bind fun t504 => ((spec_ProofOk.f k bt469.1 bt469.2.1 bt469.2.2.1 bt469.2.2.2.1 bt469.2.2.2.2).bind fun t505 => (if (t504 != t505) = true then (none) else ((impl_VoteOk.f k bt479.1 bt479.2.1 bt479.2.2.1 bt479.2.2.2.1 bt479.2.2.2.2).bind fun t506 => ((spec_VoteOk.f k bt479.1 bt479.2.1 bt479.2.2.1 bt479.2.2.2.1 bt479.2.2.2.2).bind fun t507 => (if (t506 != t507) = true then (none) else ((spec_Voted.f k bt485.1 bt485.2.1 bt485.2.2).bind fun bt508 => (if (!(bt488.1 == bt508.1) || (!(bt488.2.1 == bt508.2.1) || (!(bt488.2.2.1 == bt508.2.2.1) || (!(bt488.2.2.2 == bt508.2.2.2))))) = true then (none) else (if bt488.1 > 0 then (if bt488.2.2.1 < 4 then ((impl_VoteOk.f k bt488.1 bt488.2.1 bt488.2.2.1 bt488.2.2.2 4).bind fun t512 => (laws_FnProofs.j0 k bt455.2 bt459.2.2.2.2 (!t512) bt459.1 bt459.2.1 bt459.2.2.1 bt459.2.2.2.1)) else (laws_FnProofs.j0 k bt455.2 bt459.2.2.2.2 false bt459.1 bt459.2.1 bt459.2.2.1 bt459.2.2.2.1)) else (laws_FnProofs.j0 k bt455.2 bt459.2.2.2.2 false bt459.1 bt459.2.1 bt459.2.2.1 bt459.2.2.2.1)))))))))) else (none))))))))))) = some r := by rw [if_neg (show ¬ (false = true) by decide)] at H; exact H
  clear H
  have H := H1
  clear H1
  replace H := Option.bind_eq_some_iff.mp H
  obtain ⟨⟨t455, t456⟩, A50, H⟩ := H
  replace H : ((impl_Gathered.f k t455 t456).bind fun bt459 => ((spec_DrawProofOk.f k l0).bind fun bt469 => ((spec_DrawVoteOk.f k l0).bind fun bt479 => ((spec_DrawVoted.f k l0).bind fun bt485 => ((impl_Voted.f k bt485.1 bt485.2.1 bt485.2.2).bind fun bt488 => ((spec_Gathered.f k t455 t456).bind fun bt493 => (if (bt459.2.2.2.2 != bt493.2.2.2.2) = true then (none) else ((laws_likeProof.f k bt459.1 bt459.2.1 bt459.2.2.1 bt459.2.2.2.1 bt493.1 bt493.2.1 bt493.2.2.1 bt493.2.2.2.1).bind fun t503 => (if t503 = true then ((impl_ProofOk.f k bt469.1 bt469.2.1 bt469.2.2.1 bt469.2.2.2.1 bt469.2.2.2.2).bind fun t504 => ((spec_ProofOk.f k bt469.1 bt469.2.1 bt469.2.2.1 bt469.2.2.2.1 bt469.2.2.2.2).bind fun t505 => (if (t504 != t505) = true then (none) else ((impl_VoteOk.f k bt479.1 bt479.2.1 bt479.2.2.1 bt479.2.2.2.1 bt479.2.2.2.2).bind fun t506 => ((spec_VoteOk.f k bt479.1 bt479.2.1 bt479.2.2.1 bt479.2.2.2.1 bt479.2.2.2.2).bind fun t507 => (if (t506 != t507) = true then (none) else ((spec_Voted.f k bt485.1 bt485.2.1 bt485.2.2).bind fun bt508 => (if (!(bt488.1 == bt508.1) || (!(bt488.2.1 == bt508.2.1) || (!(bt488.2.2.1 == bt508.2.2.1) || (!(bt488.2.2.2 == bt508.2.2.2))))) = true then (none) else (if bt488.1 > 0 then (if bt488.2.2.1 < 4 then ((impl_VoteOk.f k bt488.1 bt488.2.1 bt488.2.2.1 bt488.2.2.2 4).bind fun t512 => (laws_FnProofs.j0 k t456 bt459.2.2.2.2 (!t512) bt459.1 bt459.2.1 bt459.2.2.1 bt459.2.2.2.1)) else (laws_FnProofs.j0 k t456 bt459.2.2.2.2 false bt459.1 bt459.2.1 bt459.2.2.1 bt459.2.2.2.1)) else (laws_FnProofs.j0 k t456 bt459.2.2.2.2 false bt459.1 bt459.2.1 bt459.2.2.1 bt459.2.2.2.1)))))))))) else (none)))))))))) = some r := H
  have A5 := Aside0.mk A50
  clear A50
  replace H := Option.bind_eq_some_iff.mp H
  obtain ⟨⟨t459, t460, t461, t464, t467⟩, A60, H⟩ := H
  replace H : ((spec_DrawProofOk.f k l0).bind fun bt469 => ((spec_DrawVoteOk.f k l0).bind fun bt479 => ((spec_DrawVoted.f k l0).bind fun bt485 => ((impl_Voted.f k bt485.1 bt485.2.1 bt485.2.2).bind fun bt488 => ((spec_Gathered.f k t455 t456).bind fun bt493 => (if (t467 != bt493.2.2.2.2) = true then (none) else ((laws_likeProof.f k t459 t460 t461 t464 bt493.1 bt493.2.1 bt493.2.2.1 bt493.2.2.2.1).bind fun t503 => (if t503 = true then ((impl_ProofOk.f k bt469.1 bt469.2.1 bt469.2.2.1 bt469.2.2.2.1 bt469.2.2.2.2).bind fun t504 => ((spec_ProofOk.f k bt469.1 bt469.2.1 bt469.2.2.1 bt469.2.2.2.1 bt469.2.2.2.2).bind fun t505 => (if (t504 != t505) = true then (none) else ((impl_VoteOk.f k bt479.1 bt479.2.1 bt479.2.2.1 bt479.2.2.2.1 bt479.2.2.2.2).bind fun t506 => ((spec_VoteOk.f k bt479.1 bt479.2.1 bt479.2.2.1 bt479.2.2.2.1 bt479.2.2.2.2).bind fun t507 => (if (t506 != t507) = true then (none) else ((spec_Voted.f k bt485.1 bt485.2.1 bt485.2.2).bind fun bt508 => (if (!(bt488.1 == bt508.1) || (!(bt488.2.1 == bt508.2.1) || (!(bt488.2.2.1 == bt508.2.2.1) || (!(bt488.2.2.2 == bt508.2.2.2))))) = true then (none) else (if bt488.1 > 0 then (if bt488.2.2.1 < 4 then ((impl_VoteOk.f k bt488.1 bt488.2.1 bt488.2.2.1 bt488.2.2.2 4).bind fun t512 => (laws_FnProofs.j0 k t456 t467 (!t512) t459 t460 t461 t464)) else (laws_FnProofs.j0 k t456 t467 false t459 t460 t461 t464)) else (laws_FnProofs.j0 k t456 t467 false t459 t460 t461 t464)))))))))) else (none))))))))) = some r := H
  have A6 := Aside0.mk A60
  clear A60
  replace H := Option.bind_eq_some_iff.mp H
  obtain ⟨⟨t469, t470, t471, t474, t477⟩, A70, H⟩ := H
  replace H : ((spec_DrawVoteOk.f k l0).bind fun bt479 => ((spec_DrawVoted.f k l0).bind fun bt485 => ((impl_Voted.f k bt485.1 bt485.2.1 bt485.2.2).bind fun bt488 => ((spec_Gathered.f k t455 t456).bind fun bt493 => (if (t467 != bt493.2.2.2.2) = true then (none) else ((laws_likeProof.f k t459 t460 t461 t464 bt493.1 bt493.2.1 bt493.2.2.1 bt493.2.2.2.1).bind fun t503 => (if t503 = true then ((impl_ProofOk.f k t469 t470 t471 t474 t477).bind fun t504 => ((spec_ProofOk.f k t469 t470 t471 t474 t477).bind fun t505 => (if (t504 != t505) = true then (none) else ((impl_VoteOk.f k bt479.1 bt479.2.1 bt479.2.2.1 bt479.2.2.2.1 bt479.2.2.2.2).bind fun t506 => ((spec_VoteOk.f k bt479.1 bt479.2.1 bt479.2.2.1 bt479.2.2.2.1 bt479.2.2.2.2).bind fun t507 => (if (t506 != t507) = true then (none) else ((spec_Voted.f k bt485.1 bt485.2.1 bt485.2.2).bind fun bt508 => (if (!(bt488.1 == bt508.1) || (!(bt488.2.1 == bt508.2.1) || (!(bt488.2.2.1 == bt508.2.2.1) || (!(bt488.2.2.2 == bt508.2.2.2))))) = true then (none) else (if bt488.1 > 0 then (if bt488.2.2.1 < 4 then ((impl_VoteOk.f k bt488.1 bt488.2.1 bt488.2.2.1 bt488.2.2.2 4).bind fun t512 => (laws_FnProofs.j0 k t456 t467 (!t512) t459 t460 t461 t464)) else (laws_FnProofs.j0 k t456 t467 false t459 t460 t461 t464)) else (laws_FnProofs.j0 k t456 t467 false t459 t460 t461 t464)))))))))) else (none)))))))) = some r := H
  have A7 := Aside0.mk A70
  clear A70
  replace H := Option.bind_eq_some_iff.mp H
  obtain ⟨⟨t479, t480, t481, t482, t483⟩, A80, H⟩ := H
  replace H : ((spec_DrawVoted.f k l0).bind fun bt485 => ((impl_Voted.f k bt485.1 bt485.2.1 bt485.2.2).bind fun bt488 => ((spec_Gathered.f k t455 t456).bind fun bt493 => (if (t467 != bt493.2.2.2.2) = true then (none) else ((laws_likeProof.f k t459 t460 t461 t464 bt493.1 bt493.2.1 bt493.2.2.1 bt493.2.2.2.1).bind fun t503 => (if t503 = true then ((impl_ProofOk.f k t469 t470 t471 t474 t477).bind fun t504 => ((spec_ProofOk.f k t469 t470 t471 t474 t477).bind fun t505 => (if (t504 != t505) = true then (none) else ((impl_VoteOk.f k t479 t480 t481 t482 t483).bind fun t506 => ((spec_VoteOk.f k t479 t480 t481 t482 t483).bind fun t507 => (if (t506 != t507) = true then (none) else ((spec_Voted.f k bt485.1 bt485.2.1 bt485.2.2).bind fun bt508 => (if (!(bt488.1 == bt508.1) || (!(bt488.2.1 == bt508.2.1) || (!(bt488.2.2.1 == bt508.2.2.1) || (!(bt488.2.2.2 == bt508.2.2.2))))) = true then (none) else (if bt488.1 > 0 then (if bt488.2.2.1 < 4 then ((impl_VoteOk.f k bt488.1 bt488.2.1 bt488.2.2.1 bt488.2.2.2 4).bind fun t512 => (laws_FnProofs.j0 k t456 t467 (!t512) t459 t460 t461 t464)) else (laws_FnProofs.j0 k t456 t467 false t459 t460 t461 t464)) else (laws_FnProofs.j0 k t456 t467 false t459 t460 t461 t464)))))))))) else (none))))))) = some r := H
  have A8 := Aside0.mk A80
  clear A80
  replace H := Option.bind_eq_some_iff.mp H
  obtain ⟨⟨t485, t486, t487⟩, A90, H⟩ := H
  replace H : ((impl_Voted.f k t485 t486 t487).bind fun bt488 => ((spec_Gathered.f k t455 t456).bind fun bt493 => (if (t467 != bt493.2.2.2.2) = true then (none) else ((laws_likeProof.f k t459 t460 t461 t464 bt493.1 bt493.2.1 bt493.2.2.1 bt493.2.2.2.1).bind fun t503 => (if t503 = true then ((impl_ProofOk.f k t469 t470 t471 t474 t477).bind fun t504 => ((spec_ProofOk.f k t469 t470 t471 t474 t477).bind fun t505 => (if (t504 != t505) = true then (none) else ((impl_VoteOk.f k t479 t480 t481 t482 t483).bind fun t506 => ((spec_VoteOk.f k t479 t480 t481 t482 t483).bind fun t507 => (if (t506 != t507) = true then (none) else ((spec_Voted.f k t485 t486 t487).bind fun bt508 => (if (!(bt488.1 == bt508.1) || (!(bt488.2.1 == bt508.2.1) || (!(bt488.2.2.1 == bt508.2.2.1) || (!(bt488.2.2.2 == bt508.2.2.2))))) = true then (none) else (if bt488.1 > 0 then (if bt488.2.2.1 < 4 then ((impl_VoteOk.f k bt488.1 bt488.2.1 bt488.2.2.1 bt488.2.2.2 4).bind fun t512 => (laws_FnProofs.j0 k t456 t467 (!t512) t459 t460 t461 t464)) else (laws_FnProofs.j0 k t456 t467 false t459 t460 t461 t464)) else (laws_FnProofs.j0 k t456 t467 false t459 t460 t461 t464)))))))))) else (none)))))) = some r := H
  have A9 := Aside0.mk A90
  clear A90
  replace H := Option.bind_eq_some_iff.mp H
  obtain ⟨⟨t488, t489, t490, t491⟩, A100, H⟩ := H
  replace H : ((spec_Gathered.f k t455 t456).bind fun bt493 => (if (t467 != bt493.2.2.2.2) = true then (none) else ((laws_likeProof.f k t459 t460 t461 t464 bt493.1 bt493.2.1 bt493.2.2.1 bt493.2.2.2.1).bind fun t503 => (if t503 = true then ((impl_ProofOk.f k t469 t470 t471 t474 t477).bind fun t504 => ((spec_ProofOk.f k t469 t470 t471 t474 t477).bind fun t505 => (if (t504 != t505) = true then (none) else ((impl_VoteOk.f k t479 t480 t481 t482 t483).bind fun t506 => ((spec_VoteOk.f k t479 t480 t481 t482 t483).bind fun t507 => (if (t506 != t507) = true then (none) else ((spec_Voted.f k t485 t486 t487).bind fun bt508 => (if (!(t488 == bt508.1) || (!(t489 == bt508.2.1) || (!(t490 == bt508.2.2.1) || (!(t491 == bt508.2.2.2))))) = true then (none) else (if t488 > 0 then (if t490 < 4 then ((impl_VoteOk.f k t488 t489 t490 t491 4).bind fun t512 => (laws_FnProofs.j0 k t456 t467 (!t512) t459 t460 t461 t464)) else (laws_FnProofs.j0 k t456 t467 false t459 t460 t461 t464)) else (laws_FnProofs.j0 k t456 t467 false t459 t460 t461 t464)))))))))) else (none))))) = some r := H
  have A10 := Aside0.mk A100
  clear A100
  replace H := Option.bind_eq_some_iff.mp H
  obtain ⟨⟨t493, t494, t495, t498, t501⟩, A110, H⟩ := H
  replace H : (if (t467 != t501) = true then (none) else ((laws_likeProof.f k t459 t460 t461 t464 t493 t494 t495 t498).bind fun t503 => (if t503 = true then ((impl_ProofOk.f k t469 t470 t471 t474 t477).bind fun t504 => ((spec_ProofOk.f k t469 t470 t471 t474 t477).bind fun t505 => (if (t504 != t505) = true then (none) else ((impl_VoteOk.f k t479 t480 t481 t482 t483).bind fun t506 => ((spec_VoteOk.f k t479 t480 t481 t482 t483).bind fun t507 => (if (t506 != t507) = true then (none) else ((spec_Voted.f k t485 t486 t487).bind fun bt508 => (if (!(t488 == bt508.1) || (!(t489 == bt508.2.1) || (!(t490 == bt508.2.2.1) || (!(t491 == bt508.2.2.2))))) = true then (none) else (if t488 > 0 then (if t490 < 4 then ((impl_VoteOk.f k t488 t489 t490 t491 4).bind fun t512 => (laws_FnProofs.j0 k t456 t467 (!t512) t459 t460 t461 t464)) else (laws_FnProofs.j0 k t456 t467 false t459 t460 t461 t464)) else (laws_FnProofs.j0 k t456 t467 false t459 t460 t461 t464)))))))))) else (none)))) = some r := H
  have A11 := Aside0.mk A110
  clear A110
  by_cases c12 : (t467 != t501) = true
  ·rw [if_pos c12] at H
   have c12b0 : (t467 != t501) = true := c12
   (try (have c12b1 : decide (t467 = t501) = false := by simpa using c12))
   (try (have c12b2 : (t467 == t501) = false := by simpa using c12))
   (try (have c12b3 : ¬ (t467 = t501) := by simpa using c12))
   clear c12
   (first | rw [c12b0] | (simp only [i64_w, i32_w]; rw [c12b0]) | skip)
   exact absurd H (by simp)
  ·rw [if_neg c12] at H
   have c12b0 : (t467 != t501) = false := by simpa using c12
   (try (have c12b1 : decide (t467 = t501) = true := by simpa using c12))
   (try (have c12b2 : (t467 == t501) = true := by simpa using c12))
   clear c12
   (first | rw [c12b0] | (simp only [i64_w, i32_w]; rw [c12b0]) | skip)
   replace H := Option.bind_eq_some_iff.mp H
   obtain ⟨t503, A130, H⟩ := H
   replace H : (if t503 = true then ((impl_ProofOk.f k t469 t470 t471 t474 t477).bind fun t504 => ((spec_ProofOk.f k t469 t470 t471 t474 t477).bind fun t505 => (if (t504 != t505) = true then (none) else ((impl_VoteOk.f k t479 t480 t481 t482 t483).bind fun t506 => ((spec_VoteOk.f k t479 t480 t481 t482 t483).bind fun t507 => (if (t506 != t507) = true then (none) else ((spec_Voted.f k t485 t486 t487).bind fun bt508 => (if (!(t488 == bt508.1) || (!(t489 == bt508.2.1) || (!(t490 == bt508.2.2.1) || (!(t491 == bt508.2.2.2))))) = true then (none) else (if t488 > 0 then (if t490 < 4 then ((impl_VoteOk.f k t488 t489 t490 t491 4).bind fun t512 => (laws_FnProofs.j0 k t456 t467 (!t512) t459 t460 t461 t464)) else (laws_FnProofs.j0 k t456 t467 false t459 t460 t461 t464)) else (laws_FnProofs.j0 k t456 t467 false t459 t460 t461 t464)))))))))) else (none)) = some r := H
   have A13 := Aside0.mk A130
   clear A130
   by_cases c14 : t503 = true
   ·subst c14
    have H1 : ((impl_ProofOk.f k t469 t470 t471 t474 t477).bind fun t504 => ((spec_ProofOk.f k t469 t470 t471 t474 t477).bind fun t505 => (if (t504 != t505) = true then (none) else ((impl_VoteOk.f k t479 t480 t481 t482 t483).bind fun t506 => ((spec_VoteOk.f k t479 t480 t481 t482 t483).bind fun t507 => (if (t506 != t507) = true then (none) else ((spec_Voted.f k t485 t486 t487).bind fun bt508 => (if (!(t488 == bt508.1) || (!(t489 == bt508.2.1) || (!(t490 == bt508.2.2.1) || (!(t491 == bt508.2.2.2))))) = true then (none) else (if t488 > 0 then (if t490 < 4 then ((impl_VoteOk.f k t488 t489 t490 t491 4).bind fun t512 => (laws_FnProofs.j0 k t456 t467 (!t512) t459 t460 t461 t464)) else (laws_FnProofs.j0 k t456 t467 false t459 t460 t461 t464)) else (laws_FnProofs.j0 k t456 t467 false t459 t460 t461 t464)))))))))) = some r := by rw [if_pos rfl] at H; exact H
    clear H
    have H := H1
    clear H1
    replace H := Option.bind_eq_some_iff.mp H
    obtain ⟨t504, A150, H⟩ := H
    replace H : ((spec_ProofOk.f k t469 t470 t471 t474 t477).bind fun t505 => (if (t504 != t505) = true then (none) else ((impl_VoteOk.f k t479 t480 t481 t482 t483).bind fun t506 => ((spec_VoteOk.f k t479 t480 t481 t482 t483).bind fun t507 => (if (t506 != t507) = true then (none) else ((spec_Voted.f k t485 t486 t487).bind fun bt508 => (if (!(t488 == bt508.1) || (!(t489 == bt508.2.1) || (!(t490 == bt508.2.2.1) || (!(t491 == bt508.2.2.2))))) = true then (none) else (if t488 > 0 then (if t490 < 4 then ((impl_VoteOk.f k t488 t489 t490 t491 4).bind fun t512 => (laws_FnProofs.j0 k t456 t467 (!t512) t459 t460 t461 t464)) else (laws_FnProofs.j0 k t456 t467 false t459 t460 t461 t464)) else (laws_FnProofs.j0 k t456 t467 false t459 t460 t461 t464))))))))) = some r := H
    have A15 := Aside0.mk A150
    clear A150
    replace H := Option.bind_eq_some_iff.mp H
    obtain ⟨t505, A160, H⟩ := H
    replace H : (if (t504 != t505) = true then (none) else ((impl_VoteOk.f k t479 t480 t481 t482 t483).bind fun t506 => ((spec_VoteOk.f k t479 t480 t481 t482 t483).bind fun t507 => (if (t506 != t507) = true then (none) else ((spec_Voted.f k t485 t486 t487).bind fun bt508 => (if (!(t488 == bt508.1) || (!(t489 == bt508.2.1) || (!(t490 == bt508.2.2.1) || (!(t491 == bt508.2.2.2))))) = true then (none) else (if t488 > 0 then (if t490 < 4 then ((impl_VoteOk.f k t488 t489 t490 t491 4).bind fun t512 => (laws_FnProofs.j0 k t456 t467 (!t512) t459 t460 t461 t464)) else (laws_FnProofs.j0 k t456 t467 false t459 t460 t461 t464)) else (laws_FnProofs.j0 k t456 t467 false t459 t460 t461 t464)))))))) = some r := H
    have A16 := Aside0.mk A160
    clear A160
    by_cases c17 : (t504 != t505) = true
    ·rw [if_pos c17] at H
     have c17b0 : (t504 != t505) = true := c17
     (try (have c17b1 : decide (t504 = t505) = false := by simpa using c17))
     (try (have c17b2 : (t504 == t505) = false := by simpa using c17))
     (try (have c17b3 : ¬ (t504 = t505) := by simpa using c17))
     clear c17
     exact absurd H (by simp)
    ·rw [if_neg c17] at H
     have c17b0 : (t504 != t505) = false := by simpa using c17
     (try (have c17b1 : decide (t504 = t505) = true := by simpa using c17))
     (try (have c17b2 : (t504 == t505) = true := by simpa using c17))
     clear c17
     replace H := Option.bind_eq_some_iff.mp H
     obtain ⟨t506, A180, H⟩ := H
     replace H : ((spec_VoteOk.f k t479 t480 t481 t482 t483).bind fun t507 => (if (t506 != t507) = true then (none) else ((spec_Voted.f k t485 t486 t487).bind fun bt508 => (if (!(t488 == bt508.1) || (!(t489 == bt508.2.1) || (!(t490 == bt508.2.2.1) || (!(t491 == bt508.2.2.2))))) = true then (none) else (if t488 > 0 then (if t490 < 4 then ((impl_VoteOk.f k t488 t489 t490 t491 4).bind fun t512 => (laws_FnProofs.j0 k t456 t467 (!t512) t459 t460 t461 t464)) else (laws_FnProofs.j0 k t456 t467 false t459 t460 t461 t464)) else (laws_FnProofs.j0 k t456 t467 false t459 t460 t461 t464)))))) = some r := H
     have A18 := Aside0.mk A180
     clear A180
     replace H := Option.bind_eq_some_iff.mp H
     obtain ⟨t507, A190, H⟩ := H
     replace H : (if (t506 != t507) = true then (none) else ((spec_Voted.f k t485 t486 t487).bind fun bt508 => (if (!(t488 == bt508.1) || (!(t489 == bt508.2.1) || (!(t490 == bt508.2.2.1) || (!(t491 == bt508.2.2.2))))) = true then (none) else (if t488 > 0 then (if t490 < 4 then ((impl_VoteOk.f k t488 t489 t490 t491 4).bind fun t512 => (laws_FnProofs.j0 k t456 t467 (!t512) t459 t460 t461 t464)) else (laws_FnProofs.j0 k t456 t467 false t459 t460 t461 t464)) else (laws_FnProofs.j0 k t456 t467 false t459 t460 t461 t464))))) = some r := H
     have A19 := Aside0.mk A190
     clear A190
     by_cases c20 : (t506 != t507) = true
     ·rw [if_pos c20] at H
      have c20b0 : (t506 != t507) = true := c20
      (try (have c20b1 : decide (t506 = t507) = false := by simpa using c20))
      (try (have c20b2 : (t506 == t507) = false := by simpa using c20))
      (try (have c20b3 : ¬ (t506 = t507) := by simpa using c20))
      clear c20
      exact absurd H (by simp)
     ·rw [if_neg c20] at H
      have c20b0 : (t506 != t507) = false := by simpa using c20
      (try (have c20b1 : decide (t506 = t507) = true := by simpa using c20))
      (try (have c20b2 : (t506 == t507) = true := by simpa using c20))
      clear c20
      replace H := Option.bind_eq_some_iff.mp H
      obtain ⟨⟨t508, t509, t510, t511⟩, A210, H⟩ := H
      replace H : (if (!(t488 == t508) || (!(t489 == t509) || (!(t490 == t510) || (!(t491 == t511))))) = true then (none) else (if t488 > 0 then (if t490 < 4 then ((impl_VoteOk.f k t488 t489 t490 t491 4).bind fun t512 => (laws_FnProofs.j0 k t456 t467 (!t512) t459 t460 t461 t464)) else (laws_FnProofs.j0 k t456 t467 false t459 t460 t461 t464)) else (laws_FnProofs.j0 k t456 t467 false t459 t460 t461 t464))) = some r := H
      have A21 := Aside0.mk A210
      clear A210
      by_cases c22 : (!(t488 == t508) || (!(t489 == t509) || (!(t490 == t510) || (!(t491 == t511))))) = true
      ·rw [if_pos c22] at H
       exact absurd H (by simp)
      ·rw [if_neg c22] at H
       have c22b0 : (!(t488 == t508) || (!(t489 == t509) || (!(t490 == t510) || (!(t491 == t511))))) = false := by simpa using c22
       clear c22
       have HC23 := Aside0.mk H
       clear H
       try go_wp2_with (first | ((with_reducible refine gate_callee (f := 17) rfl ?_); refine goesL_ (some 25) rfl rfl Tryd.func17 (by kernel_rfl) rfl #[.slice A0 l0.length c0] rfl d0 ?_; (with_reducible refine (spec_DrawGathered.calls k _ _ l0 t455 t456 _ ?side1 ?side2 A5.out).mono ?_); (case side1 => exact (by repeat (first | exact (Kd.C_below HR0.out HB.out) | (with_reducible refine Kd.C_alloc ?_ _) | (with_reducible refine Kd.C_drewN ?_ _) | (with_reducible refine Kd.C_drew ?_)))); (case side2 => exact HC0.out); rintro e w24 ⟨v457, rfl, ho0, hb⟩; refine ⟨_, rfl, ?_⟩; have n0_ := Aside0.mk (Kd.R_lower ho0 (below_size d1)); have n1_ := Aside0.mk (below_step d1 hb); clear HB; have HO458 := n0_; have HB := n1_; clear n0_ n1_; (try clear hb); (try clear hb2); (try clear hk); (try clear hi); (try clear ho0); obtain ⟨Ao25, co25, eo25⟩ := Kd.R_slice HO458.out; subst eo25) | ((with_reducible refine gate_callee (f := 10) rfl ?_); refine goesL_ (some 31) rfl rfl Tryd.func10 (by kernel_rfl) rfl #[.slice Ao25 t455.length co25, .int .i64 t456] rfl d0 ?_; (with_reducible refine (impl_Gathered.calls k _ _ t455 t456 t459 t460 t461 t464 t467 _ ?side1 ?side2 A6.out (tab_at HT.out d6)).mono ?_); (case side1 => exact (by repeat (first | exact (Kd.R_reads' HO458.out).2.2 | (with_reducible refine Kd.C_alloc ?_ _) | (with_reducible refine Kd.C_drewN ?_ _) | (with_reducible refine Kd.C_drew ?_)))); (case side2 => exact (Kd.R_reads' HO458.out).2.1); rintro e w26 ⟨v462, v465, rfl, ho0, ho1, hb⟩; refine ⟨_, rfl, ?_⟩; have n0_ := Aside0.mk (Kd.R_below d41 hb); have n1_ := Aside0.mk (Kd.R_lower ho0 (below_size d1)); have n2_ := Aside0.mk (Kd.R_lower ho1 (below_size d1)); have n3_ := Aside0.mk (below_step d1 hb); clear HO458; clear HB; have HO458 := n0_; have HO463 := n1_; have HO466 := n2_; have HB := n3_; clear n0_ n1_ n2_ n3_; (try clear hb); (try clear hb2); (try clear hk); (try clear hi); (try clear ho0); (try clear ho1)) | ((with_reducible refine gate_dst (N := 5) rfl ?_); (try (refine gate_guard (by rfl) ?_; dsimp only)); refine box_event ?hg (N := 5) ?hd (cs := #[.int .i64 0, .int .i64 0, .slice none 0 0, .slice none 0 0]) (t := 26) ?hr ?_; (case hd => rfl); (case hg => rfl); (case hr => first | (go_simp; done) | (go_simp; rfl)); intro gb468 hg w27 hbox hb; have n0_ := Aside0.mk (Kd.R_below d41 hb); have n1_ := Aside0.mk (Kd.R_below d36 hb); have n2_ := Aside0.mk (Kd.R_below d45 hb); have n3_ := Aside0.mk (below_step d1 hb); have n4_ := Aside0.mk (hbox); have n5_ := Aside0.mk ((by rw [hg]; exact (below_size d1) : w.heap.size ≤ gb468)); have n6_ := Aside0.mk ((by rw [hg]; exact (below_size d1) : w.heap.size ≤ gb468)); clear HO458; clear HO463; clear HO466; clear HB; have HO458 := n0_; have HO463 := n1_; have HO466 := n2_; have HB := n3_; have BK468 := n4_; have GW468 := n5_; have GE468 := n6_; clear n0_ n1_ n2_ n3_ n4_ n5_ n6_; clear hb hbox hg; have hcz28_0 : w27.cell? ⟨gb468, 0, none⟩ = some (.int .i64 0) := (blk_cell BK468.out 0).trans rfl; have hcz28_1 : w27.cell? ⟨gb468, 1, none⟩ = some (.int .i64 0) := (blk_cell BK468.out 1).trans rfl; have hcz28_2 : w27.cell? ⟨gb468, 2, none⟩ = some (.slice none 0 0) := (blk_cell BK468.out 2).trans rfl; have hcz28_3 : w27.cell? ⟨gb468, 3, none⟩ = some (.slice none 0 0) := (blk_cell BK468.out 3).trans rfl; have hfz28_0 := blk_frozen BK468.out 0; have hfz28_1 := blk_frozen BK468.out 1; have hfz28_2 := blk_frozen BK468.out 2; have hfz28_3 := blk_frozen BK468.out 3; obtain ⟨Ao29, co29, eo29⟩ := Kd.R_slice HO463.out; subst eo29; obtain ⟨Ao30, co30, eo30⟩ := Kd.R_slice HO466.out; subst eo30) | ((with_reducible refine gate_callee (f := 18) rfl ?_); refine goesL_ (some 36) rfl rfl Tryd.func18 (by kernel_rfl) rfl #[.slice A0 l0.length c0] rfl d0 ?_; (with_reducible refine (spec_DrawProofOk.calls k _ _ l0 t469 t470 t471 t474 t477 _ ?side1 ?side2 A7.out).mono ?_); (case side1 => exact Kd.C_below HR0.out d58); (case side2 => exact HC0.out); rintro e w31 ⟨v472, v475, rfl, ho0, ho1, hb⟩; refine ⟨_, rfl, ?_⟩; have n0_ := Aside0.mk (Kd.R_below (by (with_reducible repeat (first | apply Kd.R_alloc | apply Kd.R_drewN | apply Kd.R_drew)); exact (Kd.R_mono (Kd.R_far (p := ⟨gb468, 3, none⟩) (Kd.R_far (p := ⟨gb468, 2, none⟩) (Kd.R_far (p := ⟨gb468, 1, none⟩) (Kd.R_far (p := ⟨gb468, 0, none⟩) (Kd.R_types HO458.out BK468.out (by decide)) (fun _ hk => hk.2) (.int .i64 t459)) (fun _ hk => hk.2) (.int .i64 t460)) (fun _ hk => hk.2) (.slice Ao29 t461.length co29)) (fun _ hk => hk.2) (.slice Ao30 t464.length co30)) (fun _ h_ => h_.1))) hb); have n1_ := Aside0.mk (Kd.R_mono (Kd.R_told (Kd.R_told (Kd.R_old d56 hb) (Kd.Q_base ho0)) (Kd.R_base ho1)) (fun _ h_ => h_.1)); have n2_ := Aside0.mk (Kd.R_mono (Kd.R_told (Kd.R_told (Kd.R_old d57 hb) (Kd.Q_base ho0)) (Kd.R_base ho1)) (fun _ h_ => h_.1)); have n3_ := Aside0.mk (Kd.Q_lower (Kd.Q_new' (Kd.Q_new' ho0 (Kd.R_lt d56)) (Kd.R_lt d57)) (below_size d58)); have n4_ := Aside0.mk (Kd.R_lower (Kd.R_new' (Kd.R_new' ho1 (Kd.R_lt d56)) (Kd.R_lt d57)) (below_size d58)); have n5_ := Aside0.mk (blk_below (g := gb468) (o := .cells #[.int .i64 t459, .int .i64 t460, .slice Ao29 t461.length co29, .slice Ao30 t464.length co30] 26 (0, 0)) (by (with_reducible repeat (first | refine blk_drewN ?_ _ | refine blk_drew ?_ | refine blk_alloc ?_ _)); refine blk_put (cs := #[.int .i64 t459, .int .i64 t460, .slice Ao29 t461.length co29, .slice none 0 0]) ?_ 3 _ rfl; (with_reducible repeat (first | refine blk_drewN ?_ _ | refine blk_drew ?_ | refine blk_alloc ?_ _)); refine blk_put (cs := #[.int .i64 t459, .int .i64 t460, .slice none 0 0, .slice none 0 0]) ?_ 2 _ rfl; (with_reducible repeat (first | refine blk_drewN ?_ _ | refine blk_drew ?_ | refine blk_alloc ?_ _)); refine blk_put (cs := #[.int .i64 t459, .int .i64 0, .slice none 0 0, .slice none 0 0]) ?_ 1 _ rfl; (with_reducible repeat (first | refine blk_drewN ?_ _ | refine blk_drew ?_ | refine blk_alloc ?_ _)); refine blk_put (cs := #[.int .i64 0, .int .i64 0, .slice none 0 0, .slice none 0 0]) ?_ 0 _ rfl; (with_reducible repeat (first | refine blk_drewN ?_ _ | refine blk_drew ?_ | refine blk_alloc ?_ _)); exact BK468.out) hb); have n6_ := Aside0.mk (below_step d58 hb); clear HO458; clear HO463; clear HO466; clear BK468; clear HB; have HO458 := n0_; have HO463 := n1_; have HO466 := n2_; have HO473 := n3_; have HO476 := n4_; have BK468 := n5_; have HB := n6_; clear n0_ n1_ n2_ n3_ n4_ n5_ n6_; (try clear hb); (try clear hb2); (try clear hk); (try clear hi); (try clear ho0); (try clear ho1)) | ((with_reducible refine gate_dst (N := 7) rfl ?_); (try (refine gate_guard (by rfl) ?_; dsimp only)); refine box_event ?hg (N := 7) ?hd (cs := #[.int .i64 0, .int .i64 0, .slice none 0 0, .slice none 0 0]) (t := 26) ?hr ?_; (case hd => rfl); (case hg => rfl); (case hr => first | (go_simp; done) | (go_simp; rfl)); intro gb478 hg w32 hbox hb; have n0_ := Aside0.mk (Kd.R_below d41 hb); have n1_ := Aside0.mk (Kd.R_below d36 hb); have n2_ := Aside0.mk (Kd.R_below d45 hb); have n3_ := Aside0.mk (Kd.Q_below d47 hb); have n4_ := Aside0.mk (Kd.R_below d48 hb); have n5_ := Aside0.mk (blk_below (g := gb468) (o := .cells #[.int .i64 t459, .int .i64 t460, .slice Ao29 t461.length co29, .slice Ao30 t464.length co30] 26 (0, 0)) d5 hb); have n6_ := Aside0.mk (below_step d58 hb); have n7_ := Aside0.mk (hbox); have n8_ := Aside0.mk ((by rw [hg]; exact (below_size d58) : w.heap.size ≤ gb478)); have n9_ := Aside0.mk ((by rw [hg]; exact (below_size d58) : w.heap.size ≤ gb478)); have n10_ := Aside0.mk ((by rw [hg]; exact Nat.ne_of_lt (blk_lt (g := gb468) (o := .cells #[.int .i64 t459, .int .i64 t460, .slice Ao29 t461.length co29, .slice Ao30 t464.length co30] 26 (0, 0)) d5) : gb468 ≠ gb478)); have n11_ := Aside0.mk ((by rw [hg]; exact Nat.ne_of_gt (blk_lt (g := gb468) (o := .cells #[.int .i64 t459, .int .i64 t460, .slice Ao29 t461.length co29, .slice Ao30 t464.length co30] 26 (0, 0)) d5) : gb478 ≠ gb468)); clear HO458; clear HO463; clear HO466; clear HO473; clear HO476; clear BK468; clear HB; have HO458 := n0_; have HO463 := n1_; have HO466 := n2_; have HO473 := n3_; have HO476 := n4_; have BK468 := n5_; have HB := n6_; have BK478 := n7_; have GW478 := n8_; have GE478 := n9_; have NB468_478 := n10_; have NB478_468 := n11_; clear n0_ n1_ n2_ n3_ n4_ n5_ n6_ n7_ n8_ n9_ n10_ n11_; clear hb hbox hg; have hnb33 := NB478_468.out; have hnc33 := NB468_478.out; have hcz34_0 : w32.cell? ⟨gb478, 0, none⟩ = some (.int .i64 0) := (blk_cell BK478.out 0).trans rfl; have hcz34_1 : w32.cell? ⟨gb478, 1, none⟩ = some (.int .i64 0) := (blk_cell BK478.out 1).trans rfl; have hcz34_2 : w32.cell? ⟨gb478, 2, none⟩ = some (.slice none 0 0) := (blk_cell BK478.out 2).trans rfl; have hcz34_3 : w32.cell? ⟨gb478, 3, none⟩ = some (.slice none 0 0) := (blk_cell BK478.out 3).trans rfl; have hfz34_0 := blk_frozen BK478.out 0; have hfz34_1 := blk_frozen BK478.out 1; have hfz34_2 := blk_frozen BK478.out 2; have hfz34_3 := blk_frozen BK478.out 3; obtain ⟨Ao35, co35, eo35, _⟩ := Kd.Q_slice HO473.out; subst eo35; obtain ⟨Ao36, co36, eo36⟩ := Kd.R_slice HO476.out; subst eo36) | ((with_reducible refine gate_callee (f := 19) rfl ?_); refine goesL_ (some 41) rfl rfl Tryd.func19 (by kernel_rfl) rfl #[.slice A0 l0.length c0] rfl d0 ?_; (with_reducible refine (spec_DrawVoteOk.calls k _ _ l0 t479 t480 t481 t482 t483 _ ?side1 ?side2 A8.out).mono ?_); (case side1 => exact Kd.C_below HR0.out d71); (case side2 => exact HC0.out); rintro e w37 ⟨rfl, hb⟩; refine ⟨_, rfl, ?_⟩; have n0_ := Aside0.mk (Kd.R_below (by (with_reducible repeat (first | apply Kd.R_alloc | apply Kd.R_drewN | apply Kd.R_drew)); exact (Kd.R_mono (Kd.R_far (p := ⟨gb478, 3, none⟩) (Kd.R_far (p := ⟨gb478, 2, none⟩) (Kd.R_far (p := ⟨gb478, 1, none⟩) (Kd.R_far (p := ⟨gb478, 0, none⟩) (Kd.R_types HO458.out BK478.out (by decide)) (fun _ hk => hk.2) (.int .i64 t469)) (fun _ hk => hk.2) (.int .i64 t470)) (fun _ hk => hk.2) (.slice Ao35 t471.length co35)) (fun _ hk => hk.2) (.slice Ao36 t474.length co36)) (fun _ h_ => h_.1))) hb); have n1_ := Aside0.mk (Kd.R_below (by (with_reducible repeat (first | apply Kd.R_alloc | apply Kd.R_drewN | apply Kd.R_drew)); exact (Kd.R_mono (Kd.R_far (p := ⟨gb478, 3, none⟩) (Kd.R_far (p := ⟨gb478, 2, none⟩) (Kd.R_far (p := ⟨gb478, 1, none⟩) (Kd.R_far (p := ⟨gb478, 0, none⟩) (Kd.R_types HO463.out BK478.out (by decide)) (fun _ hk => hk.2) (.int .i64 t469)) (fun _ hk => hk.2) (.int .i64 t470)) (fun _ hk => hk.2) (.slice Ao35 t471.length co35)) (fun _ hk => hk.2) (.slice Ao36 t474.length co36)) (fun _ h_ => h_.1))) hb); have n2_ := Aside0.mk (Kd.R_below (by (with_reducible repeat (first | apply Kd.R_alloc | apply Kd.R_drewN | apply Kd.R_drew)); exact (Kd.R_mono (Kd.R_far (p := ⟨gb478, 3, none⟩) (Kd.R_far (p := ⟨gb478, 2, none⟩) (Kd.R_far (p := ⟨gb478, 1, none⟩) (Kd.R_far (p := ⟨gb478, 0, none⟩) (Kd.R_types HO466.out BK478.out (by decide)) (fun _ hk => hk.2) (.int .i64 t469)) (fun _ hk => hk.2) (.int .i64 t470)) (fun _ hk => hk.2) (.slice Ao35 t471.length co35)) (fun _ hk => hk.2) (.slice Ao36 t474.length co36)) (fun _ h_ => h_.1))) hb); have n3_ := Aside0.mk (Kd.Q_below (by (with_reducible repeat (first | apply Kd.Q_alloc | apply Kd.Q_drewN | apply Kd.Q_drew)); exact (Kd.Q_mono (Kd.Q_far (p := ⟨gb478, 3, none⟩) (Kd.Q_far (p := ⟨gb478, 2, none⟩) (Kd.Q_far (p := ⟨gb478, 1, none⟩) (Kd.Q_far (p := ⟨gb478, 0, none⟩) (Kd.Q_types HO473.out BK478.out (by decide)) (fun _ hk => hk.2) (.int .i64 t469)) (fun _ hk => hk.2) (.int .i64 t470)) (fun _ hk => hk.2) (.slice Ao35 t471.length co35)) (fun _ hk => hk.2) (.slice Ao36 t474.length co36)) (fun _ h_ => h_.1))) hb); have n4_ := Aside0.mk (Kd.R_below (by (with_reducible repeat (first | apply Kd.R_alloc | apply Kd.R_drewN | apply Kd.R_drew)); exact (Kd.R_mono (Kd.R_far (p := ⟨gb478, 3, none⟩) (Kd.R_far (p := ⟨gb478, 2, none⟩) (Kd.R_far (p := ⟨gb478, 1, none⟩) (Kd.R_far (p := ⟨gb478, 0, none⟩) (Kd.R_types HO476.out BK478.out (by decide)) (fun _ hk => hk.2) (.int .i64 t469)) (fun _ hk => hk.2) (.int .i64 t470)) (fun _ hk => hk.2) (.slice Ao35 t471.length co35)) (fun _ hk => hk.2) (.slice Ao36 t474.length co36)) (fun _ h_ => h_.1))) hb); have n5_ := Aside0.mk (blk_below (g := gb468) (o := .cells #[.int .i64 t459, .int .i64 t460, .slice Ao29 t461.length co29, .slice Ao30 t464.length co30] 26 (0, 0)) (by (with_reducible repeat (first | refine blk_drewN ?_ _ | refine blk_drew ?_ | refine blk_alloc ?_ _)); refine blk_far ?_ NB468_478.out _; (with_reducible repeat (first | refine blk_drewN ?_ _ | refine blk_drew ?_ | refine blk_alloc ?_ _)); refine blk_far ?_ NB468_478.out _; (with_reducible repeat (first | refine blk_drewN ?_ _ | refine blk_drew ?_ | refine blk_alloc ?_ _)); refine blk_far ?_ NB468_478.out _; (with_reducible repeat (first | refine blk_drewN ?_ _ | refine blk_drew ?_ | refine blk_alloc ?_ _)); refine blk_far ?_ NB468_478.out _; (with_reducible repeat (first | refine blk_drewN ?_ _ | refine blk_drew ?_ | refine blk_alloc ?_ _)); exact BK468.out) hb); have n6_ := Aside0.mk (blk_below (g := gb478) (o := .cells #[.int .i64 t469, .int .i64 t470, .slice Ao35 t471.length co35, .slice Ao36 t474.length co36] 26 (0, 0)) (by (with_reducible repeat (first | refine blk_drewN ?_ _ | refine blk_drew ?_ | refine blk_alloc ?_ _)); refine blk_put (cs := #[.int .i64 t469, .int .i64 t470, .slice Ao35 t471.length co35, .slice none 0 0]) ?_ 3 _ rfl; (with_reducible repeat (first | refine blk_drewN ?_ _ | refine blk_drew ?_ | refine blk_alloc ?_ _)); refine blk_put (cs := #[.int .i64 t469, .int .i64 t470, .slice none 0 0, .slice none 0 0]) ?_ 2 _ rfl; (with_reducible repeat (first | refine blk_drewN ?_ _ | refine blk_drew ?_ | refine blk_alloc ?_ _)); refine blk_put (cs := #[.int .i64 t469, .int .i64 0, .slice none 0 0, .slice none 0 0]) ?_ 1 _ rfl; (with_reducible repeat (first | refine blk_drewN ?_ _ | refine blk_drew ?_ | refine blk_alloc ?_ _)); refine blk_put (cs := #[.int .i64 0, .int .i64 0, .slice none 0 0, .slice none 0 0]) ?_ 0 _ rfl; (with_reducible repeat (first | refine blk_drewN ?_ _ | refine blk_drew ?_ | refine blk_alloc ?_ _)); exact BK478.out) hb); have n7_ := Aside0.mk (below_step d71 hb); clear HO458; clear HO463; clear HO466; clear HO473; clear HO476; clear BK468; clear BK478; clear HB; have HO458 := n0_; have HO463 := n1_; have HO466 := n2_; have HO473 := n3_; have HO476 := n4_; have BK468 := n5_; have BK478 := n6_; have HB := n7_; clear n0_ n1_ n2_ n3_ n4_ n5_ n6_ n7_; (try clear hb); (try clear hb2); (try clear hk); (try clear hi)) | ((with_reducible refine gate_dst (N := 9) rfl ?_); (try (refine gate_guard (by rfl) ?_; dsimp only)); refine box_event ?hg (N := 9) ?hd (cs := #[.int .i64 0, .int .i64 0, .int .i64 0, .int .i64 0]) (t := 43) ?hr ?_; (case hd => rfl); (case hg => rfl); (case hr => first | (go_simp; done) | (go_simp; rfl)); intro gb484 hg w38 hbox hb; have n0_ := Aside0.mk (Kd.R_below (Kd.R_elderB d41 gb484 (Nat.le_of_eq hg.symm)) hb); have n1_ := Aside0.mk (Kd.R_below d36 hb); have n2_ := Aside0.mk (Kd.R_below d45 hb); have n3_ := Aside0.mk (Kd.Q_below d47 hb); have n4_ := Aside0.mk (Kd.R_below d48 hb); have n5_ := Aside0.mk (blk_below (g := gb468) (o := .cells #[.int .i64 t459, .int .i64 t460, .slice Ao29 t461.length co29, .slice Ao30 t464.length co30] 26 (0, 0)) d5 hb); have n6_ := Aside0.mk (blk_below (g := gb478) (o := .cells #[.int .i64 t469, .int .i64 t470, .slice Ao35 t471.length co35, .slice Ao36 t474.length co36] 26 (0, 0)) d7 hb); have n7_ := Aside0.mk (below_step d71 hb); have n8_ := Aside0.mk (hbox); have n9_ := Aside0.mk ((by rw [hg]; exact (below_size d71) : w.heap.size ≤ gb484)); have n10_ := Aside0.mk ((by rw [hg]; exact (below_size d71) : w.heap.size ≤ gb484)); have n11_ := Aside0.mk ((by rw [hg]; exact Nat.ne_of_lt (blk_lt (g := gb468) (o := .cells #[.int .i64 t459, .int .i64 t460, .slice Ao29 t461.length co29, .slice Ao30 t464.length co30] 26 (0, 0)) d5) : gb468 ≠ gb484)); have n12_ := Aside0.mk ((by rw [hg]; exact Nat.ne_of_gt (blk_lt (g := gb468) (o := .cells #[.int .i64 t459, .int .i64 t460, .slice Ao29 t461.length co29, .slice Ao30 t464.length co30] 26 (0, 0)) d5) : gb484 ≠ gb468)); have n13_ := Aside0.mk ((by rw [hg]; exact Nat.ne_of_lt (blk_lt (g := gb478) (o := .cells #[.int .i64 t469, .int .i64 t470, .slice Ao35 t471.length co35, .slice Ao36 t474.length co36] 26 (0, 0)) d7) : gb478 ≠ gb484)); have n14_ := Aside0.mk ((by rw [hg]; exact Nat.ne_of_gt (blk_lt (g := gb478) (o := .cells #[.int .i64 t469, .int .i64 t470, .slice Ao35 t471.length co35, .slice Ao36 t474.length co36] 26 (0, 0)) d7) : gb484 ≠ gb478)); clear HO458; clear HO463; clear HO466; clear HO473; clear HO476; clear BK468; clear BK478; clear HB; have HO458 := n0_; have HO463 := n1_; have HO466 := n2_; have HO473 := n3_; have HO476 := n4_; have BK468 := n5_; have BK478 := n6_; have HB := n7_; have BK484 := n8_; have GW484 := n9_; have GE484 := n10_; have NB468_484 := n11_; have NB484_468 := n12_; have NB478_484 := n13_; have NB484_478 := n14_; clear n0_ n1_ n2_ n3_ n4_ n5_ n6_ n7_ n8_ n9_ n10_ n11_ n12_ n13_ n14_; clear hb hbox hg; have hnb39 := NB484_468.out; have hnc39 := NB468_484.out; have hnb40 := NB484_478.out; have hnc40 := NB478_484.out; have hcz41_0 : w38.cell? ⟨gb484, 0, none⟩ = some (.int .i64 0) := (blk_cell BK484.out 0).trans rfl; have hcz41_1 : w38.cell? ⟨gb484, 1, none⟩ = some (.int .i64 0) := (blk_cell BK484.out 1).trans rfl; have hcz41_2 : w38.cell? ⟨gb484, 2, none⟩ = some (.int .i64 0) := (blk_cell BK484.out 2).trans rfl; have hcz41_3 : w38.cell? ⟨gb484, 3, none⟩ = some (.int .i64 0) := (blk_cell BK484.out 3).trans rfl; have hfz41_0 := blk_frozen BK484.out 0; have hfz41_1 := blk_frozen BK484.out 1; have hfz41_2 := blk_frozen BK484.out 2; have hfz41_3 := blk_frozen BK484.out 3) | ((with_reducible refine gate_callee (f := 20) rfl ?_); refine goesL_ (some 46) rfl rfl Tryd.func20 (by kernel_rfl) rfl #[.slice A0 l0.length c0] rfl d0 ?_; (with_reducible refine (spec_DrawVoted.calls k _ _ l0 t485 t486 t487 _ ?side1 ?side2 A9.out).mono ?_); (case side1 => exact Kd.C_below HR0.out d49); (case side2 => exact HC0.out); rintro e w42 ⟨rfl, hb⟩; refine ⟨_, rfl, ?_⟩; have n0_ := Aside0.mk (Kd.R_below (by (with_reducible repeat (first | apply Kd.R_alloc | apply Kd.R_drewN | apply Kd.R_drew)); exact (Kd.R_mono (Kd.R_far (p := ⟨gb484, 3, none⟩) (Kd.R_far (p := ⟨gb484, 2, none⟩) (Kd.R_far (p := ⟨gb484, 1, none⟩) (Kd.R_far (p := ⟨gb484, 0, none⟩) (Kd.R_mono HO458.out (fun k_ hk => (⟨hk, hk.2⟩ : _ ∧ k_ ≠ gb484))) (fun _ hk => hk.2) (.int .i64 t479)) (fun _ hk => hk.2) (.int .i64 t480)) (fun _ hk => hk.2) (.int .i64 t481)) (fun _ hk => hk.2) (.int .i64 t482)) (fun _ h_ => h_.1))) hb); have n1_ := Aside0.mk (Kd.R_below (by (with_reducible repeat (first | apply Kd.R_alloc | apply Kd.R_drewN | apply Kd.R_drew)); exact (Kd.R_mono (Kd.R_far (p := ⟨gb484, 3, none⟩) (Kd.R_far (p := ⟨gb484, 2, none⟩) (Kd.R_far (p := ⟨gb484, 1, none⟩) (Kd.R_far (p := ⟨gb484, 0, none⟩) (Kd.R_types HO463.out BK484.out (by decide)) (fun _ hk => hk.2) (.int .i64 t479)) (fun _ hk => hk.2) (.int .i64 t480)) (fun _ hk => hk.2) (.int .i64 t481)) (fun _ hk => hk.2) (.int .i64 t482)) (fun _ h_ => h_.1))) hb); have n2_ := Aside0.mk (Kd.R_below (by (with_reducible repeat (first | apply Kd.R_alloc | apply Kd.R_drewN | apply Kd.R_drew)); exact (Kd.R_mono (Kd.R_far (p := ⟨gb484, 3, none⟩) (Kd.R_far (p := ⟨gb484, 2, none⟩) (Kd.R_far (p := ⟨gb484, 1, none⟩) (Kd.R_far (p := ⟨gb484, 0, none⟩) (Kd.R_types HO466.out BK484.out (by decide)) (fun _ hk => hk.2) (.int .i64 t479)) (fun _ hk => hk.2) (.int .i64 t480)) (fun _ hk => hk.2) (.int .i64 t481)) (fun _ hk => hk.2) (.int .i64 t482)) (fun _ h_ => h_.1))) hb); have n3_ := Aside0.mk (Kd.Q_below (by (with_reducible repeat (first | apply Kd.Q_alloc | apply Kd.Q_drewN | apply Kd.Q_drew)); exact (Kd.Q_mono (Kd.Q_far (p := ⟨gb484, 3, none⟩) (Kd.Q_far (p := ⟨gb484, 2, none⟩) (Kd.Q_far (p := ⟨gb484, 1, none⟩) (Kd.Q_far (p := ⟨gb484, 0, none⟩) (Kd.Q_types HO473.out BK484.out (by decide)) (fun _ hk => hk.2) (.int .i64 t479)) (fun _ hk => hk.2) (.int .i64 t480)) (fun _ hk => hk.2) (.int .i64 t481)) (fun _ hk => hk.2) (.int .i64 t482)) (fun _ h_ => h_.1))) hb); have n4_ := Aside0.mk (Kd.R_below (by (with_reducible repeat (first | apply Kd.R_alloc | apply Kd.R_drewN | apply Kd.R_drew)); exact (Kd.R_mono (Kd.R_far (p := ⟨gb484, 3, none⟩) (Kd.R_far (p := ⟨gb484, 2, none⟩) (Kd.R_far (p := ⟨gb484, 1, none⟩) (Kd.R_far (p := ⟨gb484, 0, none⟩) (Kd.R_types HO476.out BK484.out (by decide)) (fun _ hk => hk.2) (.int .i64 t479)) (fun _ hk => hk.2) (.int .i64 t480)) (fun _ hk => hk.2) (.int .i64 t481)) (fun _ hk => hk.2) (.int .i64 t482)) (fun _ h_ => h_.1))) hb); have n5_ := Aside0.mk (blk_below (g := gb468) (o := .cells #[.int .i64 t459, .int .i64 t460, .slice Ao29 t461.length co29, .slice Ao30 t464.length co30] 26 (0, 0)) (by (with_reducible repeat (first | refine blk_drewN ?_ _ | refine blk_drew ?_ | refine blk_alloc ?_ _)); refine blk_far ?_ NB468_484.out _; (with_reducible repeat (first | refine blk_drewN ?_ _ | refine blk_drew ?_ | refine blk_alloc ?_ _)); refine blk_far ?_ NB468_484.out _; (with_reducible repeat (first | refine blk_drewN ?_ _ | refine blk_drew ?_ | refine blk_alloc ?_ _)); refine blk_far ?_ NB468_484.out _; (with_reducible repeat (first | refine blk_drewN ?_ _ | refine blk_drew ?_ | refine blk_alloc ?_ _)); refine blk_far ?_ NB468_484.out _; (with_reducible repeat (first | refine blk_drewN ?_ _ | refine blk_drew ?_ | refine blk_alloc ?_ _)); exact BK468.out) hb); have n6_ := Aside0.mk (blk_below (g := gb478) (o := .cells #[.int .i64 t469, .int .i64 t470, .slice Ao35 t471.length co35, .slice Ao36 t474.length co36] 26 (0, 0)) (by (with_reducible repeat (first | refine blk_drewN ?_ _ | refine blk_drew ?_ | refine blk_alloc ?_ _)); refine blk_far ?_ NB478_484.out _; (with_reducible repeat (first | refine blk_drewN ?_ _ | refine blk_drew ?_ | refine blk_alloc ?_ _)); refine blk_far ?_ NB478_484.out _; (with_reducible repeat (first | refine blk_drewN ?_ _ | refine blk_drew ?_ | refine blk_alloc ?_ _)); refine blk_far ?_ NB478_484.out _; (with_reducible repeat (first | refine blk_drewN ?_ _ | refine blk_drew ?_ | refine blk_alloc ?_ _)); refine blk_far ?_ NB478_484.out _; (with_reducible repeat (first | refine blk_drewN ?_ _ | refine blk_drew ?_ | refine blk_alloc ?_ _)); exact BK478.out) hb); have n7_ := Aside0.mk (blk_below (g := gb484) (o := .cells #[.int .i64 t479, .int .i64 t480, .int .i64 t481, .int .i64 t482] 43 (0, 0)) (by (with_reducible repeat (first | refine blk_drewN ?_ _ | refine blk_drew ?_ | refine blk_alloc ?_ _)); refine blk_put (cs := #[.int .i64 t479, .int .i64 t480, .int .i64 t481, .int .i64 0]) ?_ 3 _ rfl; (with_reducible repeat (first | refine blk_drewN ?_ _ | refine blk_drew ?_ | refine blk_alloc ?_ _)); refine blk_put (cs := #[.int .i64 t479, .int .i64 t480, .int .i64 0, .int .i64 0]) ?_ 2 _ rfl; (with_reducible repeat (first | refine blk_drewN ?_ _ | refine blk_drew ?_ | refine blk_alloc ?_ _)); refine blk_put (cs := #[.int .i64 t479, .int .i64 0, .int .i64 0, .int .i64 0]) ?_ 1 _ rfl; (with_reducible repeat (first | refine blk_drewN ?_ _ | refine blk_drew ?_ | refine blk_alloc ?_ _)); refine blk_put (cs := #[.int .i64 0, .int .i64 0, .int .i64 0, .int .i64 0]) ?_ 0 _ rfl; (with_reducible repeat (first | refine blk_drewN ?_ _ | refine blk_drew ?_ | refine blk_alloc ?_ _)); exact BK484.out) hb); have n8_ := Aside0.mk (below_step d49 hb); clear HO458; clear HO463; clear HO466; clear HO473; clear HO476; clear BK468; clear BK478; clear BK484; clear HB; have HO458 := n0_; have HO463 := n1_; have HO466 := n2_; have HO473 := n3_; have HO476 := n4_; have BK468 := n5_; have BK478 := n6_; have BK484 := n7_; have HB := n8_; clear n0_ n1_ n2_ n3_ n4_ n5_ n6_ n7_ n8_; (try clear hb); (try clear hb2); (try clear hk); (try clear hi)) | ((with_reducible refine gate_callee (f := 21) rfl ?_); refine goesL_ (some 53) rfl rfl Tryd.func21 (by kernel_rfl) rfl #[.int .i64 t485, .int .i64 t486, .int .i64 t487] rfl d0 ?_; (with_reducible refine (impl_Voted.calls k t485 t486 t487 t488 t489 t490 t491 _ A10.out (tab_at HT.out d6)).mono ?_); rintro e w43 ⟨rfl, hb⟩; refine ⟨_, rfl, ?_⟩; have n0_ := Aside0.mk (Kd.R_below d41 hb); have n1_ := Aside0.mk (Kd.R_below d36 hb); have n2_ := Aside0.mk (Kd.R_below d45 hb); have n3_ := Aside0.mk (Kd.Q_below d47 hb); have n4_ := Aside0.mk (Kd.R_below d48 hb); have n5_ := Aside0.mk (blk_below (g := gb468) (o := .cells #[.int .i64 t459, .int .i64 t460, .slice Ao29 t461.length co29, .slice Ao30 t464.length co30] 26 (0, 0)) d5 hb); have n6_ := Aside0.mk (blk_below (g := gb478) (o := .cells #[.int .i64 t469, .int .i64 t470, .slice Ao35 t471.length co35, .slice Ao36 t474.length co36] 26 (0, 0)) d7 hb); have n7_ := Aside0.mk (blk_below (g := gb484) (o := .cells #[.int .i64 t479, .int .i64 t480, .int .i64 t481, .int .i64 t482] 43 (0, 0)) d8 hb); have n8_ := Aside0.mk (below_step d49 hb); clear HO458; clear HO463; clear HO466; clear HO473; clear HO476; clear BK468; clear BK478; clear BK484; clear HB; have HO458 := n0_; have HO463 := n1_; have HO466 := n2_; have HO473 := n3_; have HO476 := n4_; have BK468 := n5_; have BK478 := n6_; have BK484 := n7_; have HB := n8_; clear n0_ n1_ n2_ n3_ n4_ n5_ n6_ n7_ n8_; (try clear hb); (try clear hb2); (try clear hk); (try clear hi)) | ((with_reducible refine gate_dst (N := 14) rfl ?_); (try (refine gate_guard (by rfl) ?_; dsimp only)); refine box_event ?hg (N := 14) ?hd (cs := #[.int .i64 0, .int .i64 0, .int .i64 0, .int .i64 0]) (t := 43) ?hr ?_; (case hd => rfl); (case hg => rfl); (case hr => first | (go_simp; done) | (go_simp; rfl)); intro gb492 hg w44 hbox hb; have n0_ := Aside0.mk (Kd.R_below (Kd.R_elderB d41 gb492 (Nat.le_of_eq hg.symm)) hb); have n1_ := Aside0.mk (Kd.R_below d36 hb); have n2_ := Aside0.mk (Kd.R_below d45 hb); have n3_ := Aside0.mk (Kd.Q_below d47 hb); have n4_ := Aside0.mk (Kd.R_below d48 hb); have n5_ := Aside0.mk (blk_below (g := gb468) (o := .cells #[.int .i64 t459, .int .i64 t460, .slice Ao29 t461.length co29, .slice Ao30 t464.length co30] 26 (0, 0)) d5 hb); have n6_ := Aside0.mk (blk_below (g := gb478) (o := .cells #[.int .i64 t469, .int .i64 t470, .slice Ao35 t471.length co35, .slice Ao36 t474.length co36] 26 (0, 0)) d7 hb); have n7_ := Aside0.mk (blk_below (g := gb484) (o := .cells #[.int .i64 t479, .int .i64 t480, .int .i64 t481, .int .i64 t482] 43 (0, 0)) d8 hb); have n8_ := Aside0.mk (below_step d49 hb); have n9_ := Aside0.mk (hbox); have n10_ := Aside0.mk ((by rw [hg]; exact (below_size d49) : w.heap.size ≤ gb492)); have n11_ := Aside0.mk ((by rw [hg]; exact (below_size d49) : w.heap.size ≤ gb492)); have n12_ := Aside0.mk ((by rw [hg]; exact Nat.ne_of_lt (blk_lt (g := gb468) (o := .cells #[.int .i64 t459, .int .i64 t460, .slice Ao29 t461.length co29, .slice Ao30 t464.length co30] 26 (0, 0)) d5) : gb468 ≠ gb492)); have n13_ := Aside0.mk ((by rw [hg]; exact Nat.ne_of_gt (blk_lt (g := gb468) (o := .cells #[.int .i64 t459, .int .i64 t460, .slice Ao29 t461.length co29, .slice Ao30 t464.length co30] 26 (0, 0)) d5) : gb492 ≠ gb468)); have n14_ := Aside0.mk ((by rw [hg]; exact Nat.ne_of_lt (blk_lt (g := gb478) (o := .cells #[.int .i64 t469, .int .i64 t470, .slice Ao35 t471.length co35, .slice Ao36 t474.length co36] 26 (0, 0)) d7) : gb478 ≠ gb492)); have n15_ := Aside0.mk ((by rw [hg]; exact Nat.ne_of_gt (blk_lt (g := gb478) (o := .cells #[.int .i64 t469, .int .i64 t470, .slice Ao35 t471.length co35, .slice Ao36 t474.length co36] 26 (0, 0)) d7) : gb492 ≠ gb478)); have n16_ := Aside0.mk ((by rw [hg]; exact Nat.ne_of_lt (blk_lt (g := gb484) (o := .cells #[.int .i64 t479, .int .i64 t480, .int .i64 t481, .int .i64 t482] 43 (0, 0)) d8) : gb484 ≠ gb492)); have n17_ := Aside0.mk ((by rw [hg]; exact Nat.ne_of_gt (blk_lt (g := gb484) (o := .cells #[.int .i64 t479, .int .i64 t480, .int .i64 t481, .int .i64 t482] 43 (0, 0)) d8) : gb492 ≠ gb484)); clear HO458; clear HO463; clear HO466; clear HO473; clear HO476; clear BK468; clear BK478; clear BK484; clear HB; have HO458 := n0_; have HO463 := n1_; have HO466 := n2_; have HO473 := n3_; have HO476 := n4_; have BK468 := n5_; have BK478 := n6_; have BK484 := n7_; have HB := n8_; have BK492 := n9_; have GW492 := n10_; have GE492 := n11_; have NB468_492 := n12_; have NB492_468 := n13_; have NB478_492 := n14_; have NB492_478 := n15_; have NB484_492 := n16_; have NB492_484 := n17_; clear n0_ n1_ n2_ n3_ n4_ n5_ n6_ n7_ n8_ n9_ n10_ n11_ n12_ n13_ n14_ n15_ n16_ n17_; clear hb hbox hg; have hnb45 := NB492_468.out; have hnc45 := NB468_492.out; have hnb46 := NB492_478.out; have hnc46 := NB478_492.out; have hnb47 := NB492_484.out; have hnc47 := NB484_492.out; have hcz48_0 : w44.cell? ⟨gb492, 0, none⟩ = some (.int .i64 0) := (blk_cell BK492.out 0).trans rfl; have hcz48_1 : w44.cell? ⟨gb492, 1, none⟩ = some (.int .i64 0) := (blk_cell BK492.out 1).trans rfl; have hcz48_2 : w44.cell? ⟨gb492, 2, none⟩ = some (.int .i64 0) := (blk_cell BK492.out 2).trans rfl; have hcz48_3 : w44.cell? ⟨gb492, 3, none⟩ = some (.int .i64 0) := (blk_cell BK492.out 3).trans rfl; have hfz48_0 := blk_frozen BK492.out 0; have hfz48_1 := blk_frozen BK492.out 1; have hfz48_2 := blk_frozen BK492.out 2; have hfz48_3 := blk_frozen BK492.out 3) | ((with_reducible refine gate_callee (f := 8) rfl ?_); refine goesL_ (some 57) rfl rfl Tryd.func8 (by kernel_rfl) rfl #[.slice Ao25 t455.length co25, .int .i64 t456] rfl d0 ?_; (with_reducible refine (spec_Gathered.calls k _ _ t455 t456 t493 t494 t495 t498 t501 _ ?side1 ?side2 A11.out).mono ?_); (case side1 => exact (by refine (Kd.R_reads' (e := 43) (base := w.heap.size) (ok := fun k_ => ((True ∧ k_ ≠ gb484) ∧ k_ ≠ gb492)) (n := t455.length) (c := co25) ?_).2.2; exact (by (with_reducible repeat (first | apply Kd.R_alloc | apply Kd.R_drewN | apply Kd.R_drew)); exact (Kd.R_mono (Kd.R_far (p := ⟨gb492, 3, none⟩) (Kd.R_far (p := ⟨gb492, 2, none⟩) (Kd.R_far (p := ⟨gb492, 1, none⟩) (Kd.R_far (p := ⟨gb492, 0, none⟩) (Kd.R_mono HO458.out (fun k_ hk => (⟨hk, hk.2⟩ : _ ∧ k_ ≠ gb492))) (fun _ hk => hk.2) (.int .i64 t488)) (fun _ hk => hk.2) (.int .i64 t489)) (fun _ hk => hk.2) (.int .i64 t490)) (fun _ hk => hk.2) (.int .i64 t491)) (fun _ h_ => h_.1))))); (case side2 => exact (Kd.R_reads' HO458.out).2.1); rintro e w49 ⟨v496, v499, rfl, ho0, ho1, hb⟩; refine ⟨_, rfl, ?_⟩; have n0_ := Aside0.mk (Kd.R_below (by (with_reducible repeat (first | apply Kd.R_alloc | apply Kd.R_drewN | apply Kd.R_drew)); exact (Kd.R_mono (Kd.R_far (p := ⟨gb492, 3, none⟩) (Kd.R_far (p := ⟨gb492, 2, none⟩) (Kd.R_far (p := ⟨gb492, 1, none⟩) (Kd.R_far (p := ⟨gb492, 0, none⟩) (Kd.R_mono HO458.out (fun k_ hk => (⟨hk, hk.2⟩ : _ ∧ k_ ≠ gb492))) (fun _ hk => hk.2) (.int .i64 t488)) (fun _ hk => hk.2) (.int .i64 t489)) (fun _ hk => hk.2) (.int .i64 t490)) (fun _ hk => hk.2) (.int .i64 t491)) (fun _ h_ => h_.1))) hb); have n1_ := Aside0.mk (Kd.R_mono (Kd.R_told (Kd.R_told (Kd.R_old d61 hb) (Kd.R_base ho0)) (Kd.R_base ho1)) (fun _ h_ => h_.1)); have n2_ := Aside0.mk (Kd.R_mono (Kd.R_told (Kd.R_told (Kd.R_old d62 hb) (Kd.R_base ho0)) (Kd.R_base ho1)) (fun _ h_ => h_.1)); have n3_ := Aside0.mk (Kd.Q_mono (Kd.Q_told (Kd.Q_told (Kd.Q_old d63 hb) (Kd.R_base ho0)) (Kd.R_base ho1)) (fun _ h_ => h_.1)); have n4_ := Aside0.mk (Kd.R_mono (Kd.R_told (Kd.R_told (Kd.R_old d64 hb) (Kd.R_base ho0)) (Kd.R_base ho1)) (fun _ h_ => h_.1)); have n5_ := Aside0.mk (Kd.R_lower (Kd.R_new' (Kd.R_new' (Kd.R_new' (Kd.R_new' ho0 (Kd.R_lt d61)) (Kd.R_lt d62)) (Kd.Q_lt d63)) (Kd.R_lt d64)) (below_size d42)); have n6_ := Aside0.mk (Kd.R_lower (Kd.R_new' (Kd.R_new' (Kd.R_new' (Kd.R_new' ho1 (Kd.R_lt d61)) (Kd.R_lt d62)) (Kd.Q_lt d63)) (Kd.R_lt d64)) (below_size d42)); have n7_ := Aside0.mk (blk_below (g := gb468) (o := .cells #[.int .i64 t459, .int .i64 t460, .slice Ao29 t461.length co29, .slice Ao30 t464.length co30] 26 (0, 0)) (by (with_reducible repeat (first | refine blk_drewN ?_ _ | refine blk_drew ?_ | refine blk_alloc ?_ _)); refine blk_far ?_ NB468_492.out _; (with_reducible repeat (first | refine blk_drewN ?_ _ | refine blk_drew ?_ | refine blk_alloc ?_ _)); refine blk_far ?_ NB468_492.out _; (with_reducible repeat (first | refine blk_drewN ?_ _ | refine blk_drew ?_ | refine blk_alloc ?_ _)); refine blk_far ?_ NB468_492.out _; (with_reducible repeat (first | refine blk_drewN ?_ _ | refine blk_drew ?_ | refine blk_alloc ?_ _)); refine blk_far ?_ NB468_492.out _; (with_reducible repeat (first | refine blk_drewN ?_ _ | refine blk_drew ?_ | refine blk_alloc ?_ _)); exact BK468.out) hb); have n8_ := Aside0.mk (blk_below (g := gb478) (o := .cells #[.int .i64 t469, .int .i64 t470, .slice Ao35 t471.length co35, .slice Ao36 t474.length co36] 26 (0, 0)) (by (with_reducible repeat (first | refine blk_drewN ?_ _ | refine blk_drew ?_ | refine blk_alloc ?_ _)); refine blk_far ?_ NB478_492.out _; (with_reducible repeat (first | refine blk_drewN ?_ _ | refine blk_drew ?_ | refine blk_alloc ?_ _)); refine blk_far ?_ NB478_492.out _; (with_reducible repeat (first | refine blk_drewN ?_ _ | refine blk_drew ?_ | refine blk_alloc ?_ _)); refine blk_far ?_ NB478_492.out _; (with_reducible repeat (first | refine blk_drewN ?_ _ | refine blk_drew ?_ | refine blk_alloc ?_ _)); refine blk_far ?_ NB478_492.out _; (with_reducible repeat (first | refine blk_drewN ?_ _ | refine blk_drew ?_ | refine blk_alloc ?_ _)); exact BK478.out) hb); have n9_ := Aside0.mk (blk_below (g := gb484) (o := .cells #[.int .i64 t479, .int .i64 t480, .int .i64 t481, .int .i64 t482] 43 (0, 0)) (by (with_reducible repeat (first | refine blk_drewN ?_ _ | refine blk_drew ?_ | refine blk_alloc ?_ _)); refine blk_far ?_ NB484_492.out _; (with_reducible repeat (first | refine blk_drewN ?_ _ | refine blk_drew ?_ | refine blk_alloc ?_ _)); refine blk_far ?_ NB484_492.out _; (with_reducible repeat (first | refine blk_drewN ?_ _ | refine blk_drew ?_ | refine blk_alloc ?_ _)); refine blk_far ?_ NB484_492.out _; (with_reducible repeat (first | refine blk_drewN ?_ _ | refine blk_drew ?_ | refine blk_alloc ?_ _)); refine blk_far ?_ NB484_492.out _; (with_reducible repeat (first | refine blk_drewN ?_ _ | refine blk_drew ?_ | refine blk_alloc ?_ _)); exact BK484.out) hb); have n10_ := Aside0.mk (blk_below (g := gb492) (o := .cells #[.int .i64 t488, .int .i64 t489, .int .i64 t490, .int .i64 t491] 43 (0, 0)) (by (with_reducible repeat (first | refine blk_drewN ?_ _ | refine blk_drew ?_ | refine blk_alloc ?_ _)); refine blk_put (cs := #[.int .i64 t488, .int .i64 t489, .int .i64 t490, .int .i64 0]) ?_ 3 _ rfl; (with_reducible repeat (first | refine blk_drewN ?_ _ | refine blk_drew ?_ | refine blk_alloc ?_ _)); refine blk_put (cs := #[.int .i64 t488, .int .i64 t489, .int .i64 0, .int .i64 0]) ?_ 2 _ rfl; (with_reducible repeat (first | refine blk_drewN ?_ _ | refine blk_drew ?_ | refine blk_alloc ?_ _)); refine blk_put (cs := #[.int .i64 t488, .int .i64 0, .int .i64 0, .int .i64 0]) ?_ 1 _ rfl; (with_reducible repeat (first | refine blk_drewN ?_ _ | refine blk_drew ?_ | refine blk_alloc ?_ _)); refine blk_put (cs := #[.int .i64 0, .int .i64 0, .int .i64 0, .int .i64 0]) ?_ 0 _ rfl; (with_reducible repeat (first | refine blk_drewN ?_ _ | refine blk_drew ?_ | refine blk_alloc ?_ _)); exact BK492.out) hb); have n11_ := Aside0.mk (below_step d42 hb); clear HO458; clear HO463; clear HO466; clear HO473; clear HO476; clear BK468; clear BK478; clear BK484; clear BK492; clear HB; have HO458 := n0_; have HO463 := n1_; have HO466 := n2_; have HO473 := n3_; have HO476 := n4_; have HO497 := n5_; have HO500 := n6_; have BK468 := n7_; have BK478 := n8_; have BK484 := n9_; have BK492 := n10_; have HB := n11_; clear n0_ n1_ n2_ n3_ n4_ n5_ n6_ n7_ n8_ n9_ n10_ n11_; (try clear hb); (try clear hb2); (try clear hk); (try clear hi); (try clear ho0); (try clear ho1)) | ((with_reducible refine gate_dst (N := 15) rfl ?_); (try (refine gate_guard (by rfl) ?_; dsimp only)); refine box_event ?hg (N := 15) ?hd (cs := #[.int .i64 0, .int .i64 0, .slice none 0 0, .slice none 0 0]) (t := 26) ?hr ?_; (case hd => rfl); (case hg => rfl); (case hr => first | (go_simp; done) | (go_simp; rfl)); intro gb502 hg w50 hbox hb; have n0_ := Aside0.mk (Kd.R_below d41 hb); have n1_ := Aside0.mk (Kd.R_below d36 hb); have n2_ := Aside0.mk (Kd.R_below d45 hb); have n3_ := Aside0.mk (Kd.Q_below d47 hb); have n4_ := Aside0.mk (Kd.R_below d48 hb); have n5_ := Aside0.mk (Kd.R_below d53 hb); have n6_ := Aside0.mk (Kd.R_below d76 hb); have n7_ := Aside0.mk (blk_below (g := gb468) (o := .cells #[.int .i64 t459, .int .i64 t460, .slice Ao29 t461.length co29, .slice Ao30 t464.length co30] 26 (0, 0)) d5 hb); have n8_ := Aside0.mk (blk_below (g := gb478) (o := .cells #[.int .i64 t469, .int .i64 t470, .slice Ao35 t471.length co35, .slice Ao36 t474.length co36] 26 (0, 0)) d7 hb); have n9_ := Aside0.mk (blk_below (g := gb484) (o := .cells #[.int .i64 t479, .int .i64 t480, .int .i64 t481, .int .i64 t482] 43 (0, 0)) d8 hb); have n10_ := Aside0.mk (blk_below (g := gb492) (o := .cells #[.int .i64 t488, .int .i64 t489, .int .i64 t490, .int .i64 t491] 43 (0, 0)) d10 hb); have n11_ := Aside0.mk (below_step d42 hb); have n12_ := Aside0.mk (hbox); have n13_ := Aside0.mk ((by rw [hg]; exact (below_size d42) : w.heap.size ≤ gb502)); have n14_ := Aside0.mk ((by rw [hg]; exact (below_size d42) : w.heap.size ≤ gb502)); have n15_ := Aside0.mk ((by rw [hg]; exact Nat.ne_of_lt (blk_lt (g := gb468) (o := .cells #[.int .i64 t459, .int .i64 t460, .slice Ao29 t461.length co29, .slice Ao30 t464.length co30] 26 (0, 0)) d5) : gb468 ≠ gb502)); have n16_ := Aside0.mk ((by rw [hg]; exact Nat.ne_of_gt (blk_lt (g := gb468) (o := .cells #[.int .i64 t459, .int .i64 t460, .slice Ao29 t461.length co29, .slice Ao30 t464.length co30] 26 (0, 0)) d5) : gb502 ≠ gb468)); have n17_ := Aside0.mk ((by rw [hg]; exact Nat.ne_of_lt (blk_lt (g := gb478) (o := .cells #[.int .i64 t469, .int .i64 t470, .slice Ao35 t471.length co35, .slice Ao36 t474.length co36] 26 (0, 0)) d7) : gb478 ≠ gb502)); have n18_ := Aside0.mk ((by rw [hg]; exact Nat.ne_of_gt (blk_lt (g := gb478) (o := .cells #[.int .i64 t469, .int .i64 t470, .slice Ao35 t471.length co35, .slice Ao36 t474.length co36] 26 (0, 0)) d7) : gb502 ≠ gb478)); have n19_ := Aside0.mk ((by rw [hg]; exact Nat.ne_of_lt (blk_lt (g := gb484) (o := .cells #[.int .i64 t479, .int .i64 t480, .int .i64 t481, .int .i64 t482] 43 (0, 0)) d8) : gb484 ≠ gb502)); have n20_ := Aside0.mk ((by rw [hg]; exact Nat.ne_of_gt (blk_lt (g := gb484) (o := .cells #[.int .i64 t479, .int .i64 t480, .int .i64 t481, .int .i64 t482] 43 (0, 0)) d8) : gb502 ≠ gb484)); have n21_ := Aside0.mk ((by rw [hg]; exact Nat.ne_of_lt (blk_lt (g := gb492) (o := .cells #[.int .i64 t488, .int .i64 t489, .int .i64 t490, .int .i64 t491] 43 (0, 0)) d10) : gb492 ≠ gb502)); have n22_ := Aside0.mk ((by rw [hg]; exact Nat.ne_of_gt (blk_lt (g := gb492) (o := .cells #[.int .i64 t488, .int .i64 t489, .int .i64 t490, .int .i64 t491] 43 (0, 0)) d10) : gb502 ≠ gb492)); clear HO458; clear HO463; clear HO466; clear HO473; clear HO476; clear HO497; clear HO500; clear BK468; clear BK478; clear BK484; clear BK492; clear HB; have HO458 := n0_; have HO463 := n1_; have HO466 := n2_; have HO473 := n3_; have HO476 := n4_; have HO497 := n5_; have HO500 := n6_; have BK468 := n7_; have BK478 := n8_; have BK484 := n9_; have BK492 := n10_; have HB := n11_; have BK502 := n12_; have GW502 := n13_; have GE502 := n14_; have NB468_502 := n15_; have NB502_468 := n16_; have NB478_502 := n17_; have NB502_478 := n18_; have NB484_502 := n19_; have NB502_484 := n20_; have NB492_502 := n21_; have NB502_492 := n22_; clear n0_ n1_ n2_ n3_ n4_ n5_ n6_ n7_ n8_ n9_ n10_ n11_ n12_ n13_ n14_ n15_ n16_ n17_ n18_ n19_ n20_ n21_ n22_; clear hb hbox hg; have hnb51 := NB502_468.out; have hnc51 := NB468_502.out; have hnb52 := NB502_478.out; have hnc52 := NB478_502.out; have hnb53 := NB502_484.out; have hnc53 := NB484_502.out; have hnb54 := NB502_492.out; have hnc54 := NB492_502.out; have hcz55_0 : w50.cell? ⟨gb502, 0, none⟩ = some (.int .i64 0) := (blk_cell BK502.out 0).trans rfl; have hcz55_1 : w50.cell? ⟨gb502, 1, none⟩ = some (.int .i64 0) := (blk_cell BK502.out 1).trans rfl; have hcz55_2 : w50.cell? ⟨gb502, 2, none⟩ = some (.slice none 0 0) := (blk_cell BK502.out 2).trans rfl; have hcz55_3 : w50.cell? ⟨gb502, 3, none⟩ = some (.slice none 0 0) := (blk_cell BK502.out 3).trans rfl; have hfz55_0 := blk_frozen BK502.out 0; have hfz55_1 := blk_frozen BK502.out 1; have hfz55_2 := blk_frozen BK502.out 2; have hfz55_3 := blk_frozen BK502.out 3; obtain ⟨Ao56, co56, eo56⟩ := Kd.R_slice HO497.out; subst eo56; obtain ⟨Ao57, co57, eo57⟩ := Kd.R_slice HO500.out; subst eo57))
       have n0_ : Aside0 (Kd.R k43 43 ((((w50.setCell ⟨gb502, 0, none⟩ (.int .i64 t493)).setCell ⟨gb502, 1, none⟩ (.int .i64 t494)).setCell ⟨gb502, 2, none⟩ (.slice Ao56 t495.length co56)).setCell ⟨gb502, 3, none⟩ (.slice Ao57 t498.length co57)) w.heap.size (fun k_ => k_ ≠ gb484 ∧ k_ ≠ gb492) (.slice Ao25 t455.length co25) t455) := ⟨(by (with_reducible repeat (first | apply Kd.R_alloc | apply Kd.R_drewN | apply Kd.R_drew)); exact Kd.R_mono (Kd.R_far (p := ⟨gb502, 3, none⟩) (Kd.R_far (p := ⟨gb502, 2, none⟩) (Kd.R_far (p := ⟨gb502, 1, none⟩) (Kd.R_far (p := ⟨gb502, 0, none⟩) (Kd.R_types HO458.out BK502.out (by decide)) (fun _ hk => hk.2) (.int .i64 t493)) (fun _ hk => hk.2) (.int .i64 t494)) (fun _ hk => hk.2) (.slice Ao56 t495.length co56)) (fun _ hk => hk.2) (.slice Ao57 t498.length co57)) (fun _ hk => And.intro hk.1.1.2 hk.1.2))⟩
       have n1_ : Aside0 (Kd.R (Kd.int .i64) 2 ((((w50.setCell ⟨gb502, 0, none⟩ (.int .i64 t493)).setCell ⟨gb502, 1, none⟩ (.int .i64 t494)).setCell ⟨gb502, 2, none⟩ (.slice Ao56 t495.length co56)).setCell ⟨gb502, 3, none⟩ (.slice Ao57 t498.length co57)) w.heap.size (fun k_ => some k_ ≠ (.slice Ao30 t464.length co30 : Value).ownBlock ∧ some k_ ≠ (.slice Ao35 t471.length co35 : Value).ownBlock ∧ some k_ ≠ (.slice Ao36 t474.length co36 : Value).ownBlock ∧ some k_ ≠ (.slice Ao56 t495.length co56 : Value).ownBlock ∧ some k_ ≠ (.slice Ao57 t498.length co57 : Value).ownBlock) (.slice Ao29 t461.length co29) t461) := ⟨(by (with_reducible repeat (first | apply Kd.R_alloc | apply Kd.R_drewN | apply Kd.R_drew)); exact Kd.R_mono (Kd.R_far (p := ⟨gb502, 3, none⟩) (Kd.R_far (p := ⟨gb502, 2, none⟩) (Kd.R_far (p := ⟨gb502, 1, none⟩) (Kd.R_far (p := ⟨gb502, 0, none⟩) (Kd.R_types HO463.out BK502.out (by decide)) (fun _ hk => hk.2) (.int .i64 t493)) (fun _ hk => hk.2) (.int .i64 t494)) (fun _ hk => hk.2) (.slice Ao56 t495.length co56)) (fun _ hk => hk.2) (.slice Ao57 t498.length co57)) (fun _ hk => ⟨hk.1.1.1.1.1, ⟨hk.1.1.1.1.2, ⟨hk.1.1.1.2, ⟨hk.1.1.2, hk.1.2⟩⟩⟩⟩))⟩
       have n2_ : Aside0 (Kd.R (Kd.int .i64) 2 ((((w50.setCell ⟨gb502, 0, none⟩ (.int .i64 t493)).setCell ⟨gb502, 1, none⟩ (.int .i64 t494)).setCell ⟨gb502, 2, none⟩ (.slice Ao56 t495.length co56)).setCell ⟨gb502, 3, none⟩ (.slice Ao57 t498.length co57)) w.heap.size (fun k_ => some k_ ≠ (.slice Ao29 t461.length co29 : Value).ownBlock ∧ some k_ ≠ (.slice Ao35 t471.length co35 : Value).ownBlock ∧ some k_ ≠ (.slice Ao36 t474.length co36 : Value).ownBlock ∧ some k_ ≠ (.slice Ao56 t495.length co56 : Value).ownBlock ∧ some k_ ≠ (.slice Ao57 t498.length co57 : Value).ownBlock) (.slice Ao30 t464.length co30) t464) := ⟨(by (with_reducible repeat (first | apply Kd.R_alloc | apply Kd.R_drewN | apply Kd.R_drew)); exact Kd.R_mono (Kd.R_far (p := ⟨gb502, 3, none⟩) (Kd.R_far (p := ⟨gb502, 2, none⟩) (Kd.R_far (p := ⟨gb502, 1, none⟩) (Kd.R_far (p := ⟨gb502, 0, none⟩) (Kd.R_types HO466.out BK502.out (by decide)) (fun _ hk => hk.2) (.int .i64 t493)) (fun _ hk => hk.2) (.int .i64 t494)) (fun _ hk => hk.2) (.slice Ao56 t495.length co56)) (fun _ hk => hk.2) (.slice Ao57 t498.length co57)) (fun _ hk => ⟨hk.1.1.1.1.1, ⟨hk.1.1.1.1.2, ⟨hk.1.1.1.2, ⟨hk.1.1.2, hk.1.2⟩⟩⟩⟩))⟩
       have n3_ : Aside0 (Kd.Q (Kd.int .i64) 2 ((((w50.setCell ⟨gb502, 0, none⟩ (.int .i64 t493)).setCell ⟨gb502, 1, none⟩ (.int .i64 t494)).setCell ⟨gb502, 2, none⟩ (.slice Ao56 t495.length co56)).setCell ⟨gb502, 3, none⟩ (.slice Ao57 t498.length co57)) w.heap.size (fun k_ => some k_ ≠ (.slice Ao29 t461.length co29 : Value).ownBlock ∧ some k_ ≠ (.slice Ao30 t464.length co30 : Value).ownBlock ∧ some k_ ≠ (.slice Ao36 t474.length co36 : Value).ownBlock ∧ some k_ ≠ (.slice Ao56 t495.length co56 : Value).ownBlock ∧ some k_ ≠ (.slice Ao57 t498.length co57 : Value).ownBlock) (.slice Ao35 t471.length co35) t471) := ⟨(by (with_reducible repeat (first | apply Kd.Q_alloc | apply Kd.Q_drewN | apply Kd.Q_drew)); exact Kd.Q_mono (Kd.Q_far (p := ⟨gb502, 3, none⟩) (Kd.Q_far (p := ⟨gb502, 2, none⟩) (Kd.Q_far (p := ⟨gb502, 1, none⟩) (Kd.Q_far (p := ⟨gb502, 0, none⟩) (Kd.Q_types HO473.out BK502.out (by decide)) (fun _ hk => hk.2) (.int .i64 t493)) (fun _ hk => hk.2) (.int .i64 t494)) (fun _ hk => hk.2) (.slice Ao56 t495.length co56)) (fun _ hk => hk.2) (.slice Ao57 t498.length co57)) (fun _ hk => ⟨hk.1.1.1.1.2, ⟨hk.1.1.1.2, ⟨hk.1.1.1.1.1, ⟨hk.1.1.2, hk.1.2⟩⟩⟩⟩))⟩
       have n4_ : Aside0 (Kd.R (Kd.int .i64) 2 ((((w50.setCell ⟨gb502, 0, none⟩ (.int .i64 t493)).setCell ⟨gb502, 1, none⟩ (.int .i64 t494)).setCell ⟨gb502, 2, none⟩ (.slice Ao56 t495.length co56)).setCell ⟨gb502, 3, none⟩ (.slice Ao57 t498.length co57)) w.heap.size (fun k_ => some k_ ≠ (.slice Ao29 t461.length co29 : Value).ownBlock ∧ some k_ ≠ (.slice Ao30 t464.length co30 : Value).ownBlock ∧ some k_ ≠ (.slice Ao35 t471.length co35 : Value).ownBlock ∧ some k_ ≠ (.slice Ao56 t495.length co56 : Value).ownBlock ∧ some k_ ≠ (.slice Ao57 t498.length co57 : Value).ownBlock) (.slice Ao36 t474.length co36) t474) := ⟨(by (with_reducible repeat (first | apply Kd.R_alloc | apply Kd.R_drewN | apply Kd.R_drew)); exact Kd.R_mono (Kd.R_far (p := ⟨gb502, 3, none⟩) (Kd.R_far (p := ⟨gb502, 2, none⟩) (Kd.R_far (p := ⟨gb502, 1, none⟩) (Kd.R_far (p := ⟨gb502, 0, none⟩) (Kd.R_types HO476.out BK502.out (by decide)) (fun _ hk => hk.2) (.int .i64 t493)) (fun _ hk => hk.2) (.int .i64 t494)) (fun _ hk => hk.2) (.slice Ao56 t495.length co56)) (fun _ hk => hk.2) (.slice Ao57 t498.length co57)) (fun _ hk => ⟨hk.1.1.1.1.2, ⟨hk.1.1.1.2, ⟨hk.1.1.1.1.1, ⟨hk.1.1.2, hk.1.2⟩⟩⟩⟩))⟩
       have n5_ : Aside0 (Kd.R (Kd.int .i64) 2 ((((w50.setCell ⟨gb502, 0, none⟩ (.int .i64 t493)).setCell ⟨gb502, 1, none⟩ (.int .i64 t494)).setCell ⟨gb502, 2, none⟩ (.slice Ao56 t495.length co56)).setCell ⟨gb502, 3, none⟩ (.slice Ao57 t498.length co57)) w.heap.size (fun k_ => some k_ ≠ (.slice Ao29 t461.length co29 : Value).ownBlock ∧ some k_ ≠ (.slice Ao30 t464.length co30 : Value).ownBlock ∧ some k_ ≠ (.slice Ao35 t471.length co35 : Value).ownBlock ∧ some k_ ≠ (.slice Ao36 t474.length co36 : Value).ownBlock ∧ some k_ ≠ (.slice Ao57 t498.length co57 : Value).ownBlock) (.slice Ao56 t495.length co56) t495) := ⟨(by (with_reducible repeat (first | apply Kd.R_alloc | apply Kd.R_drewN | apply Kd.R_drew)); exact Kd.R_mono (Kd.R_far (p := ⟨gb502, 3, none⟩) (Kd.R_far (p := ⟨gb502, 2, none⟩) (Kd.R_far (p := ⟨gb502, 1, none⟩) (Kd.R_far (p := ⟨gb502, 0, none⟩) (Kd.R_types HO497.out BK502.out (by decide)) (fun _ hk => hk.2) (.int .i64 t493)) (fun _ hk => hk.2) (.int .i64 t494)) (fun _ hk => hk.2) (.slice Ao56 t495.length co56)) (fun _ hk => hk.2) (.slice Ao57 t498.length co57)) (fun _ hk => ⟨hk.1.1.1.1.2, ⟨hk.1.1.1.2, ⟨hk.1.1.2, ⟨hk.1.2, hk.1.1.1.1.1⟩⟩⟩⟩))⟩
       have n6_ : Aside0 (Kd.R (Kd.int .i64) 2 ((((w50.setCell ⟨gb502, 0, none⟩ (.int .i64 t493)).setCell ⟨gb502, 1, none⟩ (.int .i64 t494)).setCell ⟨gb502, 2, none⟩ (.slice Ao56 t495.length co56)).setCell ⟨gb502, 3, none⟩ (.slice Ao57 t498.length co57)) w.heap.size (fun k_ => some k_ ≠ (.slice Ao29 t461.length co29 : Value).ownBlock ∧ some k_ ≠ (.slice Ao30 t464.length co30 : Value).ownBlock ∧ some k_ ≠ (.slice Ao35 t471.length co35 : Value).ownBlock ∧ some k_ ≠ (.slice Ao36 t474.length co36 : Value).ownBlock ∧ some k_ ≠ (.slice Ao56 t495.length co56 : Value).ownBlock) (.slice Ao57 t498.length co57) t498) := ⟨(by (with_reducible repeat (first | apply Kd.R_alloc | apply Kd.R_drewN | apply Kd.R_drew)); exact Kd.R_mono (Kd.R_far (p := ⟨gb502, 3, none⟩) (Kd.R_far (p := ⟨gb502, 2, none⟩) (Kd.R_far (p := ⟨gb502, 1, none⟩) (Kd.R_far (p := ⟨gb502, 0, none⟩) (Kd.R_types HO500.out BK502.out (by decide)) (fun _ hk => hk.2) (.int .i64 t493)) (fun _ hk => hk.2) (.int .i64 t494)) (fun _ hk => hk.2) (.slice Ao56 t495.length co56)) (fun _ hk => hk.2) (.slice Ao57 t498.length co57)) (fun _ hk => ⟨hk.1.1.1.1.2, ⟨hk.1.1.1.2, ⟨hk.1.1.2, ⟨hk.1.2, hk.1.1.1.1.1⟩⟩⟩⟩))⟩
       have n7_ : Aside0 (((((w50.setCell ⟨gb502, 0, none⟩ (.int .i64 t493)).setCell ⟨gb502, 1, none⟩ (.int .i64 t494)).setCell ⟨gb502, 2, none⟩ (.slice Ao56 t495.length co56)).setCell ⟨gb502, 3, none⟩ (.slice Ao57 t498.length co57)).heap[gb468]? = some (.cells #[.int .i64 t459, .int .i64 t460, .slice Ao29 t461.length co29, .slice Ao30 t464.length co30] 26 (0, 0))) := ⟨(by (with_reducible repeat (first | refine blk_drewN ?_ _ | refine blk_drew ?_ | refine blk_alloc ?_ _)); refine blk_far ?_ NB468_502.out _; (with_reducible repeat (first | refine blk_drewN ?_ _ | refine blk_drew ?_ | refine blk_alloc ?_ _)); refine blk_far ?_ NB468_502.out _; (with_reducible repeat (first | refine blk_drewN ?_ _ | refine blk_drew ?_ | refine blk_alloc ?_ _)); refine blk_far ?_ NB468_502.out _; (with_reducible repeat (first | refine blk_drewN ?_ _ | refine blk_drew ?_ | refine blk_alloc ?_ _)); refine blk_far ?_ NB468_502.out _; (with_reducible repeat (first | refine blk_drewN ?_ _ | refine blk_drew ?_ | refine blk_alloc ?_ _)); exact BK468.out)⟩
       have n8_ : Aside0 (((((w50.setCell ⟨gb502, 0, none⟩ (.int .i64 t493)).setCell ⟨gb502, 1, none⟩ (.int .i64 t494)).setCell ⟨gb502, 2, none⟩ (.slice Ao56 t495.length co56)).setCell ⟨gb502, 3, none⟩ (.slice Ao57 t498.length co57)).heap[gb478]? = some (.cells #[.int .i64 t469, .int .i64 t470, .slice Ao35 t471.length co35, .slice Ao36 t474.length co36] 26 (0, 0))) := ⟨(by (with_reducible repeat (first | refine blk_drewN ?_ _ | refine blk_drew ?_ | refine blk_alloc ?_ _)); refine blk_far ?_ NB478_502.out _; (with_reducible repeat (first | refine blk_drewN ?_ _ | refine blk_drew ?_ | refine blk_alloc ?_ _)); refine blk_far ?_ NB478_502.out _; (with_reducible repeat (first | refine blk_drewN ?_ _ | refine blk_drew ?_ | refine blk_alloc ?_ _)); refine blk_far ?_ NB478_502.out _; (with_reducible repeat (first | refine blk_drewN ?_ _ | refine blk_drew ?_ | refine blk_alloc ?_ _)); refine blk_far ?_ NB478_502.out _; (with_reducible repeat (first | refine blk_drewN ?_ _ | refine blk_drew ?_ | refine blk_alloc ?_ _)); exact BK478.out)⟩
       have n9_ : Aside0 (((((w50.setCell ⟨gb502, 0, none⟩ (.int .i64 t493)).setCell ⟨gb502, 1, none⟩ (.int .i64 t494)).setCell ⟨gb502, 2, none⟩ (.slice Ao56 t495.length co56)).setCell ⟨gb502, 3, none⟩ (.slice Ao57 t498.length co57)).heap[gb484]? = some (.cells #[.int .i64 t479, .int .i64 t480, .int .i64 t481, .int .i64 t482] 43 (0, 0))) := ⟨(by (with_reducible repeat (first | refine blk_drewN ?_ _ | refine blk_drew ?_ | refine blk_alloc ?_ _)); refine blk_far ?_ NB484_502.out _; (with_reducible repeat (first | refine blk_drewN ?_ _ | refine blk_drew ?_ | refine blk_alloc ?_ _)); refine blk_far ?_ NB484_502.out _; (with_reducible repeat (first | refine blk_drewN ?_ _ | refine blk_drew ?_ | refine blk_alloc ?_ _)); refine blk_far ?_ NB484_502.out _; (with_reducible repeat (first | refine blk_drewN ?_ _ | refine blk_drew ?_ | refine blk_alloc ?_ _)); refine blk_far ?_ NB484_502.out _; (with_reducible repeat (first | refine blk_drewN ?_ _ | refine blk_drew ?_ | refine blk_alloc ?_ _)); exact BK484.out)⟩
       have n10_ : Aside0 (((((w50.setCell ⟨gb502, 0, none⟩ (.int .i64 t493)).setCell ⟨gb502, 1, none⟩ (.int .i64 t494)).setCell ⟨gb502, 2, none⟩ (.slice Ao56 t495.length co56)).setCell ⟨gb502, 3, none⟩ (.slice Ao57 t498.length co57)).heap[gb492]? = some (.cells #[.int .i64 t488, .int .i64 t489, .int .i64 t490, .int .i64 t491] 43 (0, 0))) := ⟨(by (with_reducible repeat (first | refine blk_drewN ?_ _ | refine blk_drew ?_ | refine blk_alloc ?_ _)); refine blk_far ?_ NB492_502.out _; (with_reducible repeat (first | refine blk_drewN ?_ _ | refine blk_drew ?_ | refine blk_alloc ?_ _)); refine blk_far ?_ NB492_502.out _; (with_reducible repeat (first | refine blk_drewN ?_ _ | refine blk_drew ?_ | refine blk_alloc ?_ _)); refine blk_far ?_ NB492_502.out _; (with_reducible repeat (first | refine blk_drewN ?_ _ | refine blk_drew ?_ | refine blk_alloc ?_ _)); refine blk_far ?_ NB492_502.out _; (with_reducible repeat (first | refine blk_drewN ?_ _ | refine blk_drew ?_ | refine blk_alloc ?_ _)); exact BK492.out)⟩
       have n11_ : Aside0 (((((w50.setCell ⟨gb502, 0, none⟩ (.int .i64 t493)).setCell ⟨gb502, 1, none⟩ (.int .i64 t494)).setCell ⟨gb502, 2, none⟩ (.slice Ao56 t495.length co56)).setCell ⟨gb502, 3, none⟩ (.slice Ao57 t498.length co57)).heap[gb502]? = some (.cells #[.int .i64 t493, .int .i64 t494, .slice Ao56 t495.length co56, .slice Ao57 t498.length co57] 26 (0, 0))) := ⟨(by (with_reducible repeat (first | refine blk_drewN ?_ _ | refine blk_drew ?_ | refine blk_alloc ?_ _)); refine blk_put (cs := #[.int .i64 t493, .int .i64 t494, .slice Ao56 t495.length co56, .slice none 0 0]) ?_ 3 _ rfl; (with_reducible repeat (first | refine blk_drewN ?_ _ | refine blk_drew ?_ | refine blk_alloc ?_ _)); refine blk_put (cs := #[.int .i64 t493, .int .i64 t494, .slice none 0 0, .slice none 0 0]) ?_ 2 _ rfl; (with_reducible repeat (first | refine blk_drewN ?_ _ | refine blk_drew ?_ | refine blk_alloc ?_ _)); refine blk_put (cs := #[.int .i64 t493, .int .i64 0, .slice none 0 0, .slice none 0 0]) ?_ 1 _ rfl; (with_reducible repeat (first | refine blk_drewN ?_ _ | refine blk_drew ?_ | refine blk_alloc ?_ _)); refine blk_put (cs := #[.int .i64 0, .int .i64 0, .slice none 0 0, .slice none 0 0]) ?_ 0 _ rfl; (with_reducible repeat (first | refine blk_drewN ?_ _ | refine blk_drew ?_ | refine blk_alloc ?_ _)); exact BK502.out)⟩
       have n12_ : Aside0 (Below w.heap.size w ((((w50.setCell ⟨gb502, 0, none⟩ (.int .i64 t493)).setCell ⟨gb502, 1, none⟩ (.int .i64 t494)).setCell ⟨gb502, 2, none⟩ (.slice Ao56 t495.length co56)).setCell ⟨gb502, 3, none⟩ (.slice Ao57 t498.length co57))) := ⟨o20⟩
       (try clear HO458)
       (try clear HO463)
       (try clear HO466)
       (try clear HO473)
       (try clear HO476)
       (try clear HO497)
       (try clear HO500)
       (try clear BK468)
       (try clear BK478)
       (try clear BK484)
       (try clear BK492)
       (try clear BK502)
       (try clear HB)
       generalize ((((w50.setCell ⟨gb502, 0, none⟩ (.int .i64 t493)).setCell ⟨gb502, 1, none⟩ (.int .i64 t494)).setCell ⟨gb502, 2, none⟩ (.slice Ao56 t495.length co56)).setCell ⟨gb502, 3, none⟩ (.slice Ao57 t498.length co57)) = w58 at n0_ n1_ n2_ n3_ n4_ n5_ n6_ n7_ n8_ n9_ n10_ n11_ n12_ ⊢
       have HO458 := n0_
       have HO463 := n1_
       have HO466 := n2_
       have HO473 := n3_
       have HO476 := n4_
       have HO497 := n5_
       have HO500 := n6_
       have BK468 := n7_
       have BK478 := n8_
       have BK484 := n9_
       have BK492 := n10_
       have BK502 := n11_
       have HB := n12_
       clear n0_ n1_ n2_ n3_ n4_ n5_ n6_ n7_ n8_ n9_ n10_ n11_ n12_
       have n0_ := Aside0.mk (Kd.R_drew HO458.out)
       have n1_ := Aside0.mk (Kd.R_drew HO463.out)
       have n2_ := Aside0.mk (Kd.R_drew HO466.out)
       have n3_ := Aside0.mk (Kd.Q_drew HO473.out)
       have n4_ := Aside0.mk (Kd.R_drew HO476.out)
       have n5_ := Aside0.mk (Kd.R_drew HO497.out)
       have n6_ := Aside0.mk (Kd.R_drew HO500.out)
       have n7_ := Aside0.mk (blk_drew BK468.out)
       have n8_ := Aside0.mk (blk_drew BK478.out)
       have n9_ := Aside0.mk (blk_drew BK484.out)
       have n10_ := Aside0.mk (blk_drew BK492.out)
       have n11_ := Aside0.mk (blk_drew BK502.out)
       have n12_ := Aside0.mk (below_drew1 HB.out)
       clear HO458
       clear HO463
       clear HO466
       clear HO473
       clear HO476
       clear HO497
       clear HO500
       clear BK468
       clear BK478
       clear BK484
       clear BK492
       clear BK502
       clear HB
       have HO458 := n0_
       have HO463 := n1_
       have HO466 := n2_
       have HO473 := n3_
       have HO476 := n4_
       have HO497 := n5_
       have HO500 := n6_
       have BK468 := n7_
       have BK478 := n8_
       have BK484 := n9_
       have BK492 := n10_
       have BK502 := n11_
       have HB := n12_
       clear n0_ n1_ n2_ n3_ n4_ n5_ n6_ n7_ n8_ n9_ n10_ n11_ n12_
       refine start_ (n := 35) (S := fun w' => w'.cell? ⟨gb468, 0, none⟩ = some (.int .i64 t459) ∧ w'.cell? ⟨gb468, 1, none⟩ = some (.int .i64 t460) ∧ w'.cell? ⟨gb468, 2, none⟩ = some (.slice Ao29 t461.length co29) ∧ w'.cell? ⟨gb468, 3, none⟩ = some (.slice Ao30 t464.length co30) ∧ w'.cell? ⟨gb502, 0, none⟩ = some (.int .i64 t493) ∧ w'.cell? ⟨gb502, 1, none⟩ = some (.int .i64 t494) ∧ w'.cell? ⟨gb502, 2, none⟩ = some (.slice Ao56 t495.length co56) ∧ w'.cell? ⟨gb502, 3, none⟩ = some (.slice Ao57 t498.length co57) ∧ w'.cell? ⟨gb478, 0, none⟩ = some (.int .i64 t469) ∧ w'.cell? ⟨gb478, 1, none⟩ = some (.int .i64 t470) ∧ w'.cell? ⟨gb478, 2, none⟩ = some (.slice Ao35 t471.length co35) ∧ w'.cell? ⟨gb478, 3, none⟩ = some (.slice Ao36 t474.length co36) ∧ w'.cell? ⟨gb484, 0, none⟩ = some (.int .i64 t479) ∧ w'.cell? ⟨gb484, 1, none⟩ = some (.int .i64 t480) ∧ w'.cell? ⟨gb484, 2, none⟩ = some (.int .i64 t481) ∧ w'.cell? ⟨gb484, 3, none⟩ = some (.int .i64 t482) ∧ w'.cell? ⟨gb492, 0, none⟩ = some (.int .i64 t488) ∧ w'.cell? ⟨gb492, 1, none⟩ = some (.int .i64 t489) ∧ w'.cell? ⟨gb492, 2, none⟩ = some (.int .i64 t490) ∧ w'.cell? ⟨gb492, 3, none⟩ = some (.int .i64 t491)) (ds := []) (bA 35 0) (by kernel_rfl) rfl rfl ⟨(blk_cell BK468.out 0).trans rfl, (blk_cell BK468.out 1).trans rfl, (blk_cell BK468.out 2).trans rfl, (blk_cell BK468.out 3).trans rfl, (blk_cell BK502.out 0).trans rfl, (blk_cell BK502.out 1).trans rfl, (blk_cell BK502.out 2).trans rfl, (blk_cell BK502.out 3).trans rfl, (blk_cell BK478.out 0).trans rfl, (blk_cell BK478.out 1).trans rfl, (blk_cell BK478.out 2).trans rfl, (blk_cell BK478.out 3).trans rfl, (blk_cell BK484.out 0).trans rfl, (blk_cell BK484.out 1).trans rfl, (blk_cell BK484.out 2).trans rfl, (blk_cell BK484.out 3).trans rfl, (blk_cell BK492.out 0).trans rfl, (blk_cell BK492.out 1).trans rfl, (blk_cell BK492.out 2).trans rfl, (blk_cell BK492.out 3).trans rfl⟩ (fun hHeld => ?_); refine with_tabW laws_FnProofs.tab10 laws_FnProofs.bits10 (fun HT_ HW_ => ?_)
       generalize w58.drew = w59 at HO458 HO463 HO466 HO473 HO476 HO497 HO500 BK468 BK478 BK484 BK492 BK502 HB hHeld ⊢
       refine pv (i := 0) (N := some 60) (bA 35 1) rfl rfl o0 ?_
       refine pv (i := 1) (N := some 61) (bA 35 3) rfl rfl o0 ?_
       refine pv (i := 2) (N := some 62) (bA 35 7) rfl rfl o0 ?_
       refine pv (i := 3) (N := some 63) (bA 35 15) rfl rfl o0 ?_
       refine take_ (i := 4) (N := some 64) (v := ?_) (a' := ?_) (bA 35 31) rfl rfl o5 (fun _ _ _ h => h) (Or.inl ⟨(by rfl), ?_⟩) hHeld ?_ ?_
       rotate_left
       ·rintro w' ⟨s0, s1, s2, s3, s4, s5, s6, s7, s8, s9, s10, s11, s12, s13, s14, s15, s16, s17, s18, s19⟩
        go_simp
        with_reducible rfl
       rotate_left
       ·simp only [sp_]
        rfl
       refine take_ (i := 5) (N := some 65) (v := ?_) (a' := ?_) (bA 35 63) rfl rfl o5 (fun _ _ _ h => h) (Or.inl ⟨(by rfl), ?_⟩) hHeld ?_ ?_
       rotate_left
       ·rintro w' ⟨s0, s1, s2, s3, s4, s5, s6, s7, s8, s9, s10, s11, s12, s13, s14, s15, s16, s17, s18, s19⟩
        go_simp
        with_reducible rfl
       rotate_left
       ·simp only [sp_]
        rfl
       refine one_ (i := 6) (N := some 66) (bA 35 127) rfl rfl (one_of HT_.out (by kernel_rfl)) (by decide) (fun K hK => ?_)
       refine goes_ Tryd.func22 (by kernel_rfl) rfl #[.agg #[.int .i64 t459, .int .i64 t460, .slice Ao29 t461.length co29, .slice Ao30 t464.length co30], .agg #[.int .i64 t493, .int .i64 t494, .slice Ao56 t495.length co56, .slice Ao57 t498.length co57]] (by rfl) rfl rfl d0 ?_
       with_reducible refine (laws_likeProof.calls k t459 t460 _ _ t461 _ _ t464 t493 t494 _ _ t495 _ _ t498 true _ ?side1 ?side2 ?side3 ?side4 ?side5 ?side6 ?side7 ?side8 A13.out).mono ?_
       (case side1 => exact (by repeat (first | exact (Kd.R_reads' HO463.out).2.2 | (with_reducible refine Kd.C_alloc ?_ _) | (with_reducible refine Kd.C_drewN ?_ _) | (with_reducible refine Kd.C_drew ?_))))
       (case side2 => exact (Kd.R_reads' HO463.out).2.1)
       (case side3 => exact (by repeat (first | exact (Kd.R_reads' HO466.out).2.2 | (with_reducible refine Kd.C_alloc ?_ _) | (with_reducible refine Kd.C_drewN ?_ _) | (with_reducible refine Kd.C_drew ?_))))
       (case side4 => exact (Kd.R_reads' HO466.out).2.1)
       (case side5 => exact (by repeat (first | exact (Kd.R_reads' HO497.out).2.2 | (with_reducible refine Kd.C_alloc ?_ _) | (with_reducible refine Kd.C_drewN ?_ _) | (with_reducible refine Kd.C_drew ?_))))
       (case side6 => exact (Kd.R_reads' HO497.out).2.1)
       (case side7 => exact (by repeat (first | exact (Kd.R_reads' HO500.out).2.2 | (with_reducible refine Kd.C_alloc ?_ _) | (with_reducible refine Kd.C_drewN ?_ _) | (with_reducible refine Kd.C_drew ?_))))
       (case side8 => exact (Kd.R_reads' HO500.out).2.1)
       rintro e w60 ⟨rfl, hb⟩
       refine ⟨_, rfl, ?_⟩
       have n0_ := Aside0.mk (Kd.R_below d41 hb)
       have n1_ := Aside0.mk (Kd.R_below d36 hb)
       have n2_ := Aside0.mk (Kd.R_below d45 hb)
       have n3_ := Aside0.mk (Kd.Q_below d47 hb)
       have n4_ := Aside0.mk (Kd.R_below d48 hb)
       have n5_ := Aside0.mk (Kd.R_below d53 hb)
       have n6_ := Aside0.mk (Kd.R_below d76 hb)
       have n7_ := Aside0.mk (blk_below (g := gb468) (o := .cells #[.int .i64 t459, .int .i64 t460, .slice Ao29 t461.length co29, .slice Ao30 t464.length co30] 26 (0, 0)) d5 hb)
       have n8_ := Aside0.mk (blk_below (g := gb478) (o := .cells #[.int .i64 t469, .int .i64 t470, .slice Ao35 t471.length co35, .slice Ao36 t474.length co36] 26 (0, 0)) d7 hb)
       have n9_ := Aside0.mk (blk_below (g := gb484) (o := .cells #[.int .i64 t479, .int .i64 t480, .int .i64 t481, .int .i64 t482] 43 (0, 0)) d8 hb)
       have n10_ := Aside0.mk (blk_below (g := gb492) (o := .cells #[.int .i64 t488, .int .i64 t489, .int .i64 t490, .int .i64 t491] 43 (0, 0)) d10 hb)
       have n11_ := Aside0.mk (blk_below (g := gb502) (o := .cells #[.int .i64 t493, .int .i64 t494, .slice Ao56 t495.length co56, .slice Ao57 t498.length co57] 26 (0, 0)) d30 hb)
       have n12_ := Aside0.mk (below_step d2 hb)
       clear HO458
       clear HO463
       clear HO466
       clear HO473
       clear HO476
       clear HO497
       clear HO500
       clear BK468
       clear BK478
       clear BK484
       clear BK492
       clear BK502
       clear HB
       have HO458 := n0_
       have HO463 := n1_
       have HO466 := n2_
       have HO473 := n3_
       have HO476 := n4_
       have HO497 := n5_
       have HO500 := n6_
       have BK468 := n7_
       have BK478 := n8_
       have BK484 := n9_
       have BK492 := n10_
       have BK502 := n11_
       have HB := n12_
       clear n0_ n1_ n2_ n3_ n4_ n5_ n6_ n7_ n8_ n9_ n10_ n11_ n12_
       (try clear hb)
       (try clear hb2)
       (try clear hk)
       (try clear hi)
       refine hK.out _ _ ⟨(blk_cell BK468.out 0).trans rfl, (blk_cell BK468.out 1).trans rfl, (blk_cell BK468.out 2).trans rfl, (blk_cell BK468.out 3).trans rfl, (blk_cell BK502.out 0).trans rfl, (blk_cell BK502.out 1).trans rfl, (blk_cell BK502.out 2).trans rfl, (blk_cell BK502.out 3).trans rfl, (blk_cell BK478.out 0).trans rfl, (blk_cell BK478.out 1).trans rfl, (blk_cell BK478.out 2).trans rfl, (blk_cell BK478.out 3).trans rfl, (blk_cell BK484.out 0).trans rfl, (blk_cell BK484.out 1).trans rfl, (blk_cell BK484.out 2).trans rfl, (blk_cell BK484.out 3).trans rfl, (blk_cell BK492.out 0).trans rfl, (blk_cell BK492.out 1).trans rfl, (blk_cell BK492.out 2).trans rfl, (blk_cell BK492.out 3).trans rfl⟩ (fun hHeld => ?_)
       clear hK K
       refine norm_ (a' := ?_) ?_ ?_
       rotate_left
       ·show Act.put _ (some 66) _ = _
        simp only [sp_]
        rfl
       refine pv (i := 7) (N := some 67) (bA 35 255) rfl rfl o0 ?_
       refine pv (i := 8) (N := some 68) (bA 35 511) rfl rfl o0 ?_
       refine pv (i := 9) (N := some 69) (bA 35 1023) rfl rfl o0 ?_
       refine pv (i := 11) (N := some 71) (bA 35 3071) rfl rfl o0 ?_
       refine pv (i := 14) (N := some 74) (bA 35 19455) rfl rfl o0 ?_
       refine take_ (i := 10) (N := some 70) (v := ?_) (a' := ?_) (bA 35 20479) rfl rfl o5 (fun _ _ _ h => h) (Or.inl ⟨(by rfl), ?_⟩) hHeld ?_ ?_
       rotate_left
       ·rintro w' ⟨s0, s1, s2, s3, s4, s5, s6, s7, s8, s9, s10, s11, s12, s13, s14, s15, s16, s17, s18, s19⟩
        go_simp
        with_reducible rfl
       rotate_left
       ·simp only [sp_]
        rfl
       refine take_ (i := 13) (N := some 73) (v := ?_) (a' := ?_) (bA 35 28671) rfl rfl o5 (fun _ _ _ h => h) (Or.inl ⟨(by rfl), ?_⟩) hHeld ?_ ?_
       rotate_left
       ·rintro w' ⟨s0, s1, s2, s3, s4, s5, s6, s7, s8, s9, s10, s11, s12, s13, s14, s15, s16, s17, s18, s19⟩
        go_simp
        with_reducible rfl
       rotate_left
       ·simp only [sp_]
        rfl
       refine one_ (i := 12) (N := some 72) (bA 35 32767) rfl rfl (one_of HT_.out (by kernel_rfl)) (by decide) (fun K hK => ?_)
       refine goes_ Tryd.func23 (by kernel_rfl) rfl #[.agg #[.int .i64 t469, .int .i64 t470, .slice Ao35 t471.length co35, .slice Ao36 t474.length co36], .int .i64 t477] (by rfl) rfl rfl d0 ?_
       with_reducible refine (impl_ProofOk.calls k t469 t470 _ _ t471 _ _ t474 t477 t504 _ ?side1 ?side2 ?side3 ?side4 A15.out (tab_at HT.out d6)).mono ?_
       (case side1 => exact (by repeat (first | exact (Kd.Q_reads' HO473.out).2.2 | (with_reducible refine Kd.C_alloc ?_ _) | (with_reducible refine Kd.C_drewN ?_ _) | (with_reducible refine Kd.C_drew ?_))))
       (case side2 => exact (Kd.Q_reads' HO473.out).2.1)
       (case side3 => exact (by repeat (first | exact (Kd.R_reads' HO476.out).2.2 | (with_reducible refine Kd.C_alloc ?_ _) | (with_reducible refine Kd.C_drewN ?_ _) | (with_reducible refine Kd.C_drew ?_))))
       (case side4 => exact (Kd.R_reads' HO476.out).2.1)
       rintro e w61 ⟨rfl, hb⟩
       refine ⟨_, rfl, ?_⟩
       have n0_ := Aside0.mk (Kd.R_below d41 hb)
       have n1_ := Aside0.mk (Kd.R_below d36 hb)
       have n2_ := Aside0.mk (Kd.R_below d45 hb)
       have n3_ := Aside0.mk (Kd.Q_below d47 hb)
       have n4_ := Aside0.mk (Kd.R_below d48 hb)
       have n5_ := Aside0.mk (Kd.R_below d53 hb)
       have n6_ := Aside0.mk (Kd.R_below d76 hb)
       have n7_ := Aside0.mk (blk_below (g := gb468) (o := .cells #[.int .i64 t459, .int .i64 t460, .slice Ao29 t461.length co29, .slice Ao30 t464.length co30] 26 (0, 0)) d5 hb)
       have n8_ := Aside0.mk (blk_below (g := gb478) (o := .cells #[.int .i64 t469, .int .i64 t470, .slice Ao35 t471.length co35, .slice Ao36 t474.length co36] 26 (0, 0)) d7 hb)
       have n9_ := Aside0.mk (blk_below (g := gb484) (o := .cells #[.int .i64 t479, .int .i64 t480, .int .i64 t481, .int .i64 t482] 43 (0, 0)) d8 hb)
       have n10_ := Aside0.mk (blk_below (g := gb492) (o := .cells #[.int .i64 t488, .int .i64 t489, .int .i64 t490, .int .i64 t491] 43 (0, 0)) d10 hb)
       have n11_ := Aside0.mk (blk_below (g := gb502) (o := .cells #[.int .i64 t493, .int .i64 t494, .slice Ao56 t495.length co56, .slice Ao57 t498.length co57] 26 (0, 0)) d30 hb)
       have n12_ := Aside0.mk (below_step d2 hb)
       clear HO458
       clear HO463
       clear HO466
       clear HO473
       clear HO476
       clear HO497
       clear HO500
       clear BK468
       clear BK478
       clear BK484
       clear BK492
       clear BK502
       clear HB
       have HO458 := n0_
       have HO463 := n1_
       have HO466 := n2_
       have HO473 := n3_
       have HO476 := n4_
       have HO497 := n5_
       have HO500 := n6_
       have BK468 := n7_
       have BK478 := n8_
       have BK484 := n9_
       have BK492 := n10_
       have BK502 := n11_
       have HB := n12_
       clear n0_ n1_ n2_ n3_ n4_ n5_ n6_ n7_ n8_ n9_ n10_ n11_ n12_
       (try clear hb)
       (try clear hb2)
       (try clear hk)
       (try clear hi)
       refine hK.out _ _ ⟨(blk_cell BK468.out 0).trans rfl, (blk_cell BK468.out 1).trans rfl, (blk_cell BK468.out 2).trans rfl, (blk_cell BK468.out 3).trans rfl, (blk_cell BK502.out 0).trans rfl, (blk_cell BK502.out 1).trans rfl, (blk_cell BK502.out 2).trans rfl, (blk_cell BK502.out 3).trans rfl, (blk_cell BK478.out 0).trans rfl, (blk_cell BK478.out 1).trans rfl, (blk_cell BK478.out 2).trans rfl, (blk_cell BK478.out 3).trans rfl, (blk_cell BK484.out 0).trans rfl, (blk_cell BK484.out 1).trans rfl, (blk_cell BK484.out 2).trans rfl, (blk_cell BK484.out 3).trans rfl, (blk_cell BK492.out 0).trans rfl, (blk_cell BK492.out 1).trans rfl, (blk_cell BK492.out 2).trans rfl, (blk_cell BK492.out 3).trans rfl⟩ (fun hHeld => ?_)
       clear hK K
       refine norm_ (a' := ?_) ?_ ?_
       rotate_left
       ·show Act.put _ (some 72) _ = _
        simp only [sp_]
        rfl
       refine one_ (i := 15) (N := some 75) (bA 35 65535) rfl rfl (one_of HT_.out (by kernel_rfl)) (by decide) (fun K hK => ?_)
       refine goes_ Tryd.func24 (by kernel_rfl) rfl #[.agg #[.int .i64 t469, .int .i64 t470, .slice Ao35 t471.length co35, .slice Ao36 t474.length co36], .int .i64 t477] (by rfl) rfl rfl d0 ?_
       with_reducible refine (spec_ProofOk.calls k t469 t470 _ _ t471 _ _ t474 t477 t505 _ ?side1 ?side2 ?side3 ?side4 A16.out).mono ?_
       (case side1 => exact (by repeat (first | exact (Kd.Q_reads' HO473.out).2.2 | (with_reducible refine Kd.C_alloc ?_ _) | (with_reducible refine Kd.C_drewN ?_ _) | (with_reducible refine Kd.C_drew ?_))))
       (case side2 => exact (Kd.Q_reads' HO473.out).2.1)
       (case side3 => exact (by repeat (first | exact (Kd.R_reads' HO476.out).2.2 | (with_reducible refine Kd.C_alloc ?_ _) | (with_reducible refine Kd.C_drewN ?_ _) | (with_reducible refine Kd.C_drew ?_))))
       (case side4 => exact (Kd.R_reads' HO476.out).2.1)
       rintro e w62 ⟨rfl, hb⟩
       refine ⟨_, rfl, ?_⟩
       have n0_ := Aside0.mk (Kd.R_below d41 hb)
       have n1_ := Aside0.mk (Kd.R_below d36 hb)
       have n2_ := Aside0.mk (Kd.R_below d45 hb)
       have n3_ := Aside0.mk (Kd.Q_below d47 hb)
       have n4_ := Aside0.mk (Kd.R_below d48 hb)
       have n5_ := Aside0.mk (Kd.R_below d53 hb)
       have n6_ := Aside0.mk (Kd.R_below d76 hb)
       have n7_ := Aside0.mk (blk_below (g := gb468) (o := .cells #[.int .i64 t459, .int .i64 t460, .slice Ao29 t461.length co29, .slice Ao30 t464.length co30] 26 (0, 0)) d5 hb)
       have n8_ := Aside0.mk (blk_below (g := gb478) (o := .cells #[.int .i64 t469, .int .i64 t470, .slice Ao35 t471.length co35, .slice Ao36 t474.length co36] 26 (0, 0)) d7 hb)
       have n9_ := Aside0.mk (blk_below (g := gb484) (o := .cells #[.int .i64 t479, .int .i64 t480, .int .i64 t481, .int .i64 t482] 43 (0, 0)) d8 hb)
       have n10_ := Aside0.mk (blk_below (g := gb492) (o := .cells #[.int .i64 t488, .int .i64 t489, .int .i64 t490, .int .i64 t491] 43 (0, 0)) d10 hb)
       have n11_ := Aside0.mk (blk_below (g := gb502) (o := .cells #[.int .i64 t493, .int .i64 t494, .slice Ao56 t495.length co56, .slice Ao57 t498.length co57] 26 (0, 0)) d30 hb)
       have n12_ := Aside0.mk (below_step d2 hb)
       clear HO458
       clear HO463
       clear HO466
       clear HO473
       clear HO476
       clear HO497
       clear HO500
       clear BK468
       clear BK478
       clear BK484
       clear BK492
       clear BK502
       clear HB
       have HO458 := n0_
       have HO463 := n1_
       have HO466 := n2_
       have HO473 := n3_
       have HO476 := n4_
       have HO497 := n5_
       have HO500 := n6_
       have BK468 := n7_
       have BK478 := n8_
       have BK484 := n9_
       have BK492 := n10_
       have BK502 := n11_
       have HB := n12_
       clear n0_ n1_ n2_ n3_ n4_ n5_ n6_ n7_ n8_ n9_ n10_ n11_ n12_
       (try clear hb)
       (try clear hb2)
       (try clear hk)
       (try clear hi)
       refine hK.out _ _ ⟨(blk_cell BK468.out 0).trans rfl, (blk_cell BK468.out 1).trans rfl, (blk_cell BK468.out 2).trans rfl, (blk_cell BK468.out 3).trans rfl, (blk_cell BK502.out 0).trans rfl, (blk_cell BK502.out 1).trans rfl, (blk_cell BK502.out 2).trans rfl, (blk_cell BK502.out 3).trans rfl, (blk_cell BK478.out 0).trans rfl, (blk_cell BK478.out 1).trans rfl, (blk_cell BK478.out 2).trans rfl, (blk_cell BK478.out 3).trans rfl, (blk_cell BK484.out 0).trans rfl, (blk_cell BK484.out 1).trans rfl, (blk_cell BK484.out 2).trans rfl, (blk_cell BK484.out 3).trans rfl, (blk_cell BK492.out 0).trans rfl, (blk_cell BK492.out 1).trans rfl, (blk_cell BK492.out 2).trans rfl, (blk_cell BK492.out 3).trans rfl⟩ (fun hHeld => ?_)
       clear hK K
       refine norm_ (a' := ?_) ?_ ?_
       rotate_left
       ·show Act.put _ (some 75) _ = _
        simp only [sp_]
        rfl
       refine pv (i := 16) (N := some 76) (bA 35 131071) rfl rfl o0 ?_
       refine pv (i := 17) (N := some 77) (bA 35 262143) rfl rfl o0 ?_
       refine pv (i := 18) (N := some 78) (bA 35 524287) rfl rfl o0 ?_
       refine pv (i := 20) (N := some 80) (bA 35 1572863) rfl rfl o0 ?_
       refine pv (i := 23) (N := some 83) (bA 35 9961471) rfl rfl o0 ?_
       refine take_ (i := 19) (N := some 79) (v := ?_) (a' := ?_) (bA 35 10485759) rfl rfl o5 (fun _ _ _ h => h) (Or.inl ⟨(by rfl), ?_⟩) hHeld ?_ ?_
       rotate_left
       ·rintro w' ⟨s0, s1, s2, s3, s4, s5, s6, s7, s8, s9, s10, s11, s12, s13, s14, s15, s16, s17, s18, s19⟩
        go_simp
        with_reducible rfl
       rotate_left
       ·simp only [sp_]
        rfl
       refine take_ (i := 22) (N := some 82) (v := ?_) (a' := ?_) (bA 35 14680063) rfl rfl o5 (fun _ _ _ h => h) (Or.inl ⟨(by rfl), ?_⟩) hHeld ?_ ?_
       rotate_left
       ·rintro w' ⟨s0, s1, s2, s3, s4, s5, s6, s7, s8, s9, s10, s11, s12, s13, s14, s15, s16, s17, s18, s19⟩
        go_simp
        with_reducible rfl
       rotate_left
       ·simp only [sp_]
        rfl
       refine one_ (i := 21) (N := some 81) (bA 35 16777215) rfl rfl (one_of HT_.out (by kernel_rfl)) (by decide) (fun K hK => ?_)
       refine goes_ Tryd.func25 (by kernel_rfl) rfl #[.agg #[.int .i64 t479, .int .i64 t480, .int .i64 t481, .int .i64 t482], .int .i64 t483] (by rfl) rfl rfl d0 ?_
       with_reducible refine (impl_VoteOk.calls k t479 t480 t481 t482 t483 t506 _ A18.out (tab_at HT.out d6)).mono ?_
       rintro e w63 ⟨rfl, hb⟩
       refine ⟨_, rfl, ?_⟩
       have n0_ := Aside0.mk (Kd.R_below d41 hb)
       have n1_ := Aside0.mk (Kd.R_below d36 hb)
       have n2_ := Aside0.mk (Kd.R_below d45 hb)
       have n3_ := Aside0.mk (Kd.Q_below d47 hb)
       have n4_ := Aside0.mk (Kd.R_below d48 hb)
       have n5_ := Aside0.mk (Kd.R_below d53 hb)
       have n6_ := Aside0.mk (Kd.R_below d76 hb)
       have n7_ := Aside0.mk (blk_below (g := gb468) (o := .cells #[.int .i64 t459, .int .i64 t460, .slice Ao29 t461.length co29, .slice Ao30 t464.length co30] 26 (0, 0)) d5 hb)
       have n8_ := Aside0.mk (blk_below (g := gb478) (o := .cells #[.int .i64 t469, .int .i64 t470, .slice Ao35 t471.length co35, .slice Ao36 t474.length co36] 26 (0, 0)) d7 hb)
       have n9_ := Aside0.mk (blk_below (g := gb484) (o := .cells #[.int .i64 t479, .int .i64 t480, .int .i64 t481, .int .i64 t482] 43 (0, 0)) d8 hb)
       have n10_ := Aside0.mk (blk_below (g := gb492) (o := .cells #[.int .i64 t488, .int .i64 t489, .int .i64 t490, .int .i64 t491] 43 (0, 0)) d10 hb)
       have n11_ := Aside0.mk (blk_below (g := gb502) (o := .cells #[.int .i64 t493, .int .i64 t494, .slice Ao56 t495.length co56, .slice Ao57 t498.length co57] 26 (0, 0)) d30 hb)
       have n12_ := Aside0.mk (below_step d2 hb)
       clear HO458
       clear HO463
       clear HO466
       clear HO473
       clear HO476
       clear HO497
       clear HO500
       clear BK468
       clear BK478
       clear BK484
       clear BK492
       clear BK502
       clear HB
       have HO458 := n0_
       have HO463 := n1_
       have HO466 := n2_
       have HO473 := n3_
       have HO476 := n4_
       have HO497 := n5_
       have HO500 := n6_
       have BK468 := n7_
       have BK478 := n8_
       have BK484 := n9_
       have BK492 := n10_
       have BK502 := n11_
       have HB := n12_
       clear n0_ n1_ n2_ n3_ n4_ n5_ n6_ n7_ n8_ n9_ n10_ n11_ n12_
       (try clear hb)
       (try clear hb2)
       (try clear hk)
       (try clear hi)
       refine hK.out _ _ ⟨(blk_cell BK468.out 0).trans rfl, (blk_cell BK468.out 1).trans rfl, (blk_cell BK468.out 2).trans rfl, (blk_cell BK468.out 3).trans rfl, (blk_cell BK502.out 0).trans rfl, (blk_cell BK502.out 1).trans rfl, (blk_cell BK502.out 2).trans rfl, (blk_cell BK502.out 3).trans rfl, (blk_cell BK478.out 0).trans rfl, (blk_cell BK478.out 1).trans rfl, (blk_cell BK478.out 2).trans rfl, (blk_cell BK478.out 3).trans rfl, (blk_cell BK484.out 0).trans rfl, (blk_cell BK484.out 1).trans rfl, (blk_cell BK484.out 2).trans rfl, (blk_cell BK484.out 3).trans rfl, (blk_cell BK492.out 0).trans rfl, (blk_cell BK492.out 1).trans rfl, (blk_cell BK492.out 2).trans rfl, (blk_cell BK492.out 3).trans rfl⟩ (fun hHeld => ?_)
       clear hK K
       refine norm_ (a' := ?_) ?_ ?_
       rotate_left
       ·show Act.put _ (some 81) _ = _
        simp only [sp_]
        rfl
       refine one_ (i := 24) (N := some 84) (bA 35 33554431) rfl rfl (one_of HT_.out (by kernel_rfl)) (by decide) (fun K hK => ?_)
       refine goes_ Tryd.func26 (by kernel_rfl) rfl #[.agg #[.int .i64 t479, .int .i64 t480, .int .i64 t481, .int .i64 t482], .int .i64 t483] (by rfl) rfl rfl d0 ?_
       with_reducible refine (spec_VoteOk.calls k t479 t480 t481 t482 t483 t507 _ A19.out).mono ?_
       rintro e w64 ⟨rfl, hb⟩
       refine ⟨_, rfl, ?_⟩
       have n0_ := Aside0.mk (Kd.R_below d41 hb)
       have n1_ := Aside0.mk (Kd.R_below d36 hb)
       have n2_ := Aside0.mk (Kd.R_below d45 hb)
       have n3_ := Aside0.mk (Kd.Q_below d47 hb)
       have n4_ := Aside0.mk (Kd.R_below d48 hb)
       have n5_ := Aside0.mk (Kd.R_below d53 hb)
       have n6_ := Aside0.mk (Kd.R_below d76 hb)
       have n7_ := Aside0.mk (blk_below (g := gb468) (o := .cells #[.int .i64 t459, .int .i64 t460, .slice Ao29 t461.length co29, .slice Ao30 t464.length co30] 26 (0, 0)) d5 hb)
       have n8_ := Aside0.mk (blk_below (g := gb478) (o := .cells #[.int .i64 t469, .int .i64 t470, .slice Ao35 t471.length co35, .slice Ao36 t474.length co36] 26 (0, 0)) d7 hb)
       have n9_ := Aside0.mk (blk_below (g := gb484) (o := .cells #[.int .i64 t479, .int .i64 t480, .int .i64 t481, .int .i64 t482] 43 (0, 0)) d8 hb)
       have n10_ := Aside0.mk (blk_below (g := gb492) (o := .cells #[.int .i64 t488, .int .i64 t489, .int .i64 t490, .int .i64 t491] 43 (0, 0)) d10 hb)
       have n11_ := Aside0.mk (blk_below (g := gb502) (o := .cells #[.int .i64 t493, .int .i64 t494, .slice Ao56 t495.length co56, .slice Ao57 t498.length co57] 26 (0, 0)) d30 hb)
       have n12_ := Aside0.mk (below_step d2 hb)
       clear HO458
       clear HO463
       clear HO466
       clear HO473
       clear HO476
       clear HO497
       clear HO500
       clear BK468
       clear BK478
       clear BK484
       clear BK492
       clear BK502
       clear HB
       have HO458 := n0_
       have HO463 := n1_
       have HO466 := n2_
       have HO473 := n3_
       have HO476 := n4_
       have HO497 := n5_
       have HO500 := n6_
       have BK468 := n7_
       have BK478 := n8_
       have BK484 := n9_
       have BK492 := n10_
       have BK502 := n11_
       have HB := n12_
       clear n0_ n1_ n2_ n3_ n4_ n5_ n6_ n7_ n8_ n9_ n10_ n11_ n12_
       (try clear hb)
       (try clear hb2)
       (try clear hk)
       (try clear hi)
       refine hK.out _ _ ⟨(blk_cell BK468.out 0).trans rfl, (blk_cell BK468.out 1).trans rfl, (blk_cell BK468.out 2).trans rfl, (blk_cell BK468.out 3).trans rfl, (blk_cell BK502.out 0).trans rfl, (blk_cell BK502.out 1).trans rfl, (blk_cell BK502.out 2).trans rfl, (blk_cell BK502.out 3).trans rfl, (blk_cell BK478.out 0).trans rfl, (blk_cell BK478.out 1).trans rfl, (blk_cell BK478.out 2).trans rfl, (blk_cell BK478.out 3).trans rfl, (blk_cell BK484.out 0).trans rfl, (blk_cell BK484.out 1).trans rfl, (blk_cell BK484.out 2).trans rfl, (blk_cell BK484.out 3).trans rfl, (blk_cell BK492.out 0).trans rfl, (blk_cell BK492.out 1).trans rfl, (blk_cell BK492.out 2).trans rfl, (blk_cell BK492.out 3).trans rfl⟩ (fun hHeld => ?_)
       clear hK K
       refine norm_ (a' := ?_) ?_ ?_
       rotate_left
       ·show Act.put _ (some 84) _ = _
        simp only [sp_]
        rfl
       refine pv (i := 25) (N := some 85) (bA 35 67108863) rfl rfl o0 ?_
       refine pv (i := 26) (N := some 86) (bA 35 134217727) rfl rfl o0 ?_
       refine pv (i := 27) (N := some 87) (bA 35 268435455) rfl rfl o0 ?_
       refine pv (i := 29) (N := some 89) (bA 35 805306367) rfl rfl o0 ?_
       refine pv (i := 30) (N := some 90) (bA 35 1879048191) rfl rfl o0 ?_
       refine pv (i := 31) (N := some 91) (bA 35 4026531839) rfl rfl o0 ?_
       refine take_ (i := 28) (N := some 88) (v := ?_) (a' := ?_) (bA 35 4294967295) rfl rfl o5 (fun _ _ _ h => h) (Or.inl ⟨(by rfl), ?_⟩) hHeld ?_ ?_
       rotate_left
       ·rintro w' ⟨s0, s1, s2, s3, s4, s5, s6, s7, s8, s9, s10, s11, s12, s13, s14, s15, s16, s17, s18, s19⟩
        go_simp
        with_reducible rfl
       rotate_left
       ·simp only [sp_]
        rfl
       refine one_ (i := 32) (N := some 92) (bA 35 8589934591) rfl rfl (one_of HT_.out (by kernel_rfl)) (by decide) (fun K hK => ?_)
       refine goes_ Tryd.func27 (by kernel_rfl) rfl #[.int .i64 t485, .int .i64 t486, .int .i64 t487] (by rfl) rfl rfl d0 ?_
       with_reducible refine (spec_Voted.calls k t485 t486 t487 t508 t509 t510 t511 _ A21.out).mono ?_
       rintro e w65 ⟨rfl, hb⟩
       refine ⟨_, rfl, ?_⟩
       have n0_ := Aside0.mk (Kd.R_below d41 hb)
       have n1_ := Aside0.mk (Kd.R_below d36 hb)
       have n2_ := Aside0.mk (Kd.R_below d45 hb)
       have n3_ := Aside0.mk (Kd.Q_below d47 hb)
       have n4_ := Aside0.mk (Kd.R_below d48 hb)
       have n5_ := Aside0.mk (Kd.R_below d53 hb)
       have n6_ := Aside0.mk (Kd.R_below d76 hb)
       have n7_ := Aside0.mk (blk_below (g := gb468) (o := .cells #[.int .i64 t459, .int .i64 t460, .slice Ao29 t461.length co29, .slice Ao30 t464.length co30] 26 (0, 0)) d5 hb)
       have n8_ := Aside0.mk (blk_below (g := gb478) (o := .cells #[.int .i64 t469, .int .i64 t470, .slice Ao35 t471.length co35, .slice Ao36 t474.length co36] 26 (0, 0)) d7 hb)
       have n9_ := Aside0.mk (blk_below (g := gb484) (o := .cells #[.int .i64 t479, .int .i64 t480, .int .i64 t481, .int .i64 t482] 43 (0, 0)) d8 hb)
       have n10_ := Aside0.mk (blk_below (g := gb492) (o := .cells #[.int .i64 t488, .int .i64 t489, .int .i64 t490, .int .i64 t491] 43 (0, 0)) d10 hb)
       have n11_ := Aside0.mk (blk_below (g := gb502) (o := .cells #[.int .i64 t493, .int .i64 t494, .slice Ao56 t495.length co56, .slice Ao57 t498.length co57] 26 (0, 0)) d30 hb)
       have n12_ := Aside0.mk (below_step d2 hb)
       clear HO458
       clear HO463
       clear HO466
       clear HO473
       clear HO476
       clear HO497
       clear HO500
       clear BK468
       clear BK478
       clear BK484
       clear BK492
       clear BK502
       clear HB
       have HO458 := n0_
       have HO463 := n1_
       have HO466 := n2_
       have HO473 := n3_
       have HO476 := n4_
       have HO497 := n5_
       have HO500 := n6_
       have BK468 := n7_
       have BK478 := n8_
       have BK484 := n9_
       have BK492 := n10_
       have BK502 := n11_
       have HB := n12_
       clear n0_ n1_ n2_ n3_ n4_ n5_ n6_ n7_ n8_ n9_ n10_ n11_ n12_
       (try clear hb)
       (try clear hb2)
       (try clear hk)
       (try clear hi)
       refine hK.out _ _ ⟨(blk_cell BK468.out 0).trans rfl, (blk_cell BK468.out 1).trans rfl, (blk_cell BK468.out 2).trans rfl, (blk_cell BK468.out 3).trans rfl, (blk_cell BK502.out 0).trans rfl, (blk_cell BK502.out 1).trans rfl, (blk_cell BK502.out 2).trans rfl, (blk_cell BK502.out 3).trans rfl, (blk_cell BK478.out 0).trans rfl, (blk_cell BK478.out 1).trans rfl, (blk_cell BK478.out 2).trans rfl, (blk_cell BK478.out 3).trans rfl, (blk_cell BK484.out 0).trans rfl, (blk_cell BK484.out 1).trans rfl, (blk_cell BK484.out 2).trans rfl, (blk_cell BK484.out 3).trans rfl, (blk_cell BK492.out 0).trans rfl, (blk_cell BK492.out 1).trans rfl, (blk_cell BK492.out 2).trans rfl, (blk_cell BK492.out 3).trans rfl⟩ (fun hHeld => ?_)
       clear hK K
       refine norm_ (a' := ?_) ?_ ?_
       rotate_left
       ·show Act.put _ (some 92) _ = _
        simp only [sp_]
        rfl
       refine pv (i := 33) (N := some 93) (bA 35 17179869183) rfl rfl o0 ?_
       refine pv (i := 34) (N := some 94) (bA 35 34359738367) rfl rfl o0 ?_
       refine done_ (done_of HT_.out (by kernel_rfl)) ?_
       go_upto_region 12 with (fail)
       go_cut [107] (fun v107 wc => ∃ (kq : Nat) (x107_22 : Bool), v107 = .bool x107_22 ∧ Aside0 (laws_FnProofs.j0 kq t456 t467 x107_22 t459 t460 t461 t464 = some r) ∧ Aside0 (kq ≤ k) ∧ Aside0 (Kd.Q (Kd.int .i64) 2 wc w.heap.size (fun k_ => some k_ ≠ ((.slice Ao30 t464.length co30) : Value).ownBlock ∧ some k_ ≠ ((.slice Ao35 t471.length co35) : Value).ownBlock ∧ some k_ ≠ ((.slice Ao36 t474.length co36) : Value).ownBlock ∧ some k_ ≠ ((.slice Ao56 t495.length co56) : Value).ownBlock ∧ some k_ ≠ ((.slice Ao57 t498.length co57) : Value).ownBlock) (.slice Ao29 t461.length co29) t461) ∧ Aside0 (Kd.R (Kd.int .i64) 2 wc w.heap.size (fun k_ => some k_ ≠ ((.slice Ao29 t461.length co29) : Value).ownBlock ∧ some k_ ≠ ((.slice Ao35 t471.length co35) : Value).ownBlock ∧ some k_ ≠ ((.slice Ao36 t474.length co36) : Value).ownBlock ∧ some k_ ≠ ((.slice Ao56 t495.length co56) : Value).ownBlock ∧ some k_ ≠ ((.slice Ao57 t498.length co57) : Value).ownBlock) (.slice Ao30 t464.length co30) t464) ∧ Aside0 (Kd.Q (Kd.int .i64) 2 wc w.heap.size (fun k_ => some k_ ≠ ((.slice Ao29 t461.length co29) : Value).ownBlock ∧ some k_ ≠ ((.slice Ao30 t464.length co30) : Value).ownBlock ∧ some k_ ≠ ((.slice Ao36 t474.length co36) : Value).ownBlock ∧ some k_ ≠ ((.slice Ao56 t495.length co56) : Value).ownBlock ∧ some k_ ≠ ((.slice Ao57 t498.length co57) : Value).ownBlock) (.slice Ao35 t471.length co35) t471) ∧ Aside0 (Kd.R (Kd.int .i64) 2 wc w.heap.size (fun k_ => some k_ ≠ ((.slice Ao29 t461.length co29) : Value).ownBlock ∧ some k_ ≠ ((.slice Ao30 t464.length co30) : Value).ownBlock ∧ some k_ ≠ ((.slice Ao35 t471.length co35) : Value).ownBlock ∧ some k_ ≠ ((.slice Ao56 t495.length co56) : Value).ownBlock ∧ some k_ ≠ ((.slice Ao57 t498.length co57) : Value).ownBlock) (.slice Ao36 t474.length co36) t474) ∧ Aside0 (Kd.Q (Kd.int .i64) 2 wc w.heap.size (fun k_ => some k_ ≠ ((.slice Ao29 t461.length co29) : Value).ownBlock ∧ some k_ ≠ ((.slice Ao30 t464.length co30) : Value).ownBlock ∧ some k_ ≠ ((.slice Ao35 t471.length co35) : Value).ownBlock ∧ some k_ ≠ ((.slice Ao36 t474.length co36) : Value).ownBlock ∧ some k_ ≠ ((.slice Ao57 t498.length co57) : Value).ownBlock) (.slice Ao56 t495.length co56) t495) ∧ Aside0 (Kd.R (Kd.int .i64) 2 wc w.heap.size (fun k_ => some k_ ≠ ((.slice Ao29 t461.length co29) : Value).ownBlock ∧ some k_ ≠ ((.slice Ao30 t464.length co30) : Value).ownBlock ∧ some k_ ≠ ((.slice Ao35 t471.length co35) : Value).ownBlock ∧ some k_ ≠ ((.slice Ao36 t474.length co36) : Value).ownBlock ∧ some k_ ≠ ((.slice Ao56 t495.length co56) : Value).ownBlock) (.slice Ao57 t498.length co57) t498) ∧ Aside0 (wc.heap[gb468]? = some (.cells #[.int .i64 t459, .int .i64 t460, (.slice Ao29 t461.length co29), (.slice Ao30 t464.length co30)] 26 (0, 0))) ∧ Aside0 (wc.heap[gb478]? = some (.cells #[.int .i64 t469, .int .i64 t470, (.slice Ao35 t471.length co35), (.slice Ao36 t474.length co36)] 26 (0, 0))) ∧ Aside0 (wc.heap[gb484]? = some (.cells #[.int .i64 t479, .int .i64 t480, .int .i64 t481, .int .i64 t482] 43 (0, 0))) ∧ Aside0 (wc.heap[gb492]? = some (.cells #[.int .i64 t488, .int .i64 t489, .int .i64 t490, .int .i64 t491] 43 (0, 0))) ∧ Aside0 (wc.heap[gb502]? = some (.cells #[.int .i64 t493, .int .i64 t494, (.slice Ao56 t495.length co56), (.slice Ao57 t498.length co57)] 26 (0, 0))) ∧ Aside0 (Below w.heap.size w wc))
       case first =>
        have H := HC23.out
        clear HC23
        by_cases c66 : t488 > 0
        ·rw [if_pos c66] at H
         have c66b0 : decide (0 < t488) = true := decide_eq_true c66
         clear c66
         (first | rw [c66b0] | (simp only [i64_w, i32_w]; rw [c66b0]) | skip)
         by_cases c67 : t490 < 4
         ·rw [if_pos c67] at H
          have c67b0 : decide (t490 < 4) = true := decide_eq_true c67
          clear c67
          replace H := Option.bind_eq_some_iff.mp H
          obtain ⟨t512, A680, H⟩ := H
          replace H : (laws_FnProofs.j0 k t456 t467 (!t512) t459 t460 t461 t464) = some r := H
          have A68 := Aside0.mk A680
          clear A680
          have H' := Aside0.mk H
          clear H
          have hnb69 := NB492_468.out
          have hnc69 := NB468_492.out
          have hnb70 := NB492_478.out
          have hnc70 := NB478_492.out
          have hnb71 := NB492_484.out
          have hnc71 := NB484_492.out
          have hnb72 := NB492_502.out
          have hnc72 := NB502_492.out
          have hcz73_0 : w65.cell? ⟨gb492, 0, none⟩ = some (.int .i64 t488) := (blk_cell BK492.out 0).trans rfl
          have hcz73_1 : w65.cell? ⟨gb492, 1, none⟩ = some (.int .i64 t489) := (blk_cell BK492.out 1).trans rfl
          have hcz73_2 : w65.cell? ⟨gb492, 2, none⟩ = some (.int .i64 t490) := (blk_cell BK492.out 2).trans rfl
          have hcz73_3 : w65.cell? ⟨gb492, 3, none⟩ = some (.int .i64 t491) := (blk_cell BK492.out 3).trans rfl
          have hfz73_0 := blk_frozen BK492.out 0
          have hfz73_1 := blk_frozen BK492.out 1
          have hfz73_2 := blk_frozen BK492.out 2
          have hfz73_3 := blk_frozen BK492.out 3
          go_wp2_with (first | (go_at_call 25; (with_reducible refine (impl_VoteOk.calls k t488 t489 t490 t491 4 t512 _ A68.out (tab_at HT.out d6)).mono ?_); rintro e w74 ⟨rfl, hb⟩; have n0_ := Aside0.mk (Kd.R_below d41 hb); have n1_ := Aside0.mk (Kd.R_below d36 hb); have n2_ := Aside0.mk (Kd.R_below d45 hb); have n3_ := Aside0.mk (Kd.Q_below d47 hb); have n4_ := Aside0.mk (Kd.R_below d48 hb); have n5_ := Aside0.mk (Kd.R_below d53 hb); have n6_ := Aside0.mk (Kd.R_below d76 hb); have n7_ := Aside0.mk (blk_below (g := gb468) (o := .cells #[.int .i64 t459, .int .i64 t460, .slice Ao29 t461.length co29, .slice Ao30 t464.length co30] 26 (0, 0)) d5 hb); have n8_ := Aside0.mk (blk_below (g := gb478) (o := .cells #[.int .i64 t469, .int .i64 t470, .slice Ao35 t471.length co35, .slice Ao36 t474.length co36] 26 (0, 0)) d7 hb); have n9_ := Aside0.mk (blk_below (g := gb484) (o := .cells #[.int .i64 t479, .int .i64 t480, .int .i64 t481, .int .i64 t482] 43 (0, 0)) d8 hb); have n10_ := Aside0.mk (blk_below (g := gb492) (o := .cells #[.int .i64 t488, .int .i64 t489, .int .i64 t490, .int .i64 t491] 43 (0, 0)) d10 hb); have n11_ := Aside0.mk (blk_below (g := gb502) (o := .cells #[.int .i64 t493, .int .i64 t494, .slice Ao56 t495.length co56, .slice Ao57 t498.length co57] 26 (0, 0)) d30 hb); have n12_ := Aside0.mk (below_step d2 hb); clear HO458; clear HO463; clear HO466; clear HO473; clear HO476; clear HO497; clear HO500; clear BK468; clear BK478; clear BK484; clear BK492; clear BK502; clear HB; have HO458 := n0_; have HO463 := n1_; have HO466 := n2_; have HO473 := n3_; have HO476 := n4_; have HO497 := n5_; have HO500 := n6_; have BK468 := n7_; have BK478 := n8_; have BK484 := n9_; have BK492 := n10_; have BK502 := n11_; have HB := n12_; clear n0_ n1_ n2_ n3_ n4_ n5_ n6_ n7_ n8_ n9_ n10_ n11_ n12_; (try clear hb); (try clear hb2); (try clear hk); (try clear hi)))
          go_meet
          case rel => exact ⟨_, (!t512), d9, H', ⟨o42⟩, ⟨Kd.Q_of_R d36⟩, ⟨o90⟩, ⟨o91⟩, ⟨o92⟩, ⟨Kd.Q_of_R d53⟩, ⟨o93⟩, ⟨o52⟩, ⟨o53⟩, ⟨o54⟩, ⟨o55⟩, ⟨o56⟩, ⟨o20⟩⟩
         ·rw [if_neg c67] at H
          have c67b0 : decide (t490 < 4) = false := decide_eq_false c67
          clear c67
          have H' := Aside0.mk H
          clear H
          have hnb75 := NB492_468.out
          have hnc75 := NB468_492.out
          have hnb76 := NB492_478.out
          have hnc76 := NB478_492.out
          have hnb77 := NB492_484.out
          have hnc77 := NB484_492.out
          have hnb78 := NB492_502.out
          have hnc78 := NB502_492.out
          have hcz79_0 : w65.cell? ⟨gb492, 0, none⟩ = some (.int .i64 t488) := (blk_cell BK492.out 0).trans rfl
          have hcz79_1 : w65.cell? ⟨gb492, 1, none⟩ = some (.int .i64 t489) := (blk_cell BK492.out 1).trans rfl
          have hcz79_2 : w65.cell? ⟨gb492, 2, none⟩ = some (.int .i64 t490) := (blk_cell BK492.out 2).trans rfl
          have hcz79_3 : w65.cell? ⟨gb492, 3, none⟩ = some (.int .i64 t491) := (blk_cell BK492.out 3).trans rfl
          have hfz79_0 := blk_frozen BK492.out 0
          have hfz79_1 := blk_frozen BK492.out 1
          have hfz79_2 := blk_frozen BK492.out 2
          have hfz79_3 := blk_frozen BK492.out 3
          go_wp2
          go_meet
          case rel => exact ⟨_, (false), d9, H', ⟨o42⟩, ⟨Kd.Q_of_R d36⟩, ⟨o90⟩, ⟨o91⟩, ⟨o92⟩, ⟨Kd.Q_of_R d53⟩, ⟨o93⟩, ⟨o52⟩, ⟨o53⟩, ⟨o54⟩, ⟨o55⟩, ⟨o56⟩, ⟨o20⟩⟩
        ·rw [if_neg c66] at H
         have c66b0 : decide (0 < t488) = false := decide_eq_false c66
         clear c66
         (first | rw [c66b0] | (simp only [i64_w, i32_w]; rw [c66b0]) | skip)
         have H' := Aside0.mk H
         clear H
         have hnb80 := NB492_468.out
         have hnc80 := NB468_492.out
         have hnb81 := NB492_478.out
         have hnc81 := NB478_492.out
         have hnb82 := NB492_484.out
         have hnc82 := NB484_492.out
         have hnb83 := NB492_502.out
         have hnc83 := NB502_492.out
         have hcz84_0 : w65.cell? ⟨gb492, 0, none⟩ = some (.int .i64 t488) := (blk_cell BK492.out 0).trans rfl
         have hcz84_1 : w65.cell? ⟨gb492, 1, none⟩ = some (.int .i64 t489) := (blk_cell BK492.out 1).trans rfl
         have hcz84_2 : w65.cell? ⟨gb492, 2, none⟩ = some (.int .i64 t490) := (blk_cell BK492.out 2).trans rfl
         have hcz84_3 : w65.cell? ⟨gb492, 3, none⟩ = some (.int .i64 t491) := (blk_cell BK492.out 3).trans rfl
         have hfz84_0 := blk_frozen BK492.out 0
         have hfz84_1 := blk_frozen BK492.out 1
         have hfz84_2 := blk_frozen BK492.out 2
         have hfz84_3 := blk_frozen BK492.out 3
         go_wp2
         go_meet
         case rel => exact ⟨_, (false), d9, H', ⟨o42⟩, ⟨Kd.Q_of_R d36⟩, ⟨o90⟩, ⟨o91⟩, ⟨o92⟩, ⟨Kd.Q_of_R d53⟩, ⟨o93⟩, ⟨o52⟩, ⟨o53⟩, ⟨o54⟩, ⟨o55⟩, ⟨o56⟩, ⟨o20⟩⟩
       case rest =>
        clear HC23
        try clear c2
        try clear p2
        try clear c6
        try clear c7
        try clear c8
        try clear c23
        try clear c24
        try clear c25
        try clear c26
        try clear c27
        try clear c66
        try clear c66b0
        try clear c67
        try clear c67b0
        try clear c69
        try clear c70
        try clear c71
        try clear c72
        try clear c75
        try clear c76
        try clear c77
        try clear c78
        try clear c80
        try clear c81
        try clear c82
        try clear c83
        try clear hcz73_0
        try clear hcz73_1
        try clear hcz73_2
        try clear hcz73_3
        try clear hcz79_0
        try clear hcz79_1
        try clear hcz79_2
        try clear hcz79_3
        try clear hcz84_0
        try clear hcz84_1
        try clear hcz84_2
        try clear hcz84_3
        try clear hfz73_0
        try clear hfz73_1
        try clear hfz73_2
        try clear hfz73_3
        try clear hfz79_0
        try clear hfz79_1
        try clear hfz79_2
        try clear hfz79_3
        try clear hfz84_0
        try clear hfz84_1
        try clear hfz84_2
        try clear hfz84_3
        obtain ⟨kq, x107_22, rfl, HA, HJ22, HO_469002, HO_469003, HO_479002, HO_479003, HO_503002, HO_503003, BK468, BK478, BK484, BK492, BK502, HB⟩ := hcut
        cases kq with
        | zero => exact absurd HA.out (by simp [laws_FnProofs.j0])
        | succ kj22 =>
         have H := HA.out
         clear HA
         simp only [laws_FnProofs.j0] at H
         by_cases c85 : x107_22 = true
         ·subst c85
          have H1 : (none) = some r := by rw [if_pos rfl] at H; exact H
          clear H
          have H := H1
          clear H1
          exact absurd H (by simp)
         ·replace c85 := Bool.eq_false_iff.mpr c85
          subst c85
          have H1 : (if t467 = true then (laws_FnProofs.l0 kj22 t456 (([] : List (S43))) 0 t459 t460 t461 t464) else ((laws_likeProof.f kj22 t459 t460 t461 t464 0 0 ([] : List Int) ([] : List Int)).bind fun t513 => (some t513))) = some r := by rw [if_neg (show ¬ (false = true) by decide)] at H; exact H
          clear H
          have H := H1
          clear H1
          by_cases c86 : t467 = true
          ·subst c86
           have H1 : (laws_FnProofs.l0 kj22 t456 (([] : List (S43))) 0 t459 t460 t461 t464) = some r := by rw [if_pos rfl] at H; exact H
           clear H
           have H := H1
           clear H1
           obtain ⟨y514, hy514⟩ : ∃ y_ : List (S43), y_ = (([] : List (S43))) := ⟨_, rfl⟩
           replace H : (laws_FnProofs.l0 kj22 t456 y514 0 t459 t460 t461 t464) = some r := by first | (rw [hy514]; with_reducible exact H) | (have H2_ := (Option.bind_some _ _).symm.trans H; rw [hy514]; with_reducible exact H2_) | (have H2_ := (Option.bind_some _ _).symm.trans H; with_reducible exact H2_) | with_reducible exact H | (rw [hy514]; exact H) | exact H
           have Ny514 := Aside0.mk hy514
           clear hy514
           have H' := Aside0.mk H
           clear H
           go_wp2_with (first | ((with_reducible refine gate_dst (N := 113) rfl ?_); (try (refine gate_guard (by rfl) ?_; dsimp only)); refine Kd.R_lit k43 _ 43 ?hg (N := 113) ?hd (xs := ([] : List (S43))) (inner := []) (ok := fun _ => True) (okp := fun _ => True) ?hr ?hp (fun _ hk => hk) trivial (Below.refl _ _) (Nat.le_refl _) (by simp) ?_; (case hd => rfl); (case hg => rfl); (case hr => first | (go_simp; done) | (go_simp; rfl)); (case hp => exact (Reps.none _ _)); intro v515 w87 ho88 hb hg_ hnew_; clear hg_ hnew_; (first | rw [← Ny514.out] at ho88 | (simp only [Int.reduceToNat] at ho88; rw [← Ny514.out] at ho88)); have n0_ := Aside0.mk (Kd.Q_below d59 hb); have n1_ := Aside0.mk (Kd.R_below d60 hb); have n2_ := Aside0.mk (Kd.Q_below d82 hb); have n3_ := Aside0.mk (Kd.R_below d83 hb); have n4_ := Aside0.mk (Kd.Q_below d84 hb); have n5_ := Aside0.mk (Kd.R_below d85 hb); have n6_ := Aside0.mk (Kd.R_lower (Kd.R_newB (Kd.R_newB ho88 (g := gb484) (o := .cells #[.int .i64 t479, .int .i64 t480, .int .i64 t481, .int .i64 t482] 43 (0, 0)) d8) (g := gb492) (o := .cells #[.int .i64 t488, .int .i64 t489, .int .i64 t490, .int .i64 t491] 43 (0, 0)) d10) (below_size d2)); have n7_ := Aside0.mk (blk_below (g := gb468) (o := .cells #[.int .i64 t459, .int .i64 t460, .slice Ao29 t461.length co29, .slice Ao30 t464.length co30] 26 (0, 0)) d5 hb); have n8_ := Aside0.mk (blk_below (g := gb478) (o := .cells #[.int .i64 t469, .int .i64 t470, .slice Ao35 t471.length co35, .slice Ao36 t474.length co36] 26 (0, 0)) d7 hb); have n9_ := Aside0.mk (blk_below (g := gb484) (o := .cells #[.int .i64 t479, .int .i64 t480, .int .i64 t481, .int .i64 t482] 43 (0, 0)) d8 hb); have n10_ := Aside0.mk (blk_below (g := gb492) (o := .cells #[.int .i64 t488, .int .i64 t489, .int .i64 t490, .int .i64 t491] 43 (0, 0)) d10 hb); have n11_ := Aside0.mk (blk_below (g := gb502) (o := .cells #[.int .i64 t493, .int .i64 t494, .slice Ao56 t495.length co56, .slice Ao57 t498.length co57] 26 (0, 0)) d30 hb); have n12_ := Aside0.mk (below_step d2 hb); clear HO_469002; clear HO_469003; clear HO_479002; clear HO_479003; clear HO_503002; clear HO_503003; clear BK468; clear BK478; clear BK484; clear BK492; clear BK502; clear HB; have HO_469002 := n0_; have HO_469003 := n1_; have HO_479002 := n2_; have HO_479003 := n3_; have HO_503002 := n4_; have HO_503003 := n5_; have HO516 := n6_; have BK468 := n7_; have BK478 := n8_; have BK484 := n9_; have BK492 := n10_; have BK502 := n11_; have HB := n12_; clear n0_ n1_ n2_ n3_ n4_ n5_ n6_ n7_ n8_ n9_ n10_ n11_ n12_; clear hb ho88))
           go_loopg [17, 18] kj22 (fun kq v17 v18 w' => ∃ (x17_2 : List (S43)) (x18_2 : Int), v18 = .int .i64 x18_2 ∧ Aside0 (laws_FnProofs.l0 kq t456 x17_2 x18_2 t459 t460 t461 t464 = some r) ∧ Aside0 (kq ≤ kj22) ∧ Aside0 (Kd.R k43 43 w' w.heap.size (fun k_ => k_ ≠ gb484 ∧ k_ ≠ gb492) v17 x17_2) ∧ Aside0 (Kd.Q (Kd.int .i64) 2 w' w.heap.size (fun k_ => some k_ ≠ ((.slice Ao30 t464.length co30) : Value).ownBlock ∧ some k_ ≠ ((.slice Ao35 t471.length co35) : Value).ownBlock ∧ some k_ ≠ ((.slice Ao36 t474.length co36) : Value).ownBlock ∧ some k_ ≠ ((.slice Ao56 t495.length co56) : Value).ownBlock ∧ some k_ ≠ ((.slice Ao57 t498.length co57) : Value).ownBlock) (.slice Ao29 t461.length co29) t461) ∧ Aside0 (Kd.R (Kd.int .i64) 2 w' w.heap.size (fun k_ => some k_ ≠ ((.slice Ao29 t461.length co29) : Value).ownBlock ∧ some k_ ≠ ((.slice Ao35 t471.length co35) : Value).ownBlock ∧ some k_ ≠ ((.slice Ao36 t474.length co36) : Value).ownBlock ∧ some k_ ≠ ((.slice Ao56 t495.length co56) : Value).ownBlock ∧ some k_ ≠ ((.slice Ao57 t498.length co57) : Value).ownBlock) (.slice Ao30 t464.length co30) t464) ∧ Aside0 (Kd.Q (Kd.int .i64) 2 w' w.heap.size (fun k_ => some k_ ≠ ((.slice Ao29 t461.length co29) : Value).ownBlock ∧ some k_ ≠ ((.slice Ao30 t464.length co30) : Value).ownBlock ∧ some k_ ≠ ((.slice Ao36 t474.length co36) : Value).ownBlock ∧ some k_ ≠ ((.slice Ao56 t495.length co56) : Value).ownBlock ∧ some k_ ≠ ((.slice Ao57 t498.length co57) : Value).ownBlock) (.slice Ao35 t471.length co35) t471) ∧ Aside0 (Kd.R (Kd.int .i64) 2 w' w.heap.size (fun k_ => some k_ ≠ ((.slice Ao29 t461.length co29) : Value).ownBlock ∧ some k_ ≠ ((.slice Ao30 t464.length co30) : Value).ownBlock ∧ some k_ ≠ ((.slice Ao35 t471.length co35) : Value).ownBlock ∧ some k_ ≠ ((.slice Ao56 t495.length co56) : Value).ownBlock ∧ some k_ ≠ ((.slice Ao57 t498.length co57) : Value).ownBlock) (.slice Ao36 t474.length co36) t474) ∧ Aside0 (Kd.Q (Kd.int .i64) 2 w' w.heap.size (fun k_ => some k_ ≠ ((.slice Ao29 t461.length co29) : Value).ownBlock ∧ some k_ ≠ ((.slice Ao30 t464.length co30) : Value).ownBlock ∧ some k_ ≠ ((.slice Ao35 t471.length co35) : Value).ownBlock ∧ some k_ ≠ ((.slice Ao36 t474.length co36) : Value).ownBlock ∧ some k_ ≠ ((.slice Ao57 t498.length co57) : Value).ownBlock) (.slice Ao56 t495.length co56) t495) ∧ Aside0 (Kd.R (Kd.int .i64) 2 w' w.heap.size (fun k_ => some k_ ≠ ((.slice Ao29 t461.length co29) : Value).ownBlock ∧ some k_ ≠ ((.slice Ao30 t464.length co30) : Value).ownBlock ∧ some k_ ≠ ((.slice Ao35 t471.length co35) : Value).ownBlock ∧ some k_ ≠ ((.slice Ao36 t474.length co36) : Value).ownBlock ∧ some k_ ≠ ((.slice Ao56 t495.length co56) : Value).ownBlock) (.slice Ao57 t498.length co57) t498) ∧ Aside0 (w'.heap[gb468]? = some (.cells #[.int .i64 t459, .int .i64 t460, (.slice Ao29 t461.length co29), (.slice Ao30 t464.length co30)] 26 (0, 0))) ∧ Aside0 (w'.heap[gb478]? = some (.cells #[.int .i64 t469, .int .i64 t470, (.slice Ao35 t471.length co35), (.slice Ao36 t474.length co36)] 26 (0, 0))) ∧ Aside0 (w'.heap[gb484]? = some (.cells #[.int .i64 t479, .int .i64 t480, .int .i64 t481, .int .i64 t482] 43 (0, 0))) ∧ Aside0 (w'.heap[gb492]? = some (.cells #[.int .i64 t488, .int .i64 t489, .int .i64 t490, .int .i64 t491] 43 (0, 0))) ∧ Aside0 (w'.heap[gb502]? = some (.cells #[.int .i64 t493, .int .i64 t494, (.slice Ao56 t495.length co56), (.slice Ao57 t498.length co57)] 26 (0, 0))) ∧ Aside0 (Below w.heap.size w w'))
           case atStart => exact ⟨(y514), (0), d9, H', ⟨Nat.le_refl _⟩, ⟨(by (with_reducible repeat (first | apply Kd.R_alloc | apply Kd.R_drewN | apply Kd.R_drew)); exact Kd.R_mono HO516.out (fun _ hk => And.intro hk.1.2 hk.2))⟩, ⟨(by (with_reducible repeat (first | apply Kd.Q_alloc | apply Kd.Q_drewN | apply Kd.Q_drew)); exact HO_469002.out)⟩, ⟨(by (with_reducible repeat (first | apply Kd.R_alloc | apply Kd.R_drewN | apply Kd.R_drew)); exact HO_469003.out)⟩, ⟨(by (with_reducible repeat (first | apply Kd.Q_alloc | apply Kd.Q_drewN | apply Kd.Q_drew)); exact HO_479002.out)⟩, ⟨(by (with_reducible repeat (first | apply Kd.R_alloc | apply Kd.R_drewN | apply Kd.R_drew)); exact HO_479003.out)⟩, ⟨(by (with_reducible repeat (first | apply Kd.Q_alloc | apply Kd.Q_drewN | apply Kd.Q_drew)); exact HO_503002.out)⟩, ⟨(by (with_reducible repeat (first | apply Kd.R_alloc | apply Kd.R_drewN | apply Kd.R_drew)); exact HO_503003.out)⟩, ⟨o52⟩, ⟨o53⟩, ⟨o54⟩, ⟨o55⟩, ⟨o56⟩, ⟨o20⟩⟩
           case round =>
            clear H'
            try clear c2
            try clear p2
            try clear c6
            try clear c7
            try clear c8
            try clear c23
            try clear c24
            try clear c25
            try clear c26
            try clear c27
            try clear c66
            try clear c66b0
            try clear c67
            try clear c67b0
            try clear c69
            try clear c70
            try clear c71
            try clear c72
            try clear c75
            try clear c76
            try clear c77
            try clear c78
            try clear c80
            try clear c81
            try clear c82
            try clear c83
            try clear c85
            try clear c86
            try clear hcz73_0
            try clear hcz73_1
            try clear hcz73_2
            try clear hcz73_3
            try clear hcz79_0
            try clear hcz79_1
            try clear hcz79_2
            try clear hcz79_3
            try clear hcz84_0
            try clear hcz84_1
            try clear hcz84_2
            try clear hcz84_3
            try clear hfz73_0
            try clear hfz73_1
            try clear hfz73_2
            try clear hfz73_3
            try clear hfz79_0
            try clear hfz79_1
            try clear hfz79_2
            try clear hfz79_3
            try clear hfz84_0
            try clear hfz84_1
            try clear hfz84_2
            try clear hfz84_3
            try clear p2
            obtain ⟨x17_2, x18_2, rfl, HA, HK2, HO_17, HO_469002, HO_469003, HO_479002, HO_479003, HO_503002, HO_503003, BK468, BK478, BK484, BK492, BK502, HB⟩ := hrel
            cases gk with
            | zero => exact absurd HA.out (by simp [laws_FnProofs.l0])
            | succ k2 =>
             have H := HA.out
             clear HA
             simp only [laws_FnProofs.l0] at H
             replace H := Option.bind_eq_some_iff.mp H
             obtain ⟨t517, A890, H⟩ := H
             replace H : (if x18_2 < (wrap64 (t517 - 1)) then (if 0 ≤ x18_2 then (if x18_2 < (t461.length : Int) then ((spec_Voted.f k2 (rd t461 x18_2) t459 t460).bind fun bt519 => (if x17_2.length < 4398046511104 then (laws_FnProofs.l0 k2 t456 (x17_2 ++ [(⟨bt519.1, bt519.2.1, bt519.2.2.1, bt519.2.2.2⟩ : S43)]) (wrap64 (x18_2 + 1)) t459 t460 t461 t464) else (none))) else (none)) else (none)) else (if x17_2.length + x17_2.length < 4398046511104 then ((impl_Gathered.f k2 (x17_2 ++ x17_2) t456).bind fun bt529 => ((impl_ProofOk.f k2 t459 t460 t461 t464 t456).bind fun t539 => (if t539 = true then ((spec_Quorum.f t456).bind fun t540 => (if (t461.length : Int) ≥ t540 then (some (!bt529.2.2.2.2)) else (none))) else (none)))) else (none))) = some r := H
             have A89 := Aside0.mk A890
             clear A890
             have HC90 := Aside0.mk H
             clear H
             go_upto_if 118 with (first | ((with_reducible refine gate_callee (f := 28) rfl ?_); refine goesL_ (some 116) rfl rfl Tryd.func28 (by kernel_rfl) rfl #[.int .i64 t456] rfl d0 ?_; (with_reducible refine (spec_Quorum.calls t456 t517 _ A89.out).mono ?_); rintro e w' ⟨rfl, ⟨nd, rfl⟩⟩; refine ⟨_, rfl, ?_⟩))
             (try simp only [Act.put, List.setIfInBounds_toArray, List.set_cons_zero, List.set_cons_succ])
             (try (rw [drewN_self wr]; generalize hq_ : World.drewN wr _ = wr; have n0_ := Aside0.mk (Kd.R_at hq_ HO_17.out); have n1_ := Aside0.mk (Kd.Q_at hq_ HO_469002.out); have n2_ := Aside0.mk (Kd.R_at hq_ HO_469003.out); have n3_ := Aside0.mk (Kd.Q_at hq_ HO_479002.out); have n4_ := Aside0.mk (Kd.R_at hq_ HO_479003.out); have n5_ := Aside0.mk (Kd.Q_at hq_ HO_503002.out); have n6_ := Aside0.mk (Kd.R_at hq_ HO_503003.out); have n7_ := Aside0.mk (blk_at hq_ BK468.out); have n8_ := Aside0.mk (blk_at hq_ BK478.out); have n9_ := Aside0.mk (blk_at hq_ BK484.out); have n10_ := Aside0.mk (blk_at hq_ BK492.out); have n11_ := Aside0.mk (blk_at hq_ BK502.out); have n12_ := Aside0.mk (below_at hq_ HB.out); clear hq_ HO_17 HO_469002 HO_469003 HO_479002 HO_479003 HO_503002 HO_503003 BK468 BK478 BK484 BK492 BK502 HB; have HO_17 := n0_; have HO_469002 := n1_; have HO_469003 := n2_; have HO_479002 := n3_; have HO_479003 := n4_; have HO_503002 := n5_; have HO_503003 := n6_; have BK468 := n7_; have BK478 := n8_; have BK484 := n9_; have BK492 := n10_; have BK502 := n11_; have HB := n12_; clear n0_ n1_ n2_ n3_ n4_ n5_ n6_ n7_ n8_ n9_ n10_ n11_ n12_))
             have H := HC90.out
             clear HC90
             by_cases c91 : x18_2 < (wrap64 (t517 - 1))
             ·rw [if_pos c91] at H
              have c91b0 : decide (x18_2 < (wrap64 (t517 - 1))) = true := decide_eq_true c91
              clear c91
              (first | rw [c91b0] | (simp only [i64_w, i32_w]; rw [c91b0]) | skip)
              by_cases c92 : 0 ≤ x18_2
              ·rw [if_pos c92] at H
               have c92b0 : decide (0 ≤ x18_2) = true := decide_eq_true c92
               clear c92
               by_cases c93 : x18_2 < (t461.length : Int)
               ·rw [if_pos c93] at H
                have c93b0 : decide (x18_2 < (t461.length : Int)) = true := decide_eq_true c93
                clear c93
                replace H := Option.bind_eq_some_iff.mp H
                obtain ⟨⟨t519, t520, t521, t522⟩, A940, H⟩ := H
                replace H : (if x17_2.length < 4398046511104 then (laws_FnProofs.l0 k2 t456 (x17_2 ++ [(⟨t519, t520, t521, t522⟩ : S43)]) (wrap64 (x18_2 + 1)) t459 t460 t461 t464) else (none)) = some r := H
                have A94 := Aside0.mk A940
                clear A940
                by_cases c95 : x17_2.length < 4398046511104
                ·rw [if_pos c95] at H
                 have LMc95 := Aside0.mk c95
                 clear c95
                 obtain ⟨y523, hy523⟩ : ∃ y_ : List (S43), y_ = (x17_2 ++ [(⟨t519, t520, t521, t522⟩ : S43)]) := ⟨_, rfl⟩
                 replace H : (laws_FnProofs.l0 k2 t456 y523 (wrap64 (x18_2 + 1)) t459 t460 t461 t464) = some r := by first | (rw [hy523]; with_reducible exact H) | (have H2_ := (Option.bind_some _ _).symm.trans H; rw [hy523]; with_reducible exact H2_) | (have H2_ := (Option.bind_some _ _).symm.trans H; with_reducible exact H2_) | with_reducible exact H | (rw [hy523]; exact H) | exact H
                 have Ny523 := Aside0.mk hy523
                 clear hy523
                 have H' := Aside0.mk H
                 clear H
                 try go_wp2
                 have n0_ := Aside0.mk (Kd.R_drew HO_17.out)
                 have n1_ := Aside0.mk (Kd.Q_drew HO_469002.out)
                 have n2_ := Aside0.mk (Kd.R_drew HO_469003.out)
                 have n3_ := Aside0.mk (Kd.Q_drew HO_479002.out)
                 have n4_ := Aside0.mk (Kd.R_drew HO_479003.out)
                 have n5_ := Aside0.mk (Kd.Q_drew HO_503002.out)
                 have n6_ := Aside0.mk (Kd.R_drew HO_503003.out)
                 have n7_ := Aside0.mk (blk_drew BK468.out)
                 have n8_ := Aside0.mk (blk_drew BK478.out)
                 have n9_ := Aside0.mk (blk_drew BK484.out)
                 have n10_ := Aside0.mk (blk_drew BK492.out)
                 have n11_ := Aside0.mk (blk_drew BK502.out)
                 have n12_ := Aside0.mk (below_drew1 HB.out)
                 clear HO_17
                 clear HO_469002
                 clear HO_469003
                 clear HO_479002
                 clear HO_479003
                 clear HO_503002
                 clear HO_503003
                 clear BK468
                 clear BK478
                 clear BK484
                 clear BK492
                 clear BK502
                 clear HB
                 have HO_17 := n0_
                 have HO_469002 := n1_
                 have HO_469003 := n2_
                 have HO_479002 := n3_
                 have HO_479003 := n4_
                 have HO_503002 := n5_
                 have HO_503003 := n6_
                 have BK468 := n7_
                 have BK478 := n8_
                 have BK484 := n9_
                 have BK492 := n10_
                 have BK502 := n11_
                 have HB := n12_
                 clear n0_ n1_ n2_ n3_ n4_ n5_ n6_ n7_ n8_ n9_ n10_ n11_ n12_
                 have p518 : 0 ≤ (x18_2 : Int) := od_
                 have q518 : x18_2 < (t461.length : Int) := od_
                 obtain ⟨ad518, e518, hx518_0⟩ := Kd.at_int (Kd.Q_reads' HO_469002.out).2.2 x18_2 p518 q518
                 cases e518
                 replace p518 := eq_true p518
                 replace q518 := eq_true q518
                 refine start_ (n := 14) (S := fun w' => w'.cell? ⟨gb468, 0, none⟩ = some (.int .i64 t459) ∧ w'.cell? ⟨gb468, 1, none⟩ = some (.int .i64 t460) ∧ w'.cell? ⟨gb468, 2, none⟩ = some (.slice (some ad518) t461.length co29) ∧ w'.cell? ⟨gb468, 3, none⟩ = some (.slice Ao30 t464.length co30) ∧ w'.cell? (ad518.add (x18_2).toNat) = some (.int .i64 (rd t461 x18_2))) (ds := [11, 12]) (bA 14 0) (by kernel_rfl) rfl rfl ⟨(blk_cell BK468.out 0).trans rfl, (blk_cell BK468.out 1).trans rfl, (blk_cell BK468.out 2).trans rfl, (blk_cell BK468.out 3).trans rfl, hx518_0⟩ (fun hHeld => ?_); refine with_tabW laws_FnProofs.tab20 laws_FnProofs.bits20 (fun HT_ HW_ => ?_)
                 generalize wr.drew = w96 at HO_17 HO_469002 HO_469003 HO_479002 HO_479003 HO_503002 HO_503003 BK468 BK478 BK484 BK492 BK502 HB hx518_0 hHeld ⊢
                 refine pv (i := 0) (N := some 121) (bA 14 1) rfl rfl o0 ?_
                 refine pv (i := 1) (N := some 122) (bA 14 3) rfl rfl o0 ?_
                 refine pv (i := 3) (N := some 124) (bA 14 11) rfl rfl o0 ?_
                 refine pv (i := 6) (N := some 127) (bA 14 75) rfl rfl o0 ?_
                 refine pv (i := 8) (N := some 129) (bA 14 331) rfl rfl o0 ?_
                 refine take_ (i := 2) (N := some 123) (v := ?_) (a' := ?_) (bA 14 335) rfl rfl o5 (fun _ _ _ h => h) (Or.inl ⟨(by rfl), ?_⟩) hHeld ?_ ?_
                 rotate_left
                 ·rintro w' ⟨s0, s1, s2, s3, s4⟩
                  go_simp
                  with_reducible rfl
                 rotate_left
                 ·simp only [sp_]
                  rfl
                 refine pv (i := 4) (N := some 125) (bA 14 351) rfl rfl o0 ?_
                 refine take_ (i := 5) (N := some 126) (v := ?_) (a' := ?_) (bA 14 383) rfl rfl o5 (fun _ _ _ h => h) (Or.inl ⟨(by rfl), ?_⟩) hHeld ?_ ?_
                 rotate_left
                 ·rintro w' ⟨s0, s1, s2, s3, s4⟩
                  go_simp
                  with_reducible rfl
                 rotate_left
                 ·simp only [sp_]
                  rfl
                 refine take_ (i := 7) (N := some 128) (v := ?_) (a' := ?_) (bA 14 511) rfl rfl o5 (fun _ _ _ h => h) (Or.inl ⟨(by rfl), ?_⟩) hHeld ?_ ?_
                 rotate_left
                 ·rintro w' ⟨s0, s1, s2, s3, s4⟩
                  go_simp
                  with_reducible rfl
                 rotate_left
                 ·simp only [sp_]
                  rfl
                 refine take_ (i := 9) (N := some 130) (v := ?_) (a' := ?_) (bA 14 1023) rfl rfl o5 (fun _ _ _ h => h) (Or.inl ⟨(by rfl), ?_⟩) hHeld ?_ ?_
                 rotate_left
                 ·rintro w' ⟨s0, s1, s2, s3, s4⟩
                  go_simp
                  with_reducible rfl
                 rotate_left
                 ·simp only [sp_]
                  rfl
                 refine one_ (i := 10) (N := some 131) (bA 14 2047) rfl rfl (one_of HT_.out (by kernel_rfl)) (by decide) (fun K hK => ?_)
                 refine goes_ Tryd.func27 (by kernel_rfl) rfl #[.int .i64 (rd t461 x18_2), .int .i64 t459, .int .i64 t460] (by rfl) rfl rfl d0 ?_
                 with_reducible refine (spec_Voted.calls k2 (rd t461 x18_2) t459 t460 t519 t520 t521 t522 _ A94.out).mono ?_
                 rintro e w97 ⟨rfl, hb⟩
                 have HS4_ := (hb.cell (World.block_lt_of_cell? _ _ (hHeld.2.2.2.2))).trans (hHeld.2.2.2.2)
                 refine ⟨_, rfl, ?_⟩
                 have n0_ := Aside0.mk (Kd.R_below d37 hb)
                 have n1_ := Aside0.mk (Kd.Q_below d59 hb)
                 have n2_ := Aside0.mk (Kd.R_below d60 hb)
                 have n3_ := Aside0.mk (Kd.Q_below d82 hb)
                 have n4_ := Aside0.mk (Kd.R_below d83 hb)
                 have n5_ := Aside0.mk (Kd.Q_below d84 hb)
                 have n6_ := Aside0.mk (Kd.R_below d85 hb)
                 have n7_ := Aside0.mk (blk_below (g := gb468) (o := .cells #[.int .i64 t459, .int .i64 t460, .slice (some ad518) t461.length co29, .slice Ao30 t464.length co30] 26 (0, 0)) d5 hb)
                 have n8_ := Aside0.mk (blk_below (g := gb478) (o := .cells #[.int .i64 t469, .int .i64 t470, .slice Ao35 t471.length co35, .slice Ao36 t474.length co36] 26 (0, 0)) d7 hb)
                 have n9_ := Aside0.mk (blk_below (g := gb484) (o := .cells #[.int .i64 t479, .int .i64 t480, .int .i64 t481, .int .i64 t482] 43 (0, 0)) d8 hb)
                 have n10_ := Aside0.mk (blk_below (g := gb492) (o := .cells #[.int .i64 t488, .int .i64 t489, .int .i64 t490, .int .i64 t491] 43 (0, 0)) d10 hb)
                 have n11_ := Aside0.mk (blk_below (g := gb502) (o := .cells #[.int .i64 t493, .int .i64 t494, .slice Ao56 t495.length co56, .slice Ao57 t498.length co57] 26 (0, 0)) d30 hb)
                 have n12_ := Aside0.mk (below_step d2 hb)
                 clear HO_17
                 clear HO_469002
                 clear HO_469003
                 clear HO_479002
                 clear HO_479003
                 clear HO_503002
                 clear HO_503003
                 clear BK468
                 clear BK478
                 clear BK484
                 clear BK492
                 clear BK502
                 clear HB
                 have HO_17 := n0_
                 have HO_469002 := n1_
                 have HO_469003 := n2_
                 have HO_479002 := n3_
                 have HO_479003 := n4_
                 have HO_503002 := n5_
                 have HO_503003 := n6_
                 have BK468 := n7_
                 have BK478 := n8_
                 have BK484 := n9_
                 have BK492 := n10_
                 have BK502 := n11_
                 have HB := n12_
                 clear n0_ n1_ n2_ n3_ n4_ n5_ n6_ n7_ n8_ n9_ n10_ n11_ n12_
                 (try clear hb)
                 (try clear hb2)
                 (try clear hk)
                 (try clear hi)
                 refine hK.out _ _ ⟨(blk_cell BK468.out 0).trans rfl, (blk_cell BK468.out 1).trans rfl, (blk_cell BK468.out 2).trans rfl, (blk_cell BK468.out 3).trans rfl, HS4_⟩ (fun hHeld => ?_)
                 clear hK K
                 refine norm_ (a' := ?_) ?_ ?_
                 rotate_left
                 ·show Act.put _ (some 131) _ = _
                  simp only [sp_]
                  rfl
                 refine last_ (i := 11) (N := some 132) (bA 14 4095) rfl rfl (one_of HT_.out (by kernel_rfl)) (by decide) (fun K hK => ?_)
                 refine value_ (w1 := ?_) (v := ?_) (by rfl) rfl ?_ ?_
                 rotate_left 2
                 ·go_simp
                  constructor
                  ·rfl
                  ·rfl
                 refine hK.out _ _ ?_
                 clear hK K
                 refine norm_ (a' := ?_) ?_ ?_
                 rotate_left
                 ·show Act.put _ (some 132) _ = _
                  simp only [sp_]
                  rfl
                 refine last_ (i := 12) (N := some 133) (bA 14 8191) rfl rfl (one_of HT_.out (by kernel_rfl)) (by decide) (fun K hK => ?_)
                 refine Kd.R_append_step k43 (w0 := w) w.heap.size (by rfl) (.tmp 121) (.tmp 132) 29 43 (.agg #[(.int .i64 0), (.int .i64 0), (.int .i64 0), (.int .i64 0)]) 32 rfl Tryd.underlying29 info43 rfl (by decide) (by omega) u17 x17_2 (⟨t519, t520, t521, t522⟩ : S43) [.int .i64 t519, .int .i64 t520, .int .i64 t521, .int .i64 t522] (fun k_ => k_ ≠ gb484 ∧ k_ ≠ gb492) (fun _ => False) rfl rfl ?aP (fun _ hk => hk.elim) ?aF ?aO ?aB ?aS ?aL ?_
                 (case aP => exact k43_mkM _ _ _ (⟨t519, t520, t521, t522⟩ : S43))
                 (case aB => exact d2)
                 (case aF => exact (fun k_ hk => ⟨Kd.freshB (g := gb484) (o := .cells #[.int .i64 t479, .int .i64 t480, .int .i64 t481, .int .i64 t482] 43 (0, 0)) d8 k_ hk, Kd.freshB (g := gb492) (o := .cells #[.int .i64 t488, .int .i64 t489, .int .i64 t490, .int .i64 t491] 43 (0, 0)) d10 k_ hk⟩))
                 (case aO => exact d37)
                 (case aS => exact (below_size d2))
                 (case aL => have := LMc95.out; omega)
                 intro v524 w98 ho hb hg hat
                 rw [← Ny523.out] at ho
                 have n0_ := Aside0.mk (Kd.Q_over' d59 (Kd.R_typed d37) (by decide) hg)
                 have n1_ := Aside0.mk (Kd.R_over' d60 (Kd.R_typed d37) (by decide) hg)
                 have n2_ := Aside0.mk (Kd.Q_over' d82 (Kd.R_typed d37) (by decide) hg)
                 have n3_ := Aside0.mk (Kd.R_over' d83 (Kd.R_typed d37) (by decide) hg)
                 have n4_ := Aside0.mk (Kd.Q_over' d84 (Kd.R_typed d37) (by decide) hg)
                 have n5_ := Aside0.mk (Kd.R_over' d85 (Kd.R_typed d37) (by decide) hg)
                 have n6_ := Aside0.mk (blk_grown (g := gb468) (o := .cells #[.int .i64 t459, .int .i64 t460, .slice (some ad518) t461.length co29, .slice Ao30 t464.length co30] 26 (0, 0)) d5 hg (Kd.R_ne HO_17.out BK468.out (by decide)))
                 have n7_ := Aside0.mk (blk_grown (g := gb478) (o := .cells #[.int .i64 t469, .int .i64 t470, .slice Ao35 t471.length co35, .slice Ao36 t474.length co36] 26 (0, 0)) d7 hg (Kd.R_ne HO_17.out BK478.out (by decide)))
                 have n8_ := Aside0.mk (blk_grown (g := gb484) (o := .cells #[.int .i64 t479, .int .i64 t480, .int .i64 t481, .int .i64 t482] 43 (0, 0)) d8 hg (Kd.R_away HO_17.out (fun _ hk => hk.1)))
                 have n9_ := Aside0.mk (blk_grown (g := gb492) (o := .cells #[.int .i64 t488, .int .i64 t489, .int .i64 t490, .int .i64 t491] 43 (0, 0)) d10 hg (Kd.R_away HO_17.out (fun _ hk => hk.2)))
                 have n10_ := Aside0.mk (blk_grown (g := gb502) (o := .cells #[.int .i64 t493, .int .i64 t494, .slice Ao56 t495.length co56, .slice Ao57 t498.length co57] 26 (0, 0)) d30 hg (Kd.R_ne HO_17.out BK502.out (by decide)))
                 have n11_ := Aside0.mk (hb)
                 have n12_ := Aside0.mk (ho)
                 clear HO_469002
                 clear HO_469003
                 clear HO_479002
                 clear HO_479003
                 clear HO_503002
                 clear HO_503003
                 clear BK468
                 clear BK478
                 clear BK484
                 clear BK492
                 clear BK502
                 clear HB
                 clear HO_17
                 have HO_469002 := n0_
                 have HO_469003 := n1_
                 have HO_479002 := n2_
                 have HO_479003 := n3_
                 have HO_503002 := n4_
                 have HO_503003 := n5_
                 have BK468 := n6_
                 have BK478 := n7_
                 have BK484 := n8_
                 have BK492 := n9_
                 have BK502 := n10_
                 have HB := n11_
                 have HO525 := n12_
                 clear n0_ n1_ n2_ n3_ n4_ n5_ n6_ n7_ n8_ n9_ n10_ n11_ n12_
                 clear ho hb hg hat
                 refine hK.out _ _ ?_
                 clear hK K
                 refine norm_ (a' := ?_) ?_ ?_
                 rotate_left
                 ·show Act.put _ (some 133) _ = _
                  simp only [sp_]
                  rfl
                 refine pv (i := 13) (N := some 17) (bA 14 16383) rfl rfl o0 ?_
                 refine done_ (done_of HT_.out (by kernel_rfl)) ?_
                 try go_wp2
                 go_roundg k2
                 case measure => have := HJ22.out; have := HK2.out; omega
                 case rel => exact ⟨(y523), (wrap64 (x18_2 + 1)), d9, H', ⟨(by have := HJ22.out; have := HK2.out; omega)⟩, ⟨(by (with_reducible repeat (first | apply Kd.R_alloc | apply Kd.R_drewN | apply Kd.R_drew)); exact HO525.out)⟩, ⟨(by (with_reducible repeat (first | apply Kd.Q_alloc | apply Kd.Q_drewN | apply Kd.Q_drew)); exact HO_469002.out)⟩, ⟨(by (with_reducible repeat (first | apply Kd.R_alloc | apply Kd.R_drewN | apply Kd.R_drew)); exact HO_469003.out)⟩, ⟨(by (with_reducible repeat (first | apply Kd.Q_alloc | apply Kd.Q_drewN | apply Kd.Q_drew)); exact HO_479002.out)⟩, ⟨(by (with_reducible repeat (first | apply Kd.R_alloc | apply Kd.R_drewN | apply Kd.R_drew)); exact HO_479003.out)⟩, ⟨(by (with_reducible repeat (first | apply Kd.Q_alloc | apply Kd.Q_drewN | apply Kd.Q_drew)); exact HO_503002.out)⟩, ⟨(by (with_reducible repeat (first | apply Kd.R_alloc | apply Kd.R_drewN | apply Kd.R_drew)); exact HO_503003.out)⟩, ⟨o52⟩, ⟨o53⟩, ⟨o54⟩, ⟨o55⟩, ⟨o56⟩, ⟨o20⟩⟩
                ·rw [if_neg c95] at H
                 exact absurd H (by simp)
               ·rw [if_neg c93] at H
                exact absurd H (by simp)
              ·rw [if_neg c92] at H
               exact absurd H (by simp)
             ·rw [if_neg c91] at H
              have c91b0 : decide (x18_2 < (wrap64 (t517 - 1))) = false := decide_eq_false c91
              clear c91
              (first | rw [c91b0] | (simp only [i64_w, i32_w]; rw [c91b0]) | skip)
              by_cases c99 : x17_2.length + x17_2.length < 4398046511104
              ·rw [if_pos c99] at H
               have LMc99 := Aside0.mk c99
               clear c99
               obtain ⟨y526, hy526⟩ : ∃ y_ : List (S43), y_ = (x17_2 ++ x17_2) := ⟨_, rfl⟩
               replace H : ((impl_Gathered.f k2 y526 t456).bind fun bt529 => ((impl_ProofOk.f k2 t459 t460 t461 t464 t456).bind fun t539 => (if t539 = true then ((spec_Quorum.f t456).bind fun t540 => (if (t461.length : Int) ≥ t540 then (some (!bt529.2.2.2.2)) else (none))) else (none)))) = some r := by first | (rw [hy526]; with_reducible exact H) | (have H2_ := (Option.bind_some _ _).symm.trans H; rw [hy526]; with_reducible exact H2_) | (have H2_ := (Option.bind_some _ _).symm.trans H; with_reducible exact H2_) | with_reducible exact H | (rw [hy526]; exact H) | exact H
               have Ny526 := Aside0.mk hy526
               clear hy526
               replace H := Option.bind_eq_some_iff.mp H
               obtain ⟨⟨t529, t530, t531, t534, t537⟩, A1000, H⟩ := H
               replace H : ((impl_ProofOk.f k2 t459 t460 t461 t464 t456).bind fun t539 => (if t539 = true then ((spec_Quorum.f t456).bind fun t540 => (if (t461.length : Int) ≥ t540 then (some (!t537)) else (none))) else (none))) = some r := H
               have A100 := Aside0.mk A1000
               clear A1000
               replace H := Option.bind_eq_some_iff.mp H
               obtain ⟨t539, A1010, H⟩ := H
               replace H : (if t539 = true then ((spec_Quorum.f t456).bind fun t540 => (if (t461.length : Int) ≥ t540 then (some (!t537)) else (none))) else (none)) = some r := H
               have A101 := Aside0.mk A1010
               clear A1010
               by_cases c102 : t539 = true
               ·subst c102
                have H1 : ((spec_Quorum.f t456).bind fun t540 => (if (t461.length : Int) ≥ t540 then (some (!t537)) else (none))) = some r := by rw [if_pos rfl] at H; exact H
                clear H
                have H := H1
                clear H1
                replace H := Option.bind_eq_some_iff.mp H
                obtain ⟨t540, A1030, H⟩ := H
                replace H : (if (t461.length : Int) ≥ t540 then (some (!t537)) else (none)) = some r := H
                have A103 := Aside0.mk A1030
                clear A1030
                by_cases c104 : (t461.length : Int) ≥ t540
                ·rw [if_pos c104] at H
                 have c104b0 : decide (t540 ≤ (t461.length : Int)) = true := decide_eq_true c104
                 clear c104
                 obtain rfl := Option.some.inj H
                 obtain ⟨Ao106, co106, eo106⟩ := Kd.R_slice HO_17.out
                 subst eo106
                 try go_wp2_with (first | ((with_reducible refine gate_builtin (b := .append) (xs := #[.tmp 135, .tmp 136]) rfl ?_); (try (refine gate_guard (by rfl) ?_; dsimp only)); at_builtin; refine Kd.R_append_rows k43 (w0 := w) w.heap.size rfl (.tmp 135) (.tmp 136) 29 43 (.agg #[(.int .i64 0), (.int .i64 0), (.int .i64 0), (.int .i64 0)]) 32 rfl Tryd.underlying29 info43 rfl (by decide) (by omega) (.slice Ao106 x17_2.length co106) x17_2 x17_2 _ _ _ (fun k_ => k_ ≠ gb484 ∧ k_ ≠ gb492) (fun _ => False) rfl rfl ?aO ?aR (fun _ _ h => h) (fun _ h => h.elim) ?aF ?aB ?aS ?aL ?_; (case aR => repeat (first | exact (Kd.R_reads' HO_17.out).2.2 | (with_reducible refine Kd.C_alloc ?_ _) | (with_reducible refine Kd.C_drewN ?_ _) | (with_reducible refine Kd.C_drew ?_))); (case aB => exact d2); (case aF => exact (fun k_ hk => ⟨Kd.freshB (g := gb484) (o := .cells #[.int .i64 t479, .int .i64 t480, .int .i64 t481, .int .i64 t482] 43 (0, 0)) d8 k_ hk, Kd.freshB (g := gb492) (o := .cells #[.int .i64 t488, .int .i64 t489, .int .i64 t490, .int .i64 t491] 43 (0, 0)) d10 k_ hk⟩)); (case aO => exact d37); (case aS => exact (below_size d2)); (case aL => have := LMc99.out; omega); intro v527 w105 ho hb hg hat; rw [← Ny526.out] at ho; have n0_ := Aside0.mk (Kd.Q_over' d59 (Kd.R_typed d37) (by decide) hg); have n1_ := Aside0.mk (Kd.R_over' d60 (Kd.R_typed d37) (by decide) hg); have n2_ := Aside0.mk (Kd.Q_over' d82 (Kd.R_typed d37) (by decide) hg); have n3_ := Aside0.mk (Kd.R_over' d83 (Kd.R_typed d37) (by decide) hg); have n4_ := Aside0.mk (Kd.Q_over' d84 (Kd.R_typed d37) (by decide) hg); have n5_ := Aside0.mk (Kd.R_over' d85 (Kd.R_typed d37) (by decide) hg); have n6_ := Aside0.mk (blk_grown (g := gb468) (o := .cells #[.int .i64 t459, .int .i64 t460, .slice Ao29 t461.length co29, .slice Ao30 t464.length co30] 26 (0, 0)) d5 hg (Kd.R_ne HO_17.out BK468.out (by decide))); have n7_ := Aside0.mk (blk_grown (g := gb478) (o := .cells #[.int .i64 t469, .int .i64 t470, .slice Ao35 t471.length co35, .slice Ao36 t474.length co36] 26 (0, 0)) d7 hg (Kd.R_ne HO_17.out BK478.out (by decide))); have n8_ := Aside0.mk (blk_grown (g := gb484) (o := .cells #[.int .i64 t479, .int .i64 t480, .int .i64 t481, .int .i64 t482] 43 (0, 0)) d8 hg (Kd.R_away HO_17.out (fun _ hk => hk.1))); have n9_ := Aside0.mk (blk_grown (g := gb492) (o := .cells #[.int .i64 t488, .int .i64 t489, .int .i64 t490, .int .i64 t491] 43 (0, 0)) d10 hg (Kd.R_away HO_17.out (fun _ hk => hk.2))); have n10_ := Aside0.mk (blk_grown (g := gb502) (o := .cells #[.int .i64 t493, .int .i64 t494, .slice Ao56 t495.length co56, .slice Ao57 t498.length co57] 26 (0, 0)) d30 hg (Kd.R_ne HO_17.out BK502.out (by decide))); have n11_ := Aside0.mk (hb); have n12_ := Aside0.mk (ho); clear HO_469002; clear HO_469003; clear HO_479002; clear HO_479003; clear HO_503002; clear HO_503003; clear BK468; clear BK478; clear BK484; clear BK492; clear BK502; clear HB; clear HO_17; have HO_469002 := n0_; have HO_469003 := n1_; have HO_479002 := n2_; have HO_479003 := n3_; have HO_503002 := n4_; have HO_503003 := n5_; have BK468 := n6_; have BK478 := n7_; have BK484 := n8_; have BK492 := n9_; have BK502 := n10_; have HB := n11_; have HO528 := n12_; clear n0_ n1_ n2_ n3_ n4_ n5_ n6_ n7_ n8_ n9_ n10_ n11_ n12_; clear ho hb hg hat; obtain ⟨Ao107, co107, eo107⟩ := Kd.R_slice HO528.out; subst eo107) | ((with_reducible refine gate_callee (f := 10) rfl ?_); refine goesL_ (some 139) rfl rfl Tryd.func10 (by kernel_rfl) rfl #[.slice Ao107 y526.length co107, .int .i64 t456] rfl d0 ?_; (with_reducible refine (impl_Gathered.calls k2 _ _ y526 t456 t529 t530 t531 t534 t537 _ ?side1 ?side2 A100.out (tab_at HT.out d6)).mono ?_); (case side1 => exact (by repeat (first | exact (Kd.R_reads' HO528.out).2.2 | (with_reducible refine Kd.C_alloc ?_ _) | (with_reducible refine Kd.C_drewN ?_ _) | (with_reducible refine Kd.C_drew ?_)))); (case side2 => exact (Kd.R_reads' HO528.out).2.1); rintro e w108 ⟨v532, v535, rfl, ho0, ho1, hb⟩; refine ⟨_, rfl, ?_⟩; have n0_ := Aside0.mk (Kd.Q_mono (Kd.Q_told (Kd.Q_told (Kd.Q_old d59 hb) (Kd.R_base ho0)) (Kd.R_base ho1)) (fun _ h_ => h_.1)); have n1_ := Aside0.mk (Kd.R_mono (Kd.R_told (Kd.R_told (Kd.R_old d60 hb) (Kd.R_base ho0)) (Kd.R_base ho1)) (fun _ h_ => h_.1)); have n2_ := Aside0.mk (Kd.R_below d104 hb); have n3_ := Aside0.mk (Kd.R_lower (Kd.R_new' (Kd.R_new' ho0 (Kd.Q_lt d59)) (Kd.R_lt d60)) (below_size d2)); have n4_ := Aside0.mk (Kd.R_lower (Kd.R_new' (Kd.R_new' ho1 (Kd.Q_lt d59)) (Kd.R_lt d60)) (below_size d2)); have n5_ := Aside0.mk (blk_below (g := gb468) (o := .cells #[.int .i64 t459, .int .i64 t460, .slice Ao29 t461.length co29, .slice Ao30 t464.length co30] 26 (0, 0)) d5 hb); have n6_ := Aside0.mk (blk_below (g := gb478) (o := .cells #[.int .i64 t469, .int .i64 t470, .slice Ao35 t471.length co35, .slice Ao36 t474.length co36] 26 (0, 0)) d7 hb); have n7_ := Aside0.mk (blk_below (g := gb484) (o := .cells #[.int .i64 t479, .int .i64 t480, .int .i64 t481, .int .i64 t482] 43 (0, 0)) d8 hb); have n8_ := Aside0.mk (blk_below (g := gb492) (o := .cells #[.int .i64 t488, .int .i64 t489, .int .i64 t490, .int .i64 t491] 43 (0, 0)) d10 hb); have n9_ := Aside0.mk (blk_below (g := gb502) (o := .cells #[.int .i64 t493, .int .i64 t494, .slice Ao56 t495.length co56, .slice Ao57 t498.length co57] 26 (0, 0)) d30 hb); have n10_ := Aside0.mk (below_step d2 hb); clear HO_469002; clear HO_469003; clear HO528; clear BK468; clear BK478; clear BK484; clear BK492; clear BK502; clear HB; have HO_469002 := n0_; have HO_469003 := n1_; have HO528 := n2_; have HO533 := n3_; have HO536 := n4_; have BK468 := n5_; have BK478 := n6_; have BK484 := n7_; have BK492 := n8_; have BK502 := n9_; have HB := n10_; clear n0_ n1_ n2_ n3_ n4_ n5_ n6_ n7_ n8_ n9_ n10_; (try clear hb); (try clear hb2); (try clear hk); (try clear hi); (try clear ho0); (try clear ho1)) | ((with_reducible refine gate_dst (N := 19) rfl ?_); (try (refine gate_guard (by rfl) ?_; dsimp only)); refine box_event ?hg (N := 19) ?hd (cs := #[.int .i64 0, .int .i64 0, .slice none 0 0, .slice none 0 0]) (t := 26) ?hr ?_; (case hd => rfl); (case hg => rfl); (case hr => first | (go_simp; done) | (go_simp; rfl)); intro gb538 hg w109 hbox hb; have n0_ := Aside0.mk (Kd.Q_below d59 hb); have n1_ := Aside0.mk (Kd.R_below d60 hb); have n2_ := Aside0.mk (Kd.R_below d104 hb); have n3_ := Aside0.mk (Kd.R_below (by (with_reducible repeat (first | apply Kd.R_alloc | apply Kd.R_drewN | apply Kd.R_drew)); exact HO533.out) hb); have n4_ := Aside0.mk (Kd.R_below (by (with_reducible repeat (first | apply Kd.R_alloc | apply Kd.R_drewN | apply Kd.R_drew)); exact HO536.out) hb); have n5_ := Aside0.mk (blk_below (g := gb468) (o := .cells #[.int .i64 t459, .int .i64 t460, .slice Ao29 t461.length co29, .slice Ao30 t464.length co30] 26 (0, 0)) d5 hb); have n6_ := Aside0.mk (blk_below (g := gb478) (o := .cells #[.int .i64 t469, .int .i64 t470, .slice Ao35 t471.length co35, .slice Ao36 t474.length co36] 26 (0, 0)) d7 hb); have n7_ := Aside0.mk (blk_below (g := gb484) (o := .cells #[.int .i64 t479, .int .i64 t480, .int .i64 t481, .int .i64 t482] 43 (0, 0)) d8 hb); have n8_ := Aside0.mk (blk_below (g := gb492) (o := .cells #[.int .i64 t488, .int .i64 t489, .int .i64 t490, .int .i64 t491] 43 (0, 0)) d10 hb); have n9_ := Aside0.mk (blk_below (g := gb502) (o := .cells #[.int .i64 t493, .int .i64 t494, .slice Ao56 t495.length co56, .slice Ao57 t498.length co57] 26 (0, 0)) d30 hb); have n10_ := Aside0.mk (below_step d2 hb); have n11_ := Aside0.mk (hbox); have n12_ := Aside0.mk ((by rw [hg]; exact (below_size d2) : w.heap.size ≤ gb538)); have n13_ := Aside0.mk ((by rw [hg]; exact (below_size d2) : w.heap.size ≤ gb538)); have n14_ := Aside0.mk ((by rw [hg]; exact Nat.ne_of_lt (blk_lt (g := gb468) (o := .cells #[.int .i64 t459, .int .i64 t460, .slice Ao29 t461.length co29, .slice Ao30 t464.length co30] 26 (0, 0)) d5) : gb468 ≠ gb538)); have n15_ := Aside0.mk ((by rw [hg]; exact Nat.ne_of_gt (blk_lt (g := gb468) (o := .cells #[.int .i64 t459, .int .i64 t460, .slice Ao29 t461.length co29, .slice Ao30 t464.length co30] 26 (0, 0)) d5) : gb538 ≠ gb468)); have n16_ := Aside0.mk ((by rw [hg]; exact Nat.ne_of_lt (blk_lt (g := gb478) (o := .cells #[.int .i64 t469, .int .i64 t470, .slice Ao35 t471.length co35, .slice Ao36 t474.length co36] 26 (0, 0)) d7) : gb478 ≠ gb538)); have n17_ := Aside0.mk ((by rw [hg]; exact Nat.ne_of_gt (blk_lt (g := gb478) (o := .cells #[.int .i64 t469, .int .i64 t470, .slice Ao35 t471.length co35, .slice Ao36 t474.length co36] 26 (0, 0)) d7) : gb538 ≠ gb478)); have n18_ := Aside0.mk ((by rw [hg]; exact Nat.ne_of_lt (blk_lt (g := gb484) (o := .cells #[.int .i64 t479, .int .i64 t480, .int .i64 t481, .int .i64 t482] 43 (0, 0)) d8) : gb484 ≠ gb538)); have n19_ := Aside0.mk ((by rw [hg]; exact Nat.ne_of_gt (blk_lt (g := gb484) (o := .cells #[.int .i64 t479, .int .i64 t480, .int .i64 t481, .int .i64 t482] 43 (0, 0)) d8) : gb538 ≠ gb484)); have n20_ := Aside0.mk ((by rw [hg]; exact Nat.ne_of_lt (blk_lt (g := gb492) (o := .cells #[.int .i64 t488, .int .i64 t489, .int .i64 t490, .int .i64 t491] 43 (0, 0)) d10) : gb492 ≠ gb538)); have n21_ := Aside0.mk ((by rw [hg]; exact Nat.ne_of_gt (blk_lt (g := gb492) (o := .cells #[.int .i64 t488, .int .i64 t489, .int .i64 t490, .int .i64 t491] 43 (0, 0)) d10) : gb538 ≠ gb492)); have n22_ := Aside0.mk ((by rw [hg]; exact Nat.ne_of_lt (blk_lt (g := gb502) (o := .cells #[.int .i64 t493, .int .i64 t494, .slice Ao56 t495.length co56, .slice Ao57 t498.length co57] 26 (0, 0)) d30) : gb502 ≠ gb538)); have n23_ := Aside0.mk ((by rw [hg]; exact Nat.ne_of_gt (blk_lt (g := gb502) (o := .cells #[.int .i64 t493, .int .i64 t494, .slice Ao56 t495.length co56, .slice Ao57 t498.length co57] 26 (0, 0)) d30) : gb538 ≠ gb502)); clear HO_469002; clear HO_469003; clear HO528; clear HO533; clear HO536; clear BK468; clear BK478; clear BK484; clear BK492; clear BK502; clear HB; have HO_469002 := n0_; have HO_469003 := n1_; have HO528 := n2_; have HO533 := n3_; have HO536 := n4_; have BK468 := n5_; have BK478 := n6_; have BK484 := n7_; have BK492 := n8_; have BK502 := n9_; have HB := n10_; have BK538 := n11_; have GW538 := n12_; have GE538 := n13_; have NB468_538 := n14_; have NB538_468 := n15_; have NB478_538 := n16_; have NB538_478 := n17_; have NB484_538 := n18_; have NB538_484 := n19_; have NB492_538 := n20_; have NB538_492 := n21_; have NB502_538 := n22_; have NB538_502 := n23_; clear n0_ n1_ n2_ n3_ n4_ n5_ n6_ n7_ n8_ n9_ n10_ n11_ n12_ n13_ n14_ n15_ n16_ n17_ n18_ n19_ n20_ n21_ n22_ n23_; clear hb hbox hg; have hnb110 := NB538_468.out; have hnc110 := NB468_538.out; have hnb111 := NB538_478.out; have hnc111 := NB478_538.out; have hnb112 := NB538_484.out; have hnc112 := NB484_538.out; have hnb113 := NB538_492.out; have hnc113 := NB492_538.out; have hnb114 := NB538_502.out; have hnc114 := NB502_538.out; have hcz115_0 : w109.cell? ⟨gb538, 0, none⟩ = some (.int .i64 0) := (blk_cell BK538.out 0).trans rfl; have hcz115_1 : w109.cell? ⟨gb538, 1, none⟩ = some (.int .i64 0) := (blk_cell BK538.out 1).trans rfl; have hcz115_2 : w109.cell? ⟨gb538, 2, none⟩ = some (.slice none 0 0) := (blk_cell BK538.out 2).trans rfl; have hcz115_3 : w109.cell? ⟨gb538, 3, none⟩ = some (.slice none 0 0) := (blk_cell BK538.out 3).trans rfl; have hfz115_0 := blk_frozen BK538.out 0; have hfz115_1 := blk_frozen BK538.out 1; have hfz115_2 := blk_frozen BK538.out 2; have hfz115_3 := blk_frozen BK538.out 3; obtain ⟨Ao116, co116, eo116⟩ := Kd.R_slice HO533.out; subst eo116; obtain ⟨Ao117, co117, eo117⟩ := Kd.R_slice HO536.out; subst eo117))
                 have n0_ : Aside0 (Kd.Q (Kd.int .i64) 2 ((((w109.setCell ⟨gb538, 0, none⟩ (.int .i64 t529)).setCell ⟨gb538, 1, none⟩ (.int .i64 t530)).setCell ⟨gb538, 2, none⟩ (.slice Ao116 t531.length co116)).setCell ⟨gb538, 3, none⟩ (.slice Ao117 t534.length co117)) w.heap.size (fun k_ => some k_ ≠ (.slice Ao30 t464.length co30 : Value).ownBlock ∧ some k_ ≠ (.slice Ao116 t531.length co116 : Value).ownBlock ∧ some k_ ≠ (.slice Ao117 t534.length co117 : Value).ownBlock) (.slice Ao29 t461.length co29) t461) := ⟨(by (with_reducible repeat (first | apply Kd.Q_alloc | apply Kd.Q_drewN | apply Kd.Q_drew)); exact Kd.Q_mono (Kd.Q_far (p := ⟨gb538, 3, none⟩) (Kd.Q_far (p := ⟨gb538, 2, none⟩) (Kd.Q_far (p := ⟨gb538, 1, none⟩) (Kd.Q_far (p := ⟨gb538, 0, none⟩) (Kd.Q_types HO_469002.out BK538.out (by decide)) (fun _ hk => hk.2) (.int .i64 t529)) (fun _ hk => hk.2) (.int .i64 t530)) (fun _ hk => hk.2) (.slice Ao116 t531.length co116)) (fun _ hk => hk.2) (.slice Ao117 t534.length co117)) (fun _ hk => ⟨hk.1.1.1.1, ⟨hk.1.1.2, hk.1.2⟩⟩))⟩
                 have n1_ : Aside0 (Kd.R (Kd.int .i64) 2 ((((w109.setCell ⟨gb538, 0, none⟩ (.int .i64 t529)).setCell ⟨gb538, 1, none⟩ (.int .i64 t530)).setCell ⟨gb538, 2, none⟩ (.slice Ao116 t531.length co116)).setCell ⟨gb538, 3, none⟩ (.slice Ao117 t534.length co117)) w.heap.size (fun k_ => some k_ ≠ (.slice Ao29 t461.length co29 : Value).ownBlock ∧ some k_ ≠ (.slice Ao116 t531.length co116 : Value).ownBlock ∧ some k_ ≠ (.slice Ao117 t534.length co117 : Value).ownBlock) (.slice Ao30 t464.length co30) t464) := ⟨(by (with_reducible repeat (first | apply Kd.R_alloc | apply Kd.R_drewN | apply Kd.R_drew)); exact Kd.R_mono (Kd.R_far (p := ⟨gb538, 3, none⟩) (Kd.R_far (p := ⟨gb538, 2, none⟩) (Kd.R_far (p := ⟨gb538, 1, none⟩) (Kd.R_far (p := ⟨gb538, 0, none⟩) (Kd.R_types HO_469003.out BK538.out (by decide)) (fun _ hk => hk.2) (.int .i64 t529)) (fun _ hk => hk.2) (.int .i64 t530)) (fun _ hk => hk.2) (.slice Ao116 t531.length co116)) (fun _ hk => hk.2) (.slice Ao117 t534.length co117)) (fun _ hk => ⟨hk.1.1.1.1, ⟨hk.1.1.2, hk.1.2⟩⟩))⟩
                 have n2_ : Aside0 (Kd.R k43 43 ((((w109.setCell ⟨gb538, 0, none⟩ (.int .i64 t529)).setCell ⟨gb538, 1, none⟩ (.int .i64 t530)).setCell ⟨gb538, 2, none⟩ (.slice Ao116 t531.length co116)).setCell ⟨gb538, 3, none⟩ (.slice Ao117 t534.length co117)) w.heap.size (fun k_ => k_ ≠ gb484 ∧ k_ ≠ gb492) (.slice Ao107 y526.length co107) y526) := ⟨(by (with_reducible repeat (first | apply Kd.R_alloc | apply Kd.R_drewN | apply Kd.R_drew)); exact Kd.R_mono (Kd.R_far (p := ⟨gb538, 3, none⟩) (Kd.R_far (p := ⟨gb538, 2, none⟩) (Kd.R_far (p := ⟨gb538, 1, none⟩) (Kd.R_far (p := ⟨gb538, 0, none⟩) (Kd.R_types HO528.out BK538.out (by decide)) (fun _ hk => hk.2) (.int .i64 t529)) (fun _ hk => hk.2) (.int .i64 t530)) (fun _ hk => hk.2) (.slice Ao116 t531.length co116)) (fun _ hk => hk.2) (.slice Ao117 t534.length co117)) (fun _ hk => And.intro hk.1.1 hk.1.2))⟩
                 have n3_ : Aside0 (Kd.R (Kd.int .i64) 2 ((((w109.setCell ⟨gb538, 0, none⟩ (.int .i64 t529)).setCell ⟨gb538, 1, none⟩ (.int .i64 t530)).setCell ⟨gb538, 2, none⟩ (.slice Ao116 t531.length co116)).setCell ⟨gb538, 3, none⟩ (.slice Ao117 t534.length co117)) w.heap.size (fun k_ => some k_ ≠ (.slice Ao29 t461.length co29 : Value).ownBlock ∧ some k_ ≠ (.slice Ao30 t464.length co30 : Value).ownBlock ∧ some k_ ≠ (.slice Ao117 t534.length co117 : Value).ownBlock) (.slice Ao116 t531.length co116) t531) := ⟨(by (with_reducible repeat (first | apply Kd.R_alloc | apply Kd.R_drewN | apply Kd.R_drew)); exact Kd.R_mono (Kd.R_far (p := ⟨gb538, 3, none⟩) (Kd.R_far (p := ⟨gb538, 2, none⟩) (Kd.R_far (p := ⟨gb538, 1, none⟩) (Kd.R_far (p := ⟨gb538, 0, none⟩) (Kd.R_types HO533.out BK538.out (by decide)) (fun _ hk => hk.2) (.int .i64 t529)) (fun _ hk => hk.2) (.int .i64 t530)) (fun _ hk => hk.2) (.slice Ao116 t531.length co116)) (fun _ hk => hk.2) (.slice Ao117 t534.length co117)) (fun _ hk => ⟨hk.1.1.2, ⟨hk.1.2, hk.1.1.1⟩⟩))⟩
                 have n4_ : Aside0 (Kd.R (Kd.int .i64) 2 ((((w109.setCell ⟨gb538, 0, none⟩ (.int .i64 t529)).setCell ⟨gb538, 1, none⟩ (.int .i64 t530)).setCell ⟨gb538, 2, none⟩ (.slice Ao116 t531.length co116)).setCell ⟨gb538, 3, none⟩ (.slice Ao117 t534.length co117)) w.heap.size (fun k_ => some k_ ≠ (.slice Ao29 t461.length co29 : Value).ownBlock ∧ some k_ ≠ (.slice Ao30 t464.length co30 : Value).ownBlock ∧ some k_ ≠ (.slice Ao116 t531.length co116 : Value).ownBlock) (.slice Ao117 t534.length co117) t534) := ⟨(by (with_reducible repeat (first | apply Kd.R_alloc | apply Kd.R_drewN | apply Kd.R_drew)); exact Kd.R_mono (Kd.R_far (p := ⟨gb538, 3, none⟩) (Kd.R_far (p := ⟨gb538, 2, none⟩) (Kd.R_far (p := ⟨gb538, 1, none⟩) (Kd.R_far (p := ⟨gb538, 0, none⟩) (Kd.R_types HO536.out BK538.out (by decide)) (fun _ hk => hk.2) (.int .i64 t529)) (fun _ hk => hk.2) (.int .i64 t530)) (fun _ hk => hk.2) (.slice Ao116 t531.length co116)) (fun _ hk => hk.2) (.slice Ao117 t534.length co117)) (fun _ hk => ⟨hk.1.1.2, ⟨hk.1.2, hk.1.1.1⟩⟩))⟩
                 have n5_ : Aside0 (((((w109.setCell ⟨gb538, 0, none⟩ (.int .i64 t529)).setCell ⟨gb538, 1, none⟩ (.int .i64 t530)).setCell ⟨gb538, 2, none⟩ (.slice Ao116 t531.length co116)).setCell ⟨gb538, 3, none⟩ (.slice Ao117 t534.length co117)).heap[gb468]? = some (.cells #[.int .i64 t459, .int .i64 t460, .slice Ao29 t461.length co29, .slice Ao30 t464.length co30] 26 (0, 0))) := ⟨(by (with_reducible repeat (first | refine blk_drewN ?_ _ | refine blk_drew ?_ | refine blk_alloc ?_ _)); refine blk_far ?_ NB468_538.out _; (with_reducible repeat (first | refine blk_drewN ?_ _ | refine blk_drew ?_ | refine blk_alloc ?_ _)); refine blk_far ?_ NB468_538.out _; (with_reducible repeat (first | refine blk_drewN ?_ _ | refine blk_drew ?_ | refine blk_alloc ?_ _)); refine blk_far ?_ NB468_538.out _; (with_reducible repeat (first | refine blk_drewN ?_ _ | refine blk_drew ?_ | refine blk_alloc ?_ _)); refine blk_far ?_ NB468_538.out _; (with_reducible repeat (first | refine blk_drewN ?_ _ | refine blk_drew ?_ | refine blk_alloc ?_ _)); exact BK468.out)⟩
                 have n6_ : Aside0 (((((w109.setCell ⟨gb538, 0, none⟩ (.int .i64 t529)).setCell ⟨gb538, 1, none⟩ (.int .i64 t530)).setCell ⟨gb538, 2, none⟩ (.slice Ao116 t531.length co116)).setCell ⟨gb538, 3, none⟩ (.slice Ao117 t534.length co117)).heap[gb478]? = some (.cells #[.int .i64 t469, .int .i64 t470, .slice Ao35 t471.length co35, .slice Ao36 t474.length co36] 26 (0, 0))) := ⟨(by (with_reducible repeat (first | refine blk_drewN ?_ _ | refine blk_drew ?_ | refine blk_alloc ?_ _)); refine blk_far ?_ NB478_538.out _; (with_reducible repeat (first | refine blk_drewN ?_ _ | refine blk_drew ?_ | refine blk_alloc ?_ _)); refine blk_far ?_ NB478_538.out _; (with_reducible repeat (first | refine blk_drewN ?_ _ | refine blk_drew ?_ | refine blk_alloc ?_ _)); refine blk_far ?_ NB478_538.out _; (with_reducible repeat (first | refine blk_drewN ?_ _ | refine blk_drew ?_ | refine blk_alloc ?_ _)); refine blk_far ?_ NB478_538.out _; (with_reducible repeat (first | refine blk_drewN ?_ _ | refine blk_drew ?_ | refine blk_alloc ?_ _)); exact BK478.out)⟩
                 have n7_ : Aside0 (((((w109.setCell ⟨gb538, 0, none⟩ (.int .i64 t529)).setCell ⟨gb538, 1, none⟩ (.int .i64 t530)).setCell ⟨gb538, 2, none⟩ (.slice Ao116 t531.length co116)).setCell ⟨gb538, 3, none⟩ (.slice Ao117 t534.length co117)).heap[gb484]? = some (.cells #[.int .i64 t479, .int .i64 t480, .int .i64 t481, .int .i64 t482] 43 (0, 0))) := ⟨(by (with_reducible repeat (first | refine blk_drewN ?_ _ | refine blk_drew ?_ | refine blk_alloc ?_ _)); refine blk_far ?_ NB484_538.out _; (with_reducible repeat (first | refine blk_drewN ?_ _ | refine blk_drew ?_ | refine blk_alloc ?_ _)); refine blk_far ?_ NB484_538.out _; (with_reducible repeat (first | refine blk_drewN ?_ _ | refine blk_drew ?_ | refine blk_alloc ?_ _)); refine blk_far ?_ NB484_538.out _; (with_reducible repeat (first | refine blk_drewN ?_ _ | refine blk_drew ?_ | refine blk_alloc ?_ _)); refine blk_far ?_ NB484_538.out _; (with_reducible repeat (first | refine blk_drewN ?_ _ | refine blk_drew ?_ | refine blk_alloc ?_ _)); exact BK484.out)⟩
                 have n8_ : Aside0 (((((w109.setCell ⟨gb538, 0, none⟩ (.int .i64 t529)).setCell ⟨gb538, 1, none⟩ (.int .i64 t530)).setCell ⟨gb538, 2, none⟩ (.slice Ao116 t531.length co116)).setCell ⟨gb538, 3, none⟩ (.slice Ao117 t534.length co117)).heap[gb492]? = some (.cells #[.int .i64 t488, .int .i64 t489, .int .i64 t490, .int .i64 t491] 43 (0, 0))) := ⟨(by (with_reducible repeat (first | refine blk_drewN ?_ _ | refine blk_drew ?_ | refine blk_alloc ?_ _)); refine blk_far ?_ NB492_538.out _; (with_reducible repeat (first | refine blk_drewN ?_ _ | refine blk_drew ?_ | refine blk_alloc ?_ _)); refine blk_far ?_ NB492_538.out _; (with_reducible repeat (first | refine blk_drewN ?_ _ | refine blk_drew ?_ | refine blk_alloc ?_ _)); refine blk_far ?_ NB492_538.out _; (with_reducible repeat (first | refine blk_drewN ?_ _ | refine blk_drew ?_ | refine blk_alloc ?_ _)); refine blk_far ?_ NB492_538.out _; (with_reducible repeat (first | refine blk_drewN ?_ _ | refine blk_drew ?_ | refine blk_alloc ?_ _)); exact BK492.out)⟩
                 have n9_ : Aside0 (((((w109.setCell ⟨gb538, 0, none⟩ (.int .i64 t529)).setCell ⟨gb538, 1, none⟩ (.int .i64 t530)).setCell ⟨gb538, 2, none⟩ (.slice Ao116 t531.length co116)).setCell ⟨gb538, 3, none⟩ (.slice Ao117 t534.length co117)).heap[gb502]? = some (.cells #[.int .i64 t493, .int .i64 t494, .slice Ao56 t495.length co56, .slice Ao57 t498.length co57] 26 (0, 0))) := ⟨(by (with_reducible repeat (first | refine blk_drewN ?_ _ | refine blk_drew ?_ | refine blk_alloc ?_ _)); refine blk_far ?_ NB502_538.out _; (with_reducible repeat (first | refine blk_drewN ?_ _ | refine blk_drew ?_ | refine blk_alloc ?_ _)); refine blk_far ?_ NB502_538.out _; (with_reducible repeat (first | refine blk_drewN ?_ _ | refine blk_drew ?_ | refine blk_alloc ?_ _)); refine blk_far ?_ NB502_538.out _; (with_reducible repeat (first | refine blk_drewN ?_ _ | refine blk_drew ?_ | refine blk_alloc ?_ _)); refine blk_far ?_ NB502_538.out _; (with_reducible repeat (first | refine blk_drewN ?_ _ | refine blk_drew ?_ | refine blk_alloc ?_ _)); exact BK502.out)⟩
                 have n10_ : Aside0 (((((w109.setCell ⟨gb538, 0, none⟩ (.int .i64 t529)).setCell ⟨gb538, 1, none⟩ (.int .i64 t530)).setCell ⟨gb538, 2, none⟩ (.slice Ao116 t531.length co116)).setCell ⟨gb538, 3, none⟩ (.slice Ao117 t534.length co117)).heap[gb538]? = some (.cells #[.int .i64 t529, .int .i64 t530, .slice Ao116 t531.length co116, .slice Ao117 t534.length co117] 26 (0, 0))) := ⟨(by (with_reducible repeat (first | refine blk_drewN ?_ _ | refine blk_drew ?_ | refine blk_alloc ?_ _)); refine blk_put (cs := #[.int .i64 t529, .int .i64 t530, .slice Ao116 t531.length co116, .slice none 0 0]) ?_ 3 _ rfl; (with_reducible repeat (first | refine blk_drewN ?_ _ | refine blk_drew ?_ | refine blk_alloc ?_ _)); refine blk_put (cs := #[.int .i64 t529, .int .i64 t530, .slice none 0 0, .slice none 0 0]) ?_ 2 _ rfl; (with_reducible repeat (first | refine blk_drewN ?_ _ | refine blk_drew ?_ | refine blk_alloc ?_ _)); refine blk_put (cs := #[.int .i64 t529, .int .i64 0, .slice none 0 0, .slice none 0 0]) ?_ 1 _ rfl; (with_reducible repeat (first | refine blk_drewN ?_ _ | refine blk_drew ?_ | refine blk_alloc ?_ _)); refine blk_put (cs := #[.int .i64 0, .int .i64 0, .slice none 0 0, .slice none 0 0]) ?_ 0 _ rfl; (with_reducible repeat (first | refine blk_drewN ?_ _ | refine blk_drew ?_ | refine blk_alloc ?_ _)); exact BK538.out)⟩
                 have n11_ : Aside0 (Below w.heap.size w ((((w109.setCell ⟨gb538, 0, none⟩ (.int .i64 t529)).setCell ⟨gb538, 1, none⟩ (.int .i64 t530)).setCell ⟨gb538, 2, none⟩ (.slice Ao116 t531.length co116)).setCell ⟨gb538, 3, none⟩ (.slice Ao117 t534.length co117))) := ⟨o39⟩
                 (try clear HO_469002)
                 (try clear HO_469003)
                 (try clear HO528)
                 (try clear HO533)
                 (try clear HO536)
                 (try clear BK468)
                 (try clear BK478)
                 (try clear BK484)
                 (try clear BK492)
                 (try clear BK502)
                 (try clear BK538)
                 (try clear HB)
                 generalize ((((w109.setCell ⟨gb538, 0, none⟩ (.int .i64 t529)).setCell ⟨gb538, 1, none⟩ (.int .i64 t530)).setCell ⟨gb538, 2, none⟩ (.slice Ao116 t531.length co116)).setCell ⟨gb538, 3, none⟩ (.slice Ao117 t534.length co117)) = w118 at n0_ n1_ n2_ n3_ n4_ n5_ n6_ n7_ n8_ n9_ n10_ n11_ ⊢
                 have HO_469002 := n0_
                 have HO_469003 := n1_
                 have HO528 := n2_
                 have HO533 := n3_
                 have HO536 := n4_
                 have BK468 := n5_
                 have BK478 := n6_
                 have BK484 := n7_
                 have BK492 := n8_
                 have BK502 := n9_
                 have BK538 := n10_
                 have HB := n11_
                 clear n0_ n1_ n2_ n3_ n4_ n5_ n6_ n7_ n8_ n9_ n10_ n11_
                 have n0_ := Aside0.mk (Kd.Q_drew HO_469002.out)
                 have n1_ := Aside0.mk (Kd.R_drew HO_469003.out)
                 have n2_ := Aside0.mk (Kd.R_drew HO528.out)
                 have n3_ := Aside0.mk (Kd.R_drew HO533.out)
                 have n4_ := Aside0.mk (Kd.R_drew HO536.out)
                 have n5_ := Aside0.mk (blk_drew BK468.out)
                 have n6_ := Aside0.mk (blk_drew BK478.out)
                 have n7_ := Aside0.mk (blk_drew BK484.out)
                 have n8_ := Aside0.mk (blk_drew BK492.out)
                 have n9_ := Aside0.mk (blk_drew BK502.out)
                 have n10_ := Aside0.mk (blk_drew BK538.out)
                 have n11_ := Aside0.mk (below_drew1 HB.out)
                 clear HO_469002
                 clear HO_469003
                 clear HO528
                 clear HO533
                 clear HO536
                 clear BK468
                 clear BK478
                 clear BK484
                 clear BK492
                 clear BK502
                 clear BK538
                 clear HB
                 have HO_469002 := n0_
                 have HO_469003 := n1_
                 have HO528 := n2_
                 have HO533 := n3_
                 have HO536 := n4_
                 have BK468 := n5_
                 have BK478 := n6_
                 have BK484 := n7_
                 have BK492 := n8_
                 have BK502 := n9_
                 have BK538 := n10_
                 have HB := n11_
                 clear n0_ n1_ n2_ n3_ n4_ n5_ n6_ n7_ n8_ n9_ n10_ n11_
                 refine start_ (n := 16) (S := fun w' => w'.cell? ⟨gb468, 0, none⟩ = some (.int .i64 t459) ∧ w'.cell? ⟨gb468, 1, none⟩ = some (.int .i64 t460) ∧ w'.cell? ⟨gb468, 2, none⟩ = some (.slice Ao29 t461.length co29) ∧ w'.cell? ⟨gb468, 3, none⟩ = some (.slice Ao30 t464.length co30)) (ds := []) (bA 16 0) (by kernel_rfl) rfl rfl ⟨(blk_cell BK468.out 0).trans rfl, (blk_cell BK468.out 1).trans rfl, (blk_cell BK468.out 2).trans rfl, (blk_cell BK468.out 3).trans rfl⟩ (fun hHeld => ?_); refine with_tabW laws_FnProofs.tab22 laws_FnProofs.bits22 (fun HT_ HW_ => ?_)
                 generalize w118.drew = w119 at HO_469002 HO_469003 HO528 HO533 HO536 BK468 BK478 BK484 BK492 BK502 BK538 HB hHeld ⊢
                 refine pv (i := 1) (N := some 143) (bA 16 2) rfl rfl o0 ?_
                 refine take_ (i := 0) (N := some 142) (v := ?_) (a' := ?_) (bA 16 3) rfl rfl o5 (fun _ _ _ h => h) (Or.inl ⟨(by rfl), ?_⟩) hHeld ?_ ?_
                 rotate_left
                 ·rintro w' ⟨s0, s1, s2, s3⟩
                  go_simp
                  with_reducible rfl
                 rotate_left
                 ·simp only [sp_]
                  rfl
                 refine one_ (i := 2) (N := some 144) (bA 16 7) rfl rfl (one_of HT_.out (by kernel_rfl)) (by decide) (fun K hK => ?_)
                 refine goes_ Tryd.func23 (by kernel_rfl) rfl #[.agg #[.int .i64 t459, .int .i64 t460, .slice Ao29 t461.length co29, .slice Ao30 t464.length co30], .int .i64 t456] (by rfl) rfl rfl d0 ?_
                 with_reducible refine (impl_ProofOk.calls k2 t459 t460 _ _ t461 _ _ t464 t456 true _ ?side1 ?side2 ?side3 ?side4 A101.out (tab_at HT.out d6)).mono ?_
                 (case side1 => exact (by repeat (first | exact (Kd.Q_reads' HO_469002.out).2.2 | (with_reducible refine Kd.C_alloc ?_ _) | (with_reducible refine Kd.C_drewN ?_ _) | (with_reducible refine Kd.C_drew ?_))))
                 (case side2 => exact (Kd.Q_reads' HO_469002.out).2.1)
                 (case side3 => exact (by repeat (first | exact (Kd.R_reads' HO_469003.out).2.2 | (with_reducible refine Kd.C_alloc ?_ _) | (with_reducible refine Kd.C_drewN ?_ _) | (with_reducible refine Kd.C_drew ?_))))
                 (case side4 => exact (Kd.R_reads' HO_469003.out).2.1)
                 rintro e w120 ⟨rfl, hb⟩
                 refine ⟨_, rfl, ?_⟩
                 have n0_ := Aside0.mk (Kd.Q_below d59 hb)
                 have n1_ := Aside0.mk (Kd.R_below d60 hb)
                 have n2_ := Aside0.mk (Kd.R_below d104 hb)
                 have n3_ := Aside0.mk (Kd.R_below (by (with_reducible repeat (first | apply Kd.R_alloc | apply Kd.R_drewN | apply Kd.R_drew)); exact HO533.out) hb)
                 have n4_ := Aside0.mk (Kd.R_below (by (with_reducible repeat (first | apply Kd.R_alloc | apply Kd.R_drewN | apply Kd.R_drew)); exact HO536.out) hb)
                 have n5_ := Aside0.mk (blk_below (g := gb468) (o := .cells #[.int .i64 t459, .int .i64 t460, .slice Ao29 t461.length co29, .slice Ao30 t464.length co30] 26 (0, 0)) d5 hb)
                 have n6_ := Aside0.mk (blk_below (g := gb478) (o := .cells #[.int .i64 t469, .int .i64 t470, .slice Ao35 t471.length co35, .slice Ao36 t474.length co36] 26 (0, 0)) d7 hb)
                 have n7_ := Aside0.mk (blk_below (g := gb484) (o := .cells #[.int .i64 t479, .int .i64 t480, .int .i64 t481, .int .i64 t482] 43 (0, 0)) d8 hb)
                 have n8_ := Aside0.mk (blk_below (g := gb492) (o := .cells #[.int .i64 t488, .int .i64 t489, .int .i64 t490, .int .i64 t491] 43 (0, 0)) d10 hb)
                 have n9_ := Aside0.mk (blk_below (g := gb502) (o := .cells #[.int .i64 t493, .int .i64 t494, .slice Ao56 t495.length co56, .slice Ao57 t498.length co57] 26 (0, 0)) d30 hb)
                 have n10_ := Aside0.mk (blk_below (g := gb538) (o := .cells #[.int .i64 t529, .int .i64 t530, .slice Ao116 t531.length co116, .slice Ao117 t534.length co117] 26 (0, 0)) (by (with_reducible repeat (first | refine blk_drewN ?_ _ | refine blk_drew ?_ | refine blk_alloc ?_ _)); exact BK538.out) hb)
                 have n11_ := Aside0.mk (below_step o39 hb)
                 clear HO_469002
                 clear HO_469003
                 clear HO528
                 clear HO533
                 clear HO536
                 clear BK468
                 clear BK478
                 clear BK484
                 clear BK492
                 clear BK502
                 clear BK538
                 clear HB
                 have HO_469002 := n0_
                 have HO_469003 := n1_
                 have HO528 := n2_
                 have HO533 := n3_
                 have HO536 := n4_
                 have BK468 := n5_
                 have BK478 := n6_
                 have BK484 := n7_
                 have BK492 := n8_
                 have BK502 := n9_
                 have BK538 := n10_
                 have HB := n11_
                 clear n0_ n1_ n2_ n3_ n4_ n5_ n6_ n7_ n8_ n9_ n10_ n11_
                 (try clear hb)
                 (try clear hb2)
                 (try clear hk)
                 (try clear hi)
                 refine hK.out _ _ ⟨(blk_cell BK468.out 0).trans rfl, (blk_cell BK468.out 1).trans rfl, (blk_cell BK468.out 2).trans rfl, (blk_cell BK468.out 3).trans rfl⟩ (fun hHeld => ?_)
                 clear hK K
                 refine norm_ (a' := ?_) ?_ ?_
                 rotate_left
                 ·show Act.put _ (some 144) _ = _
                  simp only [sp_]
                  rfl
                 refine pv (i := 3) (N := some 145) (bA 16 15) rfl rfl o0 ?_
                 refine pv (i := 4) (N := some 146) (bA 16 31) rfl rfl o0 ?_
                 refine pv (i := 7) (N := some 149) (bA 16 159) rfl rfl o0 ?_
                 refine take_ (i := 5) (N := some 147) (v := ?_) (a' := ?_) (bA 16 191) rfl rfl o5 (fun _ _ _ h => h) (Or.inl ⟨(by rfl), ?_⟩) hHeld ?_ ?_
                 rotate_left
                 ·rintro w' ⟨s0, s1, s2, s3⟩
                  go_simp
                  with_reducible rfl
                 rotate_left
                 ·simp only [sp_]
                  rfl
                 refine pv (i := 6) (N := some 148) (bA 16 255) rfl rfl o0 ?_
                 refine one_ (i := 8) (N := some 150) (bA 16 511) rfl rfl (one_of HT_.out (by kernel_rfl)) (by decide) (fun K hK => ?_)
                 refine goes_ Tryd.func28 (by kernel_rfl) rfl #[.int .i64 t456] (by rfl) rfl rfl d0 ?_
                 with_reducible refine (spec_Quorum.calls t456 t540 _ A103.out).mono ?_
                 rintro e w' ⟨rfl, ⟨nd, rfl⟩⟩
                 refine ⟨_, rfl, ?_⟩
                 refine hK.out _ _ ⟨(blk_cell BK468.out 0).trans rfl, (blk_cell BK468.out 1).trans rfl, (blk_cell BK468.out 2).trans rfl, (blk_cell BK468.out 3).trans rfl⟩ (fun hHeld => ?_)
                 clear hK K
                 refine norm_ (a' := ?_) ?_ ?_
                 rotate_left
                 ·show Act.put _ (some 150) _ = _
                  simp only [sp_]
                  rfl
                 refine pv (i := 9) (N := some 151) (bA 16 1023) rfl rfl o0 ?_
                 refine pv (i := 10) (N := some 152) (bA 16 2047) rfl rfl o0 ?_
                 refine pv (i := 11) (N := some 153) (bA 16 4095) rfl rfl o0 ?_
                 refine pv (i := 12) (N := some 154) (bA 16 8191) rfl rfl o0 ?_
                 refine pv (i := 13) (N := some 155) (bA 16 16383) rfl rfl o0 ?_
                 refine pv (i := 14) (N := some 156) (bA 16 32767) rfl rfl o0 ?_
                 refine pv (i := 15) (N := some 2) (bA 16 65535) rfl rfl o0 ?_
                 refine done_ (done_of HT_.out (by kernel_rfl)) ?_
                 try go_wp2
                 go_ret
                 exact ⟨o2, o39⟩
                ·rw [if_neg c104] at H
                 have c104b0 : decide (t540 ≤ (t461.length : Int)) = false := decide_eq_false c104
                 clear c104
                 exact absurd H (by simp)
               ·replace c102 := Bool.eq_false_iff.mpr c102
                subst c102
                have H1 : (none) = some r := by rw [if_neg (show ¬ (false = true) by decide)] at H; exact H
                clear H
                have H := H1
                clear H1
                exact absurd H (by simp)
              ·rw [if_neg c99] at H
               exact absurd H (by simp)
          ·replace c86 := Bool.eq_false_iff.mpr c86
           subst c86
           have H1 : ((laws_likeProof.f kj22 t459 t460 t461 t464 0 0 ([] : List Int) ([] : List Int)).bind fun t513 => (some t513)) = some r := by rw [if_neg (show ¬ (false = true) by decide)] at H; exact H
           clear H
           have H := H1
           clear H1
           replace H := Option.bind_eq_some_iff.mp H
           obtain ⟨t513, A1210, H⟩ := H
           replace H : (some t513) = some r := H
           have A121 := Aside0.mk A1210
           clear A1210
           obtain rfl := Option.some.inj H
           have hnb122 := NB468_478.out
           have hnc122 := NB478_468.out
           have hnb123 := NB468_484.out
           have hnc123 := NB484_468.out
           have hnb124 := NB468_492.out
           have hnc124 := NB492_468.out
           have hnb125 := NB468_502.out
           have hnc125 := NB502_468.out
           have hcz126_0 : wc.cell? ⟨gb468, 0, none⟩ = some (.int .i64 t459) := (blk_cell BK468.out 0).trans rfl
           have hcz126_1 : wc.cell? ⟨gb468, 1, none⟩ = some (.int .i64 t460) := (blk_cell BK468.out 1).trans rfl
           have hcz126_2 : wc.cell? ⟨gb468, 2, none⟩ = some (.slice Ao29 t461.length co29) := (blk_cell BK468.out 2).trans rfl
           have hcz126_3 : wc.cell? ⟨gb468, 3, none⟩ = some (.slice Ao30 t464.length co30) := (blk_cell BK468.out 3).trans rfl
           have hfz126_0 := blk_frozen BK468.out 0
           have hfz126_1 := blk_frozen BK468.out 1
           have hfz126_2 := blk_frozen BK468.out 2
           have hfz126_3 := blk_frozen BK468.out 3
           go_wp2_with (first | ((with_reducible refine gate_callee (f := 22) rfl ?_); refine goesL_ (some 112) rfl rfl Tryd.func22 (by kernel_rfl) rfl #[.agg #[.int .i64 t459, .int .i64 t460, .slice Ao29 t461.length co29, .slice Ao30 t464.length co30], .agg #[.int .i64 0, .int .i64 0, .slice none 0 0, .slice none 0 0]] rfl d0 ?_; (refine (laws_likeProof.calls kj22 t459 t460 _ _ t461 _ _ t464 0 0 _ _ ([] : List Int) _ _ ([] : List Int) t513 _ ?side1 ?side2 ?side3 ?side4 ?side5 ?side6 ?side7 ?side8 A121.out).mono ?_); (case side1 => exact (by repeat (first | exact (Kd.Q_reads' HO_469002.out).2.2 | (with_reducible refine Kd.C_alloc ?_ _) | (with_reducible refine Kd.C_drewN ?_ _) | (with_reducible refine Kd.C_drew ?_)))); (case side2 => exact (Kd.Q_reads' HO_469002.out).2.1); (case side3 => exact (by repeat (first | exact (Kd.R_reads' HO_469003.out).2.2 | (with_reducible refine Kd.C_alloc ?_ _) | (with_reducible refine Kd.C_drewN ?_ _) | (with_reducible refine Kd.C_drew ?_)))); (case side4 => exact (Kd.R_reads' HO_469003.out).2.1); (case side5 => exact Kd.C_nil _ _); (case side6 => exact Nat.le_refl _); (case side7 => exact Kd.C_nil _ _); (case side8 => exact Nat.le_refl _); rintro e w127 ⟨rfl, hb⟩; refine ⟨_, rfl, ?_⟩; have n0_ := Aside0.mk (Kd.Q_below d59 hb); have n1_ := Aside0.mk (Kd.R_below d60 hb); have n2_ := Aside0.mk (Kd.Q_below d82 hb); have n3_ := Aside0.mk (Kd.R_below d83 hb); have n4_ := Aside0.mk (Kd.Q_below d84 hb); have n5_ := Aside0.mk (Kd.R_below d85 hb); have n6_ := Aside0.mk (blk_below (g := gb468) (o := .cells #[.int .i64 t459, .int .i64 t460, .slice Ao29 t461.length co29, .slice Ao30 t464.length co30] 26 (0, 0)) d5 hb); have n7_ := Aside0.mk (blk_below (g := gb478) (o := .cells #[.int .i64 t469, .int .i64 t470, .slice Ao35 t471.length co35, .slice Ao36 t474.length co36] 26 (0, 0)) d7 hb); have n8_ := Aside0.mk (blk_below (g := gb484) (o := .cells #[.int .i64 t479, .int .i64 t480, .int .i64 t481, .int .i64 t482] 43 (0, 0)) d8 hb); have n9_ := Aside0.mk (blk_below (g := gb492) (o := .cells #[.int .i64 t488, .int .i64 t489, .int .i64 t490, .int .i64 t491] 43 (0, 0)) d10 hb); have n10_ := Aside0.mk (blk_below (g := gb502) (o := .cells #[.int .i64 t493, .int .i64 t494, .slice Ao56 t495.length co56, .slice Ao57 t498.length co57] 26 (0, 0)) d30 hb); have n11_ := Aside0.mk (below_step d2 hb); clear HO_469002; clear HO_469003; clear HO_479002; clear HO_479003; clear HO_503002; clear HO_503003; clear BK468; clear BK478; clear BK484; clear BK492; clear BK502; clear HB; have HO_469002 := n0_; have HO_469003 := n1_; have HO_479002 := n2_; have HO_479003 := n3_; have HO_503002 := n4_; have HO_503003 := n5_; have BK468 := n6_; have BK478 := n7_; have BK484 := n8_; have BK492 := n9_; have BK502 := n10_; have HB := n11_; clear n0_ n1_ n2_ n3_ n4_ n5_ n6_ n7_ n8_ n9_ n10_ n11_; (try clear hb); (try clear hb2); (try clear hk); (try clear hi)))
           go_ret
           exact ⟨o2, o7⟩
   ·replace c14 := Bool.eq_false_iff.mpr c14
    subst c14
    have H1 : (none) = some r := by rw [if_neg (show ¬ (false = true) by decide)] at H; exact H
    clear H
    have H := H1
    clear H1
    exact absurd H (by simp)

end Go.Proofs.YtokfpmkhfindmaaDoor.PFnProofs
