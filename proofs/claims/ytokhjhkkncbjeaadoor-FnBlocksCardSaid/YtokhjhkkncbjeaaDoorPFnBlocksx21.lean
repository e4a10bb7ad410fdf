-- Written by a program of this session (wip/tools/pp.py over the kit's print).
import Derived.Test.YtokhjhkkncbjeaaDoorPFnBlocksx0
import Derived.Test.YtokhjhkkncbjeaaDoorPFnBlocksx14
namespace Go.Proofs.YtokhjhkkncbjeaaDoor.PFnBlocks
open Go.RowKit Go.Proofs.YtokhjhkkncbjeaaDoorW.PrintWords Go.Proofs.YtokhjhkkncbjeaaDoorW.PrintLast Go.Proofs.YtokhjhkkncbjeaaDoorW.PrintMore
attribute [local go_sem] max2_int min2_int max_two min_two max_three min_three max_four min_four
attribute [local go_sem high] str_gtr str_leq str_geq
set_option linter.unusedVariables false
set_option linter.unusedSimpArgs false

/-! ### slices_IndexFunc_string_string: function 60 -/
set_option maxHeartbeats 8000000 in
set_option maxRecDepth 100000 in
theorem slices_IndexFunc_string_string.calls_p (A0 : Option Addr) (c0 : Nat) (l0 : List ByteArray) (g : Nat) (lb : Array Value) (p : ByteArray → Bool) (w : World) (hr0 : Kd.C (Kd.string) w A0 l0.length l0) (hc0 : l0.length ≤ c0)
  (eg : ∀ args w, (callFunc g args).run Tryd.prog w = .ok (.enter g args) w) (hp : PredOk Tryd.prog (Kd.string) g lb (fun cs => cs.headD undef) p l0 w) :
  Calls Tryd.prog 60 #[.slice A0 l0.length c0, .func (.func g) #[] lb] w fun e w' => e = .returned (.int .i64 (idxP p l0)) ∧ Below w.heap.size w w' := by
 have HR0 := Aside0.mk hr0
 have HC0 := Aside0.mk hc0
 have HP := Aside0.mk hp
 clear hr0 hc0 hp
 have HB := Aside0.mk (Below.refl w.heap.size w)
 have HM := Aside0.mk (Kd.C_max HR0.out)
 generalize hR : idxP p l0 = R
 have HR := Aside0.mk hR
 clear hR
 go_enter Tryd.func60, Tryd.ntmps60
 go_wp2
 go_loopg [8] (l0.length + 1) (fun kq v8 w' => ∃ (i : Int), v8 = .int .i64 i ∧ Aside0 (0 ≤ i ∧ (kq : Int) + i = l0.length + 1 ∧ i ≤ l0.length) ∧ Aside0 (∀ j y, j < i.toNat → l0[j]? = some y → p y = false) ∧ Aside0 (Below w.heap.size w w'))
 case atStart => exact ⟨0, rfl, ⟨(by omega), (by omega), (by omega)⟩, ⟨fun j y h => by omega⟩, ⟨J1⟩⟩
 case round =>
  obtain ⟨i, rfl, HI, HF, HB⟩ := hrel
  by_cases hlt : i < (l0.length : Int)
  ·have c1 : decide (i < (l0.length : Int)) = true := decide_eq_true hlt
   obtain ⟨ad, ea, hx⟩ := Kd.at_string HR0.out i HI.out.1 hlt
   cases ea
   replace hx := pw_cell_below HB.out hx
   obtain ⟨x, hlx⟩ : ∃ x, l0[i.toNat]? = some x := ⟨_, List.getElem?_eq_getElem (by have := HI.out; omega)⟩
   have hxe : rdOf ByteArray.empty l0 i = x := by unfold rdOf; rw [List.getD_eq_getElem?_getD, hlx]; rfl
   rw [hxe] at hx
   have HX := Aside0.mk hlx
   clear hlx hxe
   have p1 : (0 ≤ i) = True := eq_true HI.out.1
   have p2 : (i < (l0.length : Int)) = True := eq_true hlt
   have hlt0 := hlt
   clear hlt
   cases hpx : p x with
   | true =>
    have HPX := Aside0.mk hpx
    clear hpx hlt0
    go_wp2_with fail
    have hc := HP.out _ x [.string x] (List.mem_of_getElem? HX.out) HB.out rfl
    rw [HPX.out] at hc
    refine hc.mono ?_
    clear hc
    rintro e w' ⟨rfl, hb⟩
    replace HB := Aside0.mk (below_step HB.out hb)
    clear hb
    go_wp2
    go_ret
    exact ⟨(by rw [← HR.out, idxP_hit HX.out HPX.out HF.out, Int.toNat_of_nonneg HI.out.1]; rfl), HB.out⟩
   | false =>
    have HPX := Aside0.mk hpx
    have HL := Aside0.mk hlt0
    clear hpx hlt0
    go_wp2_with fail
    have hc := HP.out _ x [.string x] (List.mem_of_getElem? HX.out) HB.out rfl
    rw [HPX.out] at hc
    refine hc.mono ?_
    clear hc
    rintro e w' ⟨rfl, hb⟩
    replace HB := Aside0.mk (below_step HB.out hb)
    clear hb
    go_wp2
    go_roundg (gk - 1)
    case measure => have := HI.out; have := HL.out; omega
    case rel =>
     have hI := HI.out
     have hL := HL.out
     refine ⟨i + 1, ?_, ⟨(by omega), (by omega), (by omega)⟩, ⟨fun j y hj hy => ?_⟩, HB⟩
     ·first | rfl | (simp; done) | (congr 1; have hw := HM.out; first | (unfold wrap64; omega) | (rw [IntKind.wrap_i64]; omega))
     ·rcases Nat.lt_or_ge j i.toNat with h | h
      ·exact HF.out j y h hy
      ·have e : j = i.toNat := by omega
       rw [e, HX.out] at hy
       exact Option.some.inj hy ▸ HPX.out
  ·have c1 : decide (i < (l0.length : Int)) = false := decide_eq_false hlt
   have HL := Aside0.mk hlt
   clear hlt
   go_wp2
   go_ret
   exact ⟨(by rw [← HR.out, idxP_miss (fun j y hj hy => HF.out j y (by have := HI.out; have := HL.out; omega) hy)]; rfl), HB.out⟩

/-! ### slices_ContainsFunc_string_string: function 39 -/
set_option maxHeartbeats 8000000 in
set_option maxRecDepth 100000 in
theorem slices_ContainsFunc_string_string.calls_p (A0 : Option Addr) (c0 : Nat) (l0 : List ByteArray) (g : Nat) (lb : Array Value) (p : ByteArray → Bool) (w : World) (hr0 : Kd.C (Kd.string) w A0 l0.length l0) (hc0 : l0.length ≤ c0)
  (eg : ∀ args w, (callFunc g args).run Tryd.prog w = .ok (.enter g args) w) (hp : PredOk Tryd.prog (Kd.string) g lb (fun cs => cs.headD undef) p l0 w) :
  Calls Tryd.prog 39 #[.slice A0 l0.length c0, .func (.func g) #[] lb] w fun e w' => e = .returned (.bool (l0.any p)) ∧ Below w.heap.size w w' := by
 have hc := slices_IndexFunc_string_string.calls_p A0 c0 l0 g lb p w hr0 hc0 eg hp
 have HC := Aside0.mk hc
 have e8 := idxP_any p l0
 generalize idxP p l0 = i at HC e8
 clear hc hr0 hp
 go_enter Tryd.func39, Tryd.ntmps39
 go_wp2_with fail
 refine HC.out.mono ?_
 rintro e w' ⟨rfl, hb⟩
 have HB := Aside0.mk hb
 clear hb
 go_wp2
 go_ret
 exact ⟨(by rw [← e8]; rfl), HB.out⟩

/-! ### impl_BlockOk_1: function 40 -/
set_option maxHeartbeats 8000000 in
set_option maxRecDepth 100000 in
theorem impl_BlockOk_1.calls_p (x : ByteArray) (w : World) : Calls Tryd.prog 40 #[.string x] w fun e w' => e = .returned (.bool (decide ((x.size : Int) > 60))) ∧ Drawn0 w w' := by
 go_enter Tryd.func40, Tryd.ntmps40
 go_wp2
 go_ret
 exact ⟨(by first | rfl | (simp; done)), J2⟩
def slices_ContainsFunc_string_string.f (l0 : List ByteArray) : Option Bool := some (l0.any fun s => decide ((s.size : Int) > 60))
theorem slices_ContainsFunc_string_string.calls (A0 : Option Addr) (c0 : Nat) (l0 : List ByteArray) (r : Bool) (w : World) (hr0 : Kd.C Kd.string w A0 l0.length l0) (hc0 : l0.length ≤ c0) (h : slices_ContainsFunc_string_string.f l0 = some r) :
  Calls Tryd.prog 39 #[.slice A0 l0.length c0, .func (.func 40) #[] #[]] w fun e w' => e = .returned (.bool r) ∧ Below w.heap.size w w' := by
 have eg : ∀ args w, (callFunc 40 args).run Tryd.prog w = .ok (.enter 40 args) w := enters_ Tryd.func40 (by kernel_rfl) rfl
 obtain rfl := Option.some.inj h
 refine slices_ContainsFunc_string_string.calls_p A0 c0 l0 40 #[] (fun s => decide ((s.size : Int) > 60)) w hr0 hc0 eg ?_
 rintro W x cs - hb rfl
 exact (impl_BlockOk_1.calls_p x W).mono (fun e w' h => by obtain ⟨rfl, ⟨nd, rfl⟩⟩ := h; exact ⟨rfl, (by repeat (first | exact Below.refl _ _ | apply pw_below_drewN | apply below_drew1))⟩)

end Go.Proofs.YtokhjhkkncbjeaaDoor.PFnBlocks
