/- TraceIs, walked: what the law comes to. -/
import Derived.Test.YtidnooaccbahpaaTm
import Derived.Test.YtidnooaccbahpaaUc
namespace Go.Proofs.Ytidnooaccbahpaa
open Go Go.RowKit Go.Proofs Go.Sx
set_option linter.unusedVariables false
set_option linter.unusedSimpArgs false
set_option maxRecDepth 1000000
set_option maxHeartbeats 4000000
noncomputable def E3 : Env := ⟨Go.Proofs.Try.prog, [], 3, 50, false, [], [], [], [(8, R8), (9, R9), (10, R10), (11, R11), (12, R12), (13, R13), (14, R14), (15, R15)]⟩
theorem E3_ok : E3.Ok := envOkR' (S := []) (HS := []) (RS := [(8, R8), (9, R9), (10, R10), (11, R11), (12, R12), (13, R13), (14, R14), (15, R15)]) trivial trivial ⟨R8_ok, R9_ok, R10_ok, R11_ok, R12_ok, R13_ok, R14_ok, R15_ok, trivial⟩
theorem flat3 (n m : Nat) (f g : Nat → Nat → Tr) (S F K J : Bool) (hS : S = (saneB (acts n f) == saneB (acts n f))) (hF : F = (fitsP (acts n f) (nums m g) == fitsP (acts n f) (nums m g))) (hK : K = ((orderL (acts n f)).isSome == (orderL (acts n f)).isSome)) (hJ : J = decide (nums (oI (orderL (acts n f))).length (oF (orderL (acts n f))) = nums (oI (orderL (acts n f))).length (oF (orderL (acts n f))))) :
    symCall E3 20 3 [.tsl KA n f, .tsl KI m g] [] =
    .ite true (.ite (decide ((n : Int) > 20) || decide ((m : Int) > 20)) (.ret (.bool (.sym true), []))
      (.ite true (.ite true (.ite true (.ite true (.ite (impB ((true && S) == true) (Nat.ble m 1000000000000)) (.ite (impB ((true && S) == true) (Nat.ble m 1000000000000))
        (.ite (impB ((true && S && F && K) == true) true) (.ret (.bool (.sym (true && S && F && K && J)), [])) .fail) .fail) .fail) .fail) .fail) .fail) .fail)) .fail := by
  subst hS hF hK hJ
  kernel_rfl
theorem row3 {W : World} (g0 g1 : Tr) {v0 v1 : Value} (h0 : SV.rel (labW W) (cellT (fun _ => g0) 0 (.sl KA)) v0) (h1 : SV.rel (labW W) (cellT (fun _ => g1) 0 (.sl KI)) v1) :
    Calls Go.Proofs.Try.prog 3 #[v0, v1] W fun e w' => e = .returned (.bool true) ∧ Below W.heap.size W w' := by
  refine symCall_sound E3_ok 20 3 [.tsl KA g0.n g0.f, .tsl KI g1.n g1.f] [] (labW W) W [v0, v1] _ ((relL_cons ..).2 ⟨v0, [v1], h0, (relL_cons ..).2 ⟨v1, [], h1, relL_nil.2 rfl, rfl⟩, rfl⟩) (labW_hr W) (fun _ _ => rfl) ?_
  rw [flat3 g0.n g1.n g0.f g1.f true true true true (by simp) (by simp) (by simp) (by simp)]
  have hend : ∀ (b : SB), b.val = true → ∀ (β' : Lab) (w' : World) (H : SHeap), Since (labW W) W β' H w' → ∀ v, SV.rel β' (.bool b) v → (Ending.returned v = .returned (.bool true) ∧ Below W.heap.size W w') := fun b hb β' w' H hs v hv => by
    simp only [SV.rel, hb] at hv
    exact ⟨by rw [hv], Since.below (fun _ => rfl) hs⟩
  refine holds_chk rfl ⟨fun _ => ?_, fun h2 => ?_⟩
  · intro β' w' v he _ _ hrel
    exact hend _ rfl β' w' _ he v hrel
  · simp only [Bool.or_eq_false_iff, decide_eq_false_iff_not] at h2
    have hm : Nat.ble g1.n 1000000000000 = true := by simp; omega
    rw [hm]
    refine holds_chk rfl (holds_chk rfl (holds_chk rfl (holds_chk rfl (holds_chk rfl (holds_chk rfl (holds_chk rfl ?_))))))
    intro β' w' v he _ _ hrel
    exact hend _ rfl β' w' _ he v hrel
end Go.Proofs.Ytidnooaccbahpaa
