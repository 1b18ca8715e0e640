/- outriggerlaw16.awake returns true. -/
import Derived.Test.YtidnooaccbahpaaTk
namespace Go.Sx
open Go.RowKit Go.Proofs
/-- a slot's own list, laid down for good -/
def frzSlot (E : Env) (st : St) (k : Nat) : Option (Bool × St) := match nth st.slots k with
  | some (.val v) => match frzV E st.heap v with
    | some (v', c, H') => some (c, ⟨upd st.slots k (.val v'), H'⟩)
    | none => none
  | _ => none
theorem frzSlot_sound {E : Env} {β0 : Lab} {w0 : World} {st st' : St} {k : Nat} {c : Bool} {β : Lab} {a : Act} {w : World} (h0 : ∀ l, β0 l = none) (h : Rel β st a w) (hs : Since β0 w0 β st.heap w) (hf : frzSlot E st k = some (c, st')) (hc : c = true) :
    ∃ β', Rel β' st' a w ∧ Since β0 w0 β' st'.heap w := by
  unfold frzSlot at hf
  split at hf <;> (try simp only [reduceCtorEq] at hf)
  rename_i v hv
  split at hf <;> simp only [Option.some.injEq, Prod.mk.injEq, reduceCtorEq] at hf
  rename_i v' c' H' hfv
  obtain ⟨rfl, rfl⟩ := hf
  obtain ⟨x, hx1, hx2⟩ := h.fact _ _ hv
  obtain ⟨β', k1, k2⟩ := frzV_sound hfv hc h.hr hx2
  refine ⟨β', ⟨by simp only [upd_length]; exact h.size, fun y e he => ?_, k1.hr, fun l hl => by rw [k1.blk]; exact h.free l (by rw [← k1.len]; exact hl), h.defers⟩, Ext.trans (fun l _ => h0 l) h.free hs k1.ext⟩
  rw [nth_upd] at he
  split at he
  · rename_i hk
    simp only [Option.some.injEq] at he; subst he
    obtain ⟨rfl, _⟩ := hk
    exact ⟨x, hx1, k2⟩
  · exact (h.fact y e he).mono k1.le
end Go.Sx
namespace Go.Proofs.Ytidnooaccbahpaa
open Go Go.RowKit Go.Proofs Go.Sx
set_option linter.unusedVariables false
set_option linter.unusedSimpArgs false
set_option maxRecDepth 1000000
set_option maxHeartbeats 100000000
noncomputable def E8 : Env := ⟨Go.Proofs.Try.prog, [], 3, 50, false, [], [], [], [(9, R9), (11, R11), (13, R13), (15, R15)]⟩
theorem E8_ok : E8.Ok := envOkR' (S := []) (HS := []) (RS := [(9, R9), (11, R11), (13, R13), (15, R15)]) trivial trivial ⟨R9_ok, R11_ok, R13_ok, R15_ok, trivial⟩
noncomputable def L8 : List Code := match Try.f8.body with | some c => flatC c | _ => []
noncomputable def a8 : List Code := L8.take 2
noncomputable def e8 : List Code := L8.drop 2
theorem L8_eq : L8 = a8 ++ e8 := by kernel_rfl
noncomputable def body8 : Code := match Try.f8.body with | some c => c | _ => .skip
theorem body8_eq : Try.f8.body = some body8 := by kernel_rfl
theorem body8_L : flatC body8 = L8 := by kernel_rfl
noncomputable def st8 : Go.Sx.St := match runL E8 (symCall E8 20) 400 [0, 1] a8 (startS Try.f8 []) with | .ret r => r.2 | _ => ⟨[], []⟩
theorem first8 : runL E8 (symCall E8 20) 400 [0, 1] a8 (startS Try.f8 []) = .ret (.normal, st8) := by kernel_rfl
noncomputable def st8f : Go.Sx.St := match frzSlot E8 st8 1 with | some (_, s) => s | _ => ⟨[], []⟩
noncomputable def c8 : Bool := match frzSlot E8 st8 1 with | some (c, _) => c | _ => false
theorem frz8 : frzSlot E8 st8 1 = some (c8, st8f) := by kernel_rfl
theorem c8_true : c8 = true := by kernel_rfl
def yesT : T (SV × SHeap) → Bool
  | .ret (.bool b, _) => b.val
  | .ret _ => false
  | .ite c x y => if c then yesT x else yesT y
  | .both x y => yesT x && yesT y
  | .fail => false
def YesV (q : SV × SHeap) : Prop := ∃ b : SB, q.1 = .bool b ∧ b.val = true
theorem yesT_holds : ∀ {t : T (SV × SHeap)}, yesT t = true → t.Holds YesV
  | .ret (.bool b, _), h => ⟨b, rfl, h⟩
  | .ite c x y, h => ⟨fun e => yesT_holds (t := x) (by simpa [yesT, e] using h), fun e => yesT_holds (t := y) (by simpa [yesT, e] using h)⟩
  | .both x y, h => by
    simp only [yesT, Bool.and_eq_true] at h
    exact ⟨yesT_holds h.1, yesT_holds h.2⟩
  | .ret (.int _ _, _), h | .ret (.ptr _ _, _), h | .ret (.nilp, _), h | .ret (.slice _ _ _ _, _), h | .ret (.own _ _ _, _), h | .ret (.func _ _ _, _), h | .ret (.agg _, _), h | .ret (.tuple _, _), h | .ret (.raw _, _), h
  | .ret (.tsl _ _ _, _), h | .ret (.tptr _ _ _, _), h | .ret (.tz _, _), h | .ret (.gro _ _ _, _), h => by simp [yesT] at h
  | .fail, h => by simp [yesT] at h
theorem awake8 : yesT (symEndL E8 (symCall E8 20) 400 e8 Go.Proofs.Try.f8 st8f) = true := by decide +kernel
theorem run8 {β0 : Lab} {w0 : World} (h0 : ∀ l, β0 l = none) (hr0 : HR β0 (hpOf []) w0) : Calls Go.Proofs.Try.prog 8 #[] w0 (HandsBack β0 w0 (.bool (.sym true))) := by
  obtain ⟨R, hRd⟩ : ∃ R : Ending → World → Prop, R = HandsBack β0 w0 (.bool (.sym true)) := ⟨_, rfl⟩
  rw [← hRd]
  have hcall := symCall_sound E8_ok 20
  refine callsL (E := E8) Try.func8 body8_eq (body8_L.trans L8_eq) (vs := []) (vals := []) (relL_nil.2 rfl) h0 hr0 fun a0 hrel => ?_
  refine runL_sound E8_ok hcall h0 (n := 400) (keep := [0, 1]) hrel (Ext.refl _ _ _) ?_
  rw [first8]
  intro β1 a1 w1 h1 hr1
  obtain ⟨β2, hr2, h2⟩ := frzSlot_sound h0 hr1 h1 frz8 c8_true
  refine endL E8_ok hcall h0 hr2 h2 (R := R) (fuel := 400) (T.Holds.mono ?_ (yesT_holds awake8))
  rintro ⟨q, H⟩ ⟨b, rfl, hb⟩ β3 w3 v3 hs3 hhr3 hr3
  rw [hRd]
  refine gives_end (E := E8) (q := (.bool b, H)) h0 hr0 ⟨.bool b, true, rfl, rfl, fun β v h => ?_⟩ hs3 hhr3 hr3
  simp only [SV.rel, hb] at h ⊢
  exact h
noncomputable def R8 : RSumm := fun vs => match vs with
  | [] => some (true, .bool (.sym true))
  | _ => none
theorem R8_ok : RSummFn Go.Proofs.Try.prog 8 R8 := by
  refine rsumm_of fun vs c r h hc => ?_
  unfold R8 at h
  split at h <;> simp only [Option.some.injEq, Prod.mk.injEq, reduceCtorEq] at h
  obtain ⟨_, rfl⟩ := h
  refine ⟨rfl, fun β0 w0 vals h0 hr0 hv => ?_⟩
  rw [relL_nil] at hv; subst hv
  exact run8 h0 hr0
end Go.Proofs.Ytidnooaccbahpaa
