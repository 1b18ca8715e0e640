/- outriggerref16.Sane as a summary over data. -/
import Derived.Test.YtidnooaccbahpaaTk
import Derived.Test.YtidnooaccbahpaaTr
namespace Go.Proofs.Ytidnooaccbahpaa
open Go Go.RowKit Go.Proofs Go.Sx
set_option linter.unusedVariables false
set_option linter.unusedSimpArgs false
set_option maxRecDepth 1000000
set_option maxHeartbeats 4000000
noncomputable def L12 : List Code := match Try.f12.body with | some c => flatC c | _ => []
noncomputable def b12 : Code := match nth L12 2 with | some (.block _ (.loop x)) => x | _ => .skip
noncomputable def a12 : List Code := L12.take 2
noncomputable def e12 : List Code := L12.drop 3
theorem L12_eq : L12 = a12 ++ Code.block 0 (.loop b12) :: e12 := by kernel_rfl
noncomputable def body12 : Code := match Try.f12.body with | some c => c | _ => .skip
theorem body12_eq : Try.f12.body = some body12 := by kernel_rfl
theorem body12_L : flatC body12 = L12 := by kernel_rfl
def keep12 : List Nat := [0, 2, 1003]
noncomputable def st12 (n : Nat) (f : Nat → Nat → Tr) (i : Int) : Go.Sx.St := ⟨[.val (.tsl KA n f), .none, .val (.bool (.lit false)), .val (.int .i64 (.sym i))] ++ List.replicate 36 .none, []⟩
theorem first12 (n : Nat) (f : Nat → Nat → Tr) : runL E15 (symCall E15 20) 400 keep12 a12 (startS Try.f12 [.tsl KA n f]) = .ret (.normal, st12 n f 0) := by kernel_rfl
theorem round12 (n : Nat) (f : Nat → Nat → Tr) (i : Int) : runY E15 (symCall E15 20) 400 keep12 b12 (st12 n f i) =
    .ite (decide (i < (n : Int))) (.ite (Go.Sx.leB 0 i && Go.Sx.ltB i n)
      (.ite (impB (decide ((f i.toNat 2).i < 0) == false) (Go.Sx.leB 0 i && Go.Sx.ltB i n)) (.ite (impB (decide ((f i.toNat 2).i < 0) == false) (Go.Sx.leB 0 i && Go.Sx.ltB i n))
        (.ite (impB ((decide ((f i.toNat 2).i < 0) || decide ((f i.toNat 2).i ≥ (f i.toNat 3).i)) == false) (Go.Sx.leB 0 i && Go.Sx.ltB i n))
          (.ite (decide ((f i.toNat 2).i < 0) || decide ((f i.toNat 2).i ≥ (f i.toNat 3).i) || decide ((f i.toNat 3).i > 1099511627776)) (.ret (.ret, st12 n f i)) (.ret (.normal, st12 n f (IntKind.i64.wrap (i + 1))))) .fail) .fail) .fail) .fail)
      (.ret (.exit 0, st12 n f i)) := by kernel_rfl
theorem end12 (n : Nat) (f : Nat → Nat → Tr) (i : Int) : symEndL E15 (symCall E15 20) 400 e12 Try.f12 (st12 n f i) = .ret (.bool (.sym (decide ((n : Int) ≤ 7))), []) := by kernel_rfl
theorem acts_at {n : Nat} {f : Nat → Nat → Tr} {k : Nat} (hk : k < n) : (acts n f)[k]? = some (rdA (f k)) := by simp [acts, rdL, hk]
theorem run12 {β0 : Lab} {w0 : World} (h0 : ∀ l, β0 l = none) (hr0 : HR β0 (hpOf []) w0) (n : Nat) (f : Nat → Nat → Tr) {vals : List Value} (hv : relL β0 [.tsl KA n f] vals) :
    Calls Go.Proofs.Try.prog 12 vals.toArray w0 (HandsBack β0 w0 (.bool (.sym (saneB (acts n f))))) := by
  obtain ⟨R, hRd⟩ : ∃ R : Ending → World → Prop, R = HandsBack β0 w0 (.bool (.sym (saneB (acts n f)))) := ⟨_, rfl⟩
  rw [← hRd]
  have hn : n ≤ maxLen := by
    rw [relL_cons] at hv; obtain ⟨_, _, hv, _, _⟩ := hv
    simp only [SV.rel, relT] at hv; exact hv.1
  have hlen : (acts n f).length = n := rdL_length _ _ _
  have hend : ∀ (b : SB), b.val = saneB (acts n f) → ∀ (β' : Lab) (w' : World) (H : SHeap), Since β0 w0 β' H w' → HR β' (hpOf H) w' → ∀ v, SV.rel β' (.bool b) v → R (.returned v) w' := fun b hb β' w' H hs hhr v hv => by
    rw [hRd]
    refine gives_end (E := E15) (q := (.bool b, H)) h0 hr0 ⟨.bool b, true, rfl, rfl, fun β v h => ?_⟩ hs hhr hv
    simp only [SV.rel, hb] at h ⊢; exact h
  have hcall := symCall_sound E15_ok 20
  refine callsL (E := E15) Try.func12 body12_eq (body12_L.trans L12_eq) hv h0 hr0 fun a0 hrel => ?_
  refine runL_sound E15_ok hcall h0 (n := 400) (keep := keep12) hrel (Ext.refl _ _ _) ?_
  rw [first12]
  intro β1 a1 w1 h1 hr1
  refine wp_block (loopY E15_ok hcall h0 (n := 400) (keep := keep12) (st12 n f)
    (fun q => ∃ k : Nat, q = k ∧ k ≤ n ∧ ∀ j, j < k → badB (rdA (f j)) = false) (fun q => n - q.toNat) ?_ ⟨0, rfl, Nat.zero_le _, fun j hj => absurd hj (Nat.not_lt_zero _)⟩ hr1 h1)
  intro i hi
  rw [round12]
  obtain ⟨k, hk, hkn, hp⟩ := hi
  subst hk
  have hin : (k : Int) < (n : Int) → (Go.Sx.leB 0 (k : Int) && Go.Sx.ltB (k : Int) n) = true := fun hx => by
    simp only [Bool.and_eq_true, Go.Sx.leB_true, Go.Sx.ltB_true]; omega
  refine ⟨fun e1 => ?_, fun e1 => ?_⟩
  · have e1' := of_decide_eq_true e1
    have hlt : k < n := by omega
    refine holds_chk (hin e1') (holds_chk (by rw [hin e1']; simp [impB]) (holds_chk (by rw [hin e1']; simp [impB]) (holds_chk (by rw [hin e1']; simp [impB]) ⟨fun e2 => ?_, fun e2 => ?_⟩)))
    · intro β' a' w' h2 hr2
      refine ret_end (E := E15) (fn := Try.f12) hr2 (vs := [.bool (.lit false)]) rfl fun v hv => hend _ ?_ β' w' _ h2 hr2.hr v hv
      show false = saneB (acts n f)
      symm
      simp only [saneB, Bool.and_eq_false_iff, Bool.not_eq_false', List.any_eq_true]
      exact .inr ⟨rdA (f k), List.mem_of_getElem? (acts_at hlt), by rw [Int.toNat_natCast] at e2; exact e2⟩
    · have hw := wrap_succ hlt hn
      refine ⟨_, rfl, ⟨k + 1, hw, by omega, fun j hj => ?_⟩, ?_⟩
      · by_cases e : j = k
        · subst e; rw [Int.toNat_natCast] at e2; exact e2
        · exact hp j (by omega)
      · show n - (IntKind.i64.wrap ((k : Int) + 1)).toNat < n - (k : Int).toNat
        rw [hw]; omega
  · have hkn' : k = n := by have := of_decide_eq_false e1; omega
    subst hkn'
    intro β' a' w' h2 hr2
    simp only [Ex.toExit, Exit.inBlock, if_true]
    refine endL E15_ok hcall h0 hr2 h2 (R := R) (fuel := 400) ?_
    rw [end12 k f (k : Int)]
    intro β3 w3 v3 hs3 hhr3 hr3
    refine hend _ ?_ β3 w3 _ hs3 hhr3 v3 hr3
    show decide ((k : Int) ≤ 7) = saneB (acts k f)
    have hb : (acts k f).any badB = false := by
      rw [List.any_eq_false]
      intro x hx
      obtain ⟨j, hj, rfl⟩ := List.getElem_of_mem hx
      rw [hlen] at hj
      have := acts_at (f := f) hj
      rw [List.getElem?_eq_getElem (by rw [hlen]; exact hj)] at this
      rw [Option.some.inj this, hp j hj]; simp
    unfold saneB
    rw [hb, hlen]
    simp only [Bool.not_false, Bool.and_true, decide_eq_decide]
    omega
noncomputable def R12 : RSumm := fun vs => match vs with
  | [.tsl ks n f] => if CK.beqL ks KA then some (true, .bool (.sym (saneB (acts n f)))) else none
  | _ => none
theorem R12_ok : RSummFn Go.Proofs.Try.prog 12 R12 := by
  refine rsumm_of fun vs c r h hc => ?_
  unfold R12 at h
  split at h <;> (try simp only [reduceCtorEq] at h)
  rename_i ks n f
  split at h <;> simp only [Option.some.injEq, Prod.mk.injEq, reduceCtorEq] at h
  rename_i hk; obtain ⟨_, rfl⟩ := h
  have hk := CK.beqL_eq _ _ hk
  subst hk
  exact ⟨by simp [deepL, SV.deep], fun β0 w0 vals h0 hr0 hv => run12 h0 hr0 n f hv⟩
end Go.Proofs.Ytidnooaccbahpaa
