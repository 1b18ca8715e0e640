/- outriggerref16.Ints as a summary over data. -/
import Derived.Test.YtidnooaccbahpaaTj
namespace Go.Proofs.Ytidnooaccbahpaa
open Go Go.RowKit Go.Proofs Go.Sx
set_option linter.unusedVariables false
set_option linter.unusedSimpArgs false
set_option maxRecDepth 1000000
set_option maxHeartbeats 100000000
noncomputable def E15 : Env := ⟨Go.Proofs.Try.prog, [], 3, 50, false, [], [], [], []⟩
theorem E15_ok : E15.Ok := envOkR' (S := []) (HS := []) (RS := []) trivial trivial trivial
noncomputable def L15 : List Code := match Try.f15.body with | some c => flatC c | _ => []
noncomputable def b15 : Code := match nth L15 4 with | some (.block _ (.loop x)) => x | _ => .skip
noncomputable def a15 : List Code := L15.take 4
noncomputable def e15 : List Code := L15.drop 5
theorem L15_eq : L15 = a15 ++ Code.block 0 (.loop b15) :: e15 := by kernel_rfl
noncomputable def body15 : Code := match Try.f15.body with | some c => c | _ => .skip
theorem body15_eq : Try.f15.body = some body15 := by kernel_rfl
theorem body15_L : flatC body15 = L15 := by kernel_rfl
def keep15 : List Nat := [0, 1, 4, 1005]
noncomputable def st15 (n m : Nat) (f g : Nat → Nat → Tr) (i : Int) : Go.Sx.St := ⟨[.val (.tsl KI n f), .val (.tsl KI m g), .none, .none, .val (.bool (.lit false)), .val (.int .i64 (.sym i))] ++ List.replicate 20 .none, []⟩
/-- a body left by a return -/
theorem ret_end {E : Env} {fn : Func} {st : Go.Sx.St} {β : Lab} {a : Act} {w : World} {vs : List SV} (hrel : Rel β st a w) (hvs : resultS E.P st fn.results.toList = some vs) {R : Ending → World → Prop} (hR : ∀ val, SV.rel β (resultV vs) val → R (.returned val) w) : bodyPost E.P fn R .ret a w := by
  obtain ⟨v, h1, h2⟩ := results_sound hrel hvs
  exact ⟨hrel.defers, v, h1, hR v h2⟩
noncomputable def st15b (n m : Nat) (f g : Nat → Nat → Tr) : Go.Sx.St := ⟨[.val (.tsl KI n f), .val (.tsl KI m g), .none, .none, .val (.bool (.lit false)), .val undefS] ++ List.replicate 20 .none, []⟩
theorem first15 (n m : Nat) (f g : Nat → Nat → Tr) : runL E15 (symCall E15 20) 400 keep15 a15 (startS Try.f15 [.tsl KI n f, .tsl KI m g]) = .ite (Int.ofNat n != Int.ofNat m) (.ret (.ret, st15b n m f g)) (.ret (.normal, st15 n m f g 0)) := by kernel_rfl
theorem round15 (n m : Nat) (f g : Nat → Nat → Tr) (i : Int) : runY E15 (symCall E15 20) 400 keep15 b15 (st15 n m f g i) =
    .ite (decide (i < (n : Int))) (.ite (Go.Sx.leB 0 i && Go.Sx.ltB i n) (.ite (Go.Sx.leB 0 i && Go.Sx.ltB i m) (.ite ((f i.toNat 0).i != (g i.toNat 0).i) (.ret (.ret, st15 n m f g i)) (.ret (.normal, st15 n m f g (IntKind.i64.wrap (i + 1))))) .fail) .fail) (.ret (.exit 0, st15 n m f g i)) := by kernel_rfl
theorem end15 (n m : Nat) (f g : Nat → Nat → Tr) (i : Int) : symEndL E15 (symCall E15 20) 400 e15 Try.f15 (st15 n m f g i) = .ret (.bool (.lit true), []) := by kernel_rfl
theorem wrap_succ {k n : Nat} (hk : k < n) (hn : n ≤ maxLen) : IntKind.i64.wrap ((k : Int) + 1) = ((k + 1 : Nat) : Int) :=
  (rg_iff (k := .i64)).2 ⟨by simp only [loK]; omega, by simp only [hiK]; unfold maxLen at hn; omega⟩
theorem nums_at (n : Nat) (f : Nat → Nat → Tr) (i : Nat) : (nums n f)[i]? = if i < n then some (f i 0).i else none := by
  simp only [nums, rdL, rdI, List.getElem?_map]
  by_cases h : i < n <;> simp [h]
theorem run15 {β0 : Lab} {w0 : World} (h0 : ∀ l, β0 l = none) (hr0 : HR β0 (hpOf []) w0) (n m : Nat) (f g : Nat → Nat → Tr) {vals : List Value} (hv : relL β0 [.tsl KI n f, .tsl KI m g] vals) :
    Calls Go.Proofs.Try.prog 15 vals.toArray w0 (HandsBack β0 w0 (.bool (.sym (decide (nums n f = nums m g))))) := by
  obtain ⟨R, hRd⟩ : ∃ R : Ending → World → Prop, R = HandsBack β0 w0 (.bool (.sym (decide (nums n f = nums m g)))) := ⟨_, rfl⟩
  rw [← hRd]
  have hn : n ≤ maxLen := by
    rw [relL_cons] at hv; obtain ⟨_, _, hv, _, _⟩ := hv
    simp only [SV.rel, relT] at hv; exact hv.1
  have hend : ∀ (b : Bool), b = decide (nums n f = nums m g) → ∀ (β' : Lab) (w' : World) (H : SHeap), Since β0 w0 β' H w' → HR β' (hpOf H) w' → ∀ v, SV.rel β' (.bool (.lit b)) v → R (.returned v) w' := fun b hb β' w' H hs hhr v hv => by
    rw [hRd, ← hb]
    refine gives_end (E := E15) (q := (.bool (.lit b), H)) h0 hr0 ⟨.bool (.lit b), true, rfl, rfl, fun β v h => by simpa [SV.rel, SB.val] using h⟩ hs hhr hv
  have hcall := symCall_sound E15_ok 20
  refine callsL (E := E15) Try.func15 body15_eq (body15_L.trans L15_eq) hv h0 hr0 fun a0 hrel => ?_
  refine runL_sound E15_ok hcall h0 (n := 400) (keep := keep15) hrel (Ext.refl _ _ _) ?_
  rw [first15]
  refine ⟨fun e1 => ?_, fun e1 => ?_⟩
  · intro β1 a1 w1 h1 hr1
    refine ret_end (E := E15) (fn := Try.f15) hr1 (vs := [.bool (.lit false)]) rfl fun v hv => hend false ?_ β1 w1 _ h1 hr1.hr v hv
    symm; rw [decide_eq_false_iff_not]
    intro e
    have := congrArg List.length e
    simp [nums, rdL] at this
    simp [this] at e1
  intro β1 a1 w1 h1 hr1
  have hnm : n = m := by
    have : ¬ ((n : Int) ≠ (m : Int)) := by simpa using e1
    omega
  refine wp_block (loopY E15_ok hcall h0 (n := 400) (keep := keep15) (st15 n m f g)
    (fun q => ∃ k : Nat, q = k ∧ k ≤ n ∧ ∀ j, j < k → (f j 0).i = (g j 0).i) (fun q => n - q.toNat) ?_ ⟨0, rfl, Nat.zero_le _, fun j hj => absurd hj (Nat.not_lt_zero _)⟩ hr1 h1)
  rintro i ⟨k, hk, hkn, hp⟩
  subst hk
  rw [round15]
  refine ⟨fun e1 => holds_chk ?_ (holds_chk ?_ ⟨fun e2 => ?_, fun e2 => ?_⟩), fun e1 => ?_⟩
  · have hlt := of_decide_eq_true e1
    simp only [Bool.and_eq_true, Go.Sx.leB_true, Go.Sx.ltB_true]; omega
  · have hlt := of_decide_eq_true e1
    simp only [Bool.and_eq_true, Go.Sx.leB_true, Go.Sx.ltB_true]; omega
  · have hlt : k < n := by have := of_decide_eq_true e1; omega
    intro β' a' w' h2 hr2
    refine ret_end (E := E15) (fn := Try.f15) hr2 (vs := [.bool (.lit false)]) rfl fun v hv => hend false ?_ β' w' _ h2 hr2.hr v hv
    symm; rw [decide_eq_false_iff_not]
    intro e
    have := congrArg (fun l => l[k]?) e
    simp only [nums_at, if_pos hlt, if_pos (show k < m by omega), Option.some.injEq] at this
    simp [this] at e2
  · have hlt : k < n := by have := of_decide_eq_true e1; omega
    have hw := wrap_succ hlt hn
    refine ⟨_, rfl, ⟨k + 1, hw, by omega, fun j hj => ?_⟩, ?_⟩
    · by_cases e : j = k
      · subst e; simpa using e2
      · exact hp j (by omega)
    · show n - (IntKind.i64.wrap ((k : Int) + 1)).toNat < n - (k : Int).toNat
      rw [hw]; omega
  · have hkn' : k = n := by have := of_decide_eq_false e1; omega
    subst hkn'
    intro β' a' w' h2 hr2
    simp only [Ex.toExit, Exit.inBlock, if_true]
    refine endL E15_ok hcall h0 hr2 h2 (R := R) (fuel := 400) ?_
    rw [end15 k m f g (k : Int)]
    intro β3 w3 v3 hs3 hhr3 hr3
    refine hend true ?_ β3 w3 _ hs3 hhr3 v3 hr3
    symm; rw [decide_eq_true_iff]
    apply List.ext_getElem?
    intro j
    rw [nums_at, nums_at, ← hnm]
    by_cases hj : j < k
    · rw [if_pos hj, if_pos hj, hp j hj]
    · rw [if_neg hj, if_neg hj]
noncomputable def R15 : RSumm := fun vs => match vs with
  | [.tsl ks n f, .tsl ks' m g] => if CK.beqL ks KI && CK.beqL ks' KI then some (true, .bool (.sym (decide (nums n f = nums m g)))) else none
  | _ => none
theorem R15_ok : RSummFn Go.Proofs.Try.prog 15 R15 := by
  refine rsumm_of fun vs c r h hc => ?_
  unfold R15 at h
  split at h <;> (try simp only [reduceCtorEq] at h)
  rename_i ks n f ks' m g
  split at h <;> simp only [Option.some.injEq, Prod.mk.injEq, reduceCtorEq] at h
  rename_i hk; obtain ⟨hm, rfl⟩ := h
  simp only [Bool.and_eq_true] at hk
  have hk1 := CK.beqL_eq _ _ hk.1
  have hk2 := CK.beqL_eq _ _ hk.2
  subst hk1 hk2
  exact ⟨by simp [deepL, SV.deep], fun β0 w0 vals h0 hr0 hv => run15 h0 hr0 n m f g hv⟩
end Go.Proofs.Ytidnooaccbahpaa
