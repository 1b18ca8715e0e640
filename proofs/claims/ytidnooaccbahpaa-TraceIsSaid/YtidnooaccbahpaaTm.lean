/- TraceOrder, walked: what the law comes to. -/
import Derived.Test.YtidnooaccbahpaaTl
import Derived.Test.YtidnooaccbahpaaTo
import Derived.Test.YtidnooaccbahpaaDt
namespace Go.Proofs.Ytidnooaccbahpaa
open Go Go.RowKit Go.Proofs Go.Sx
set_option linter.unusedVariables false
set_option linter.unusedSimpArgs false
set_option maxRecDepth 1000000
set_option maxHeartbeats 100000000
noncomputable def E4 : Env := ⟨Go.Proofs.Try.prog, [], 3, 50, false, [], [], [], [(8, R8), (9, R9), (11, R11), (13, R13), (15, R15)]⟩
theorem E4_ok : E4.Ok := envOkR' (S := []) (HS := []) (RS := [(8, R8), (9, R9), (11, R11), (13, R13), (15, R15)]) trivial trivial ⟨R8_ok, R9_ok, R11_ok, R13_ok, R15_ok, trivial⟩
noncomputable def L4 : List Code := match Try.f4.body with | some c => flatC c | _ => []
noncomputable def b4 : Code := match nth L4 10 with | some (.block _ (.loop x)) => x | _ => .skip
noncomputable def a4 : List Code := L4.take 10
noncomputable def e4 : List Code := L4.drop 11
theorem L4_eq : L4 = a4 ++ Code.block 0 (.loop b4) :: e4 := by kernel_rfl
noncomputable def body4 : Code := match Try.f4.body with | some c => c | _ => .skip
theorem body4_eq : Try.f4.body = some body4 := by kernel_rfl
theorem body4_L : flatC body4 = L4 := by kernel_rfl
def keep4 : List Nat := [1, 4, 5, 6, 7, 1008]
noncomputable def st4 (r : Option (List Nat)) (m : Nat) (g : Nat → Nat → Tr) (i : Int) : Go.Sx.St := ⟨[.none, .val (.tsl KI m g), .none, .none, .val (.bool (.lit false)), .val (.bool (.sym true)), .val (intsV (ordI (r.getD []))), .val (.bool (.sym r.isSome)), .val (.int .i64 (.sym i))] ++ List.replicate 73 .none, []⟩
noncomputable def st4r (b : SB) (o ok i : SV) (m : Nat) (g : Nat → Nat → Tr) : Go.Sx.St := ⟨[.none, .val (.tsl KI m g), .none, .none, .val (.bool b), .val (.bool (.sym true)), .val o, .val ok, .val i] ++ List.replicate 73 .none, []⟩
abbrev oI (r : Option (List Nat)) : List Int := ordI (r.getD [])
abbrev oF (r : Option (List Nat)) : Nat → Nat → Tr := fun i _ => .int ((oI r).getD i 0)
theorem first4 (n m : Nat) (f g : Nat → Nat → Tr) : runL E4 (symCall E4 20) 400 keep4 a4 (startS Try.f4 [.tsl KA n f, .tsl KI m g]) =
    .ite true (.ite (decide ((n : Int) > 20) || decide ((m : Int) > 20)) (.ret (.ret, st4r (.sym true) undefS undefS undefS m g))
      (.ite true (.ite (Nat.ble (oI (orderL (acts n f))).length 1000000000000)
        (.ite (!((orderL (acts n f)).isSome == fitsP (acts n f) (nums (oI (orderL (acts n f))).length (oF (orderL (acts n f))))) && ((orderL (acts n f)).isSome || decide ((n : Int) > 0)))
          (.ret (.ret, st4r (.lit false) (intsV (oI (orderL (acts n f)))) (.bool (.sym (orderL (acts n f)).isSome)) undefS m g))
          (.ite (Nat.ble m 1000000000000)
            (.ite (!fitsP (acts n f) (nums m g)) (.ret (.ret, st4r (.sym true) (intsV (oI (orderL (acts n f)))) (.bool (.sym (orderL (acts n f)).isSome)) undefS m g))
              (.ret (.normal, st4 (orderL (acts n f)) m g 0))) .fail)) .fail) .fail)) .fail := by kernel_rfl
theorem round4 (r : Option (List Nat)) (m : Nat) (g : Nat → Nat → Tr) (i : Int) : runY E4 (symCall E4 20) 400 keep4 b4 (st4 r m g i) =
    .ite (decide (i < ((oI r).length : Int)) && decide (i < (m : Int)))
      (.ite (Go.Sx.leB 0 i && Go.Sx.ltB i (oI r).length) (.ite (Go.Sx.leB 0 i && Go.Sx.ltB i m)
        (.ite ((oI r).getD i.toNat 0 != (g i.toNat 0).i)
          (.ite (impB ((true && r.isSome) == true) (Go.Sx.leB 0 i && Go.Sx.ltB i (oI r).length)) (.ite (impB ((true && r.isSome) == true) (Go.Sx.leB 0 i && Go.Sx.ltB i m))
            (.ret (.ret, st4r (.sym (true && r.isSome && decide ((oI r).getD i.toNat 0 < (g i.toNat 0).i))) (intsV (oI r)) (.bool (.sym r.isSome)) (.int .i64 (.sym i)) m g)) .fail) .fail)
          (.ret (.normal, st4 r m g (IntKind.i64.wrap (i + 1))))) .fail) .fail)
      (.ret (.exit 0, st4 r m g i)) := by kernel_rfl
theorem end4 (r : Option (List Nat)) (m : Nat) (g : Nat → Nat → Tr) (i : Int) : symEndL E4 (symCall E4 20) 400 e4 Try.f4 (st4 r m g i) = .ret (.bool (.sym (true && r.isSome)), []) := by kernel_rfl
theorem nums_of (xs : List Int) : nums xs.length (fun i _ => .int (xs.getD i 0)) = xs := by
  apply List.ext_getElem?
  intro i
  rw [nums_at]
  by_cases h : i < xs.length
  · rw [if_pos h, List.getElem?_eq_getElem h]; simp [Tr.i, List.getD_eq_getElem?_getD, h]
  · rw [if_neg h, List.getElem?_eq_none (by omega)]
theorem acts_length (n : Nat) (f : Nat → Nat → Tr) : (acts n f).length = n := rdL_length _ _ _
theorem nums_length (n : Nat) (f : Nat → Nat → Tr) : (nums n f).length = n := rdL_length _ _ _
theorem ble_of {x y : Nat} (h : x ≤ y) : Nat.ble x y = true := by simpa using h
/-- what is told fits -/
theorem told_fits {zs : List A} : (!((orderL zs).isSome == fitsP zs (oI (orderL zs))) && ((orderL zs).isSome || decide ((zs.length : Int) > 0))) = false := by
  cases ho : orderL zs with
  | some o =>
    obtain ⟨h1, h2, h3⟩ := order_sound ho
    have : fitsP zs (oI (some o)) = true := fits_of h1 h2 h3
    rw [this]; rfl
  | none =>
    cases hf : fitsP zs (oI none) with
    | false => rfl
    | true =>
      obtain ⟨h1, L, h2, h3, h4⟩ := of_fits hf
      have : L = [] := by
        have := congrArg List.length h2
        simp only [ordI, Option.getD_none, List.map_nil, List.length_nil, List.length_map] at this
        exact List.eq_nil_of_length_eq_zero this.symm
      subst this
      have : zs.length = 0 := by have := h3.1; simpa using this.symm
      simp [this]
theorem lex_at : ∀ {o L : List Nat}, lexLe o L → ∀ k, (∀ j, j < k → (ordI o).getD j 0 = (ordI L).getD j 0) → k < o.length → k < L.length → (ordI o).getD k 0 ≠ (ordI L).getD k 0 → (ordI o).getD k 0 < (ordI L).getD k 0
  | [], L, _, k, _, hk, _, _ => by simp at hk
  | _ :: _, [], h, k, _, _, hk, _ => by simp at hk
  | a :: o, b :: L, h, 0, _, _, _, hne => by
    simp only [ordI, List.map_cons, List.getD_cons_zero] at hne ⊢
    rcases h with h | ⟨rfl, _⟩
    · omega
    · exact absurd rfl hne
  | a :: o, b :: L, h, k + 1, heq, h1, h2, hne => by
    have h0 := heq 0 (by omega)
    simp only [ordI, List.map_cons, List.getD_cons_zero] at h0
    rcases h with h | ⟨_, h⟩
    · omega
    · have := lex_at (o := o) (L := L) h k (fun j hj => by simpa [ordI] using heq (j + 1) (by omega)) (by simpa using h1) (by simpa using h2) (by simpa [ordI] using hne)
      simpa [ordI] using this
set_option maxHeartbeats 1000000 in
theorem run4 {β0 : Lab} {w0 : World} (h0 : ∀ l, β0 l = none) (hr0 : HR β0 (hpOf []) w0) (n m : Nat) (f g : Nat → Nat → Tr) {vals : List Value} (hv : relL β0 [.tsl KA n f, .tsl KI m g] vals) :
    Calls Go.Proofs.Try.prog 4 vals.toArray w0 fun e w' => e = .returned (.bool true) ∧ Below w0.heap.size w0 w' := by
  obtain ⟨R, hRd⟩ : ∃ R : Ending → World → Prop, R = fun e w' => e = .returned (.bool true) ∧ Below w0.heap.size w0 w' := ⟨_, rfl⟩
  rw [← hRd]
  have hm : m ≤ maxLen := by
    rw [relL_cons] at hv; obtain ⟨_, _, _, hv, _⟩ := hv
    rw [relL_cons] at hv; obtain ⟨_, _, hv, _, _⟩ := hv
    simp only [SV.rel, relT] at hv; exact hv.1
  have hend : ∀ (b : SB), b.val = true → ∀ (β' : Lab) (w' : World) (H : SHeap), Since β0 w0 β' H w' → ∀ v, SV.rel β' (.bool b) v → R (.returned v) w' := fun b hb β' w' H hs v hv => by
    rw [hRd]
    simp only [SV.rel, hb] at hv
    exact ⟨by rw [hv], Since.below h0 hs⟩
  have hol : ∀ r, r = orderL (acts n f) → (oI r).length ≤ 7 := fun r hr => by
    cases ho : orderL (acts n f) with
    | none => rw [hr, ho]; simp [ordI]
    | some o =>
      obtain ⟨h1, h2, _⟩ := order_sound ho
      have := sane_len h1
      rw [hr, ho]; simp [ordI, h2.1]; omega
  have hcall := symCall_sound E4_ok 20
  refine callsL (E := E4) Try.func4 body4_eq (body4_L.trans L4_eq) hv h0 hr0 fun a0 hrel => ?_
  refine runL_sound E4_ok hcall h0 (n := 400) (keep := keep4) hrel (Ext.refl _ _ _) ?_
  rw [first4]
  refine holds_chk rfl ⟨fun e1 => ?_, fun e1 => holds_chk rfl (holds_chk ?_ ⟨fun e2 => ?_, fun e2 => holds_chk ?_ ⟨fun e3 => ?_, fun e3 => ?_⟩⟩)⟩
  · intro β1 a1 w1 h1 hr1
    exact ret_end (E := E4) (fn := Try.f4) hr1 (vs := [.bool (.sym true)]) rfl fun v hv => hend _ rfl β1 w1 _ h1 v hv
  · have := hol _ rfl
    exact ble_of (by omega)
  · exfalso
    have := told_fits (zs := acts n f)
    rw [acts_length] at this
    rw [nums_of] at e2
    rw [this] at e2
    cases e2
  · have : ¬ ((m : Int) > 20) := by
      simp only [Bool.or_eq_false_iff, decide_eq_false_iff_not] at e1
      exact e1.2
    exact ble_of (by omega)
  · intro β1 a1 w1 h1 hr1
    exact ret_end (E := E4) (fn := Try.f4) hr1 (vs := [.bool (.sym true)]) rfl fun v hv => hend _ rfl β1 w1 _ h1 v hv
  have hfit : fitsP (acts n f) (nums m g) = true := by simpa using e3
  obtain ⟨hs, L, hL, hF, hV⟩ := of_fits hfit
  obtain ⟨o, ho, hlex⟩ := order_complete hs hF hV
  have hLm : L.length = m := by
    have := congrArg List.length hL
    rw [nums_length] at this; simpa [ordI] using this.symm
  have hg : ∀ j, j < m → (g j 0).i = (ordI L).getD j 0 := fun j hj => by
    have := nums_at m g j
    rw [hL, if_pos hj] at this
    rw [List.getD_eq_getElem?_getD, this]; rfl
  rw [ho]
  intro β1 a1 w1 h1 hr1
  refine wp_block (loopY E4_ok hcall h0 (n := 400) (keep := keep4) (st4 (some o) m g)
    (fun q => ∃ k : Nat, q = k ∧ k ≤ m ∧ ∀ j, j < k → (ordI o).getD j 0 = (g j 0).i) (fun q => m - q.toNat) ?_ ⟨0, rfl, Nat.zero_le _, fun j hj => absurd hj (Nat.not_lt_zero _)⟩ hr1 h1)
  intro i hi
  rw [round4]
  obtain ⟨k, hk, hkm, hp⟩ := hi
  subst hk
  have hin : ∀ (x : Nat), (k : Int) < (x : Int) → (Go.Sx.leB 0 (k : Int) && Go.Sx.ltB (k : Int) x) = true := fun x hx => by
    simp only [Bool.and_eq_true, Go.Sx.leB_true, Go.Sx.ltB_true]; omega
  refine ⟨fun e1 => ?_, fun e1 => ?_⟩
  · simp only [Bool.and_eq_true, decide_eq_true_eq] at e1
    have hk1 : k < o.length := by have := e1.1; simp [ordI] at this; omega
    have hk2 : k < m := by have := e1.2; omega
    refine holds_chk (hin _ e1.1) (holds_chk (hin _ e1.2) ⟨fun e2 => ?_, fun e2 => ?_⟩)
    · refine holds_chk (by rw [hin _ e1.1]; simp [impB]) (holds_chk (by rw [hin _ e1.2]; simp [impB]) ?_)
      intro β' a' w' h2 hr2
      refine ret_end (E := E4) (fn := Try.f4) hr2 (vs := [.bool (.sym (true && (some o).isSome && decide ((oI (some o)).getD (k : Int).toNat 0 < (g (k : Int).toNat 0).i)))]) rfl fun v hv => hend _ ?_ β' w' _ h2 v hv
      simp only [Int.toNat_natCast, bne_iff_ne, ne_eq] at e2
      have hlt := lex_at hlex k (fun j hj => by rw [hp j hj, hg j (by omega)]) hk1 (by omega) (by rw [← hg k hk2]; exact e2)
      simp only [SB.val, Int.toNat_natCast, Option.isSome_some, Bool.and_self, Bool.true_and, decide_eq_true_eq]
      rw [hg k hk2]; exact hlt
    · have hw := wrap_succ hk2 hm
      refine ⟨_, rfl, ⟨k + 1, hw, by omega, fun j hj => ?_⟩, ?_⟩
      · by_cases e : j = k
        · subst e
          simp only [bne_eq_false_iff_eq, Int.toNat_natCast] at e2
          exact e2
        · exact hp j (by omega)
      · show m - (IntKind.i64.wrap ((k : Int) + 1)).toNat < m - (k : Int).toNat
        rw [hw]; omega
  · intro β' a' w' h2 hr2
    simp only [Ex.toExit, Exit.inBlock, if_true]
    refine endL E4_ok hcall h0 hr2 h2 (R := R) (fuel := 400) ?_
    rw [end4 (some o) m g (k : Int)]
    intro β3 w3 v3 hs3 hhr3 hr3
    exact hend _ rfl β3 w3 _ hs3 v3 hr3
theorem row4 {W : World} (g0 g1 : Tr) {v0 v1 : Value} (h0 : SV.rel (labW W) (cellT (fun _ => g0) 0 (.sl KA)) v0) (h1 : SV.rel (labW W) (cellT (fun _ => g1) 0 (.sl KI)) v1) :
    Calls Go.Proofs.Try.prog 4 #[v0, v1] W fun e w' => e = .returned (.bool true) ∧ Below W.heap.size W w' :=
  run4 (β0 := labW W) (fun _ => rfl) (labW_hr W) g0.n g1.n g0.f g1.f (vals := [v0, v1]) ((relL_cons ..).2 ⟨v0, [v1], h0, (relL_cons ..).2 ⟨v1, [], h1, relL_nil.2 rfl, rfl⟩, rfl⟩)
end Go.Proofs.Ytidnooaccbahpaa
