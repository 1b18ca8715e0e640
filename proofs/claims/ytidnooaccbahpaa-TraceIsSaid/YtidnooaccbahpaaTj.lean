/- trace.Order, trace.Sane, trace.Fits as summaries over data; plain facts of the search. -/
import Derived.Test.YtidnooaccbahpaaTi
import Derived.Test.YtidnooaccbahpaaSq
namespace Go.Proofs.Ytidnooaccbahpaa
open Go.RowKit Go.Proofs Go.Sx
set_option linter.unusedVariables false
set_option linter.unusedSimpArgs false
theorem step_some {zs : List A} {m : Nat} {o : List Nat} {now : Int} {r : List Nat} (h : dfs zs (m + 1) o now = some r) : ∃ k, k < zs.length ∧ skipB zs o now k = false ∧ dfs zs m (o ++ [k]) (thenV zs now k) = some r := by
  simp only [dfs] at h
  obtain ⟨k, hk, h⟩ := List.exists_of_findSome?_eq_some h
  refine ⟨k, by simpa using hk, ?_⟩
  cases hs : skipB zs o now k with
  | true => rw [hs] at h; simp at h
  | false => rw [hs] at h; exact ⟨rfl, by simpa using h⟩
theorem dfs_props {zs : List A} : ∀ (m : Nat) (o : List Nat) (now : Int) (r : List Nat), dfs zs m o now = some r → (∀ i ∈ o, i < zs.length) → o.Nodup → r.length = o.length + m ∧ (∀ i ∈ r, i < zs.length) ∧ r.Nodup
  | 0, o, now, r, h, h1, h2 => by
    simp only [dfs, Option.some.injEq] at h; subst h
    exact ⟨rfl, h1, h2⟩
  | m + 1, o, now, r, h, h1, h2 => by
    obtain ⟨k, hk, hs, h⟩ := step_some h
    have hno : k ∉ o := by
      intro e; simp [skipB, dn, e] at hs
    obtain ⟨h3, h4, h5⟩ := dfs_props m _ _ r h (fun i hi => by rcases List.mem_append.1 hi with e | e; exact h1 i e; simp at e; omega)
      (List.nodup_append.2 ⟨h2, by simp, fun a ha b hb => by simp at hb; subst hb; intro e; subst e; exact hno ha⟩)
    refine ⟨by simp at h3; omega, h4, h5⟩
theorem orderL_props {zs : List A} {o : List Nat} (h : orderL zs = some o) : saneB zs = true ∧ o.length = zs.length ∧ (∀ i ∈ o, i < zs.length) ∧ o.Nodup ∧ dfs zs zs.length [] 0 = some o := by
  unfold orderL at h
  split at h
  · rename_i hs
    obtain ⟨h1, h2, h3⟩ := dfs_props _ _ _ _ h (by simp) (by simp)
    exact ⟨hs, by simpa using h1, h2, h3, h⟩
  · cases h
theorem sane_len {zs : List A} (h : saneB zs = true) : zs.length ≤ 7 := by simp [saneB] at h; exact h.1
def KA : List CK := [.bool, .int .i64, .int .i64, .int .i64]
def KI : List CK := [.int .i64]
def rdA (g : Nat → Tr) : A := ⟨(g 0).b, (g 1).i, (g 2).i, (g 3).i⟩
def rdI (g : Nat → Tr) : Int := (g 0).i
def acts (n : Nat) (f : Nat → Nat → Tr) : List A := rdL rdA n f
def nums (n : Nat) (f : Nat → Nat → Tr) : List Int := rdL rdI n f
def intsV (xs : List Int) : SV := .tsl KI xs.length fun i _ => .int (xs.getD i 0)
theorem relT_bool {fz : FZ} {t : Tr} {u : Value} (h : relT fz t .bool u) : u = .bool t.b := by
  cases t <;> simp only [relT] at h
  exact h
theorem relT_int {fz : FZ} {t : Tr} {k : IntKind} {u : Value} (h : relT fz t (.int k) u) : u = .int k t.i ∧ Rg k t.i := by
  cases t <;> simp only [relT] at h
  exact h
theorem fz_cell {β : Lab} {hp : HP} {w : World} (hr : HR β hp w) {a : Addr} {u : Value} (h : fzc β.fz a = some u) : w.cell? a = some u := by
  unfold fzc at h
  split at h
  · rename_i c e fr hb
    have := (hr.fz _ _ hb).1
    simp only [World.cell?, this]; exact h
  · cases h
theorem cell_spot {w : World} {a : Addr} {u : Value} (h : w.cell? a = some u) : a.spot = none := by
  unfold World.cell? at h
  split at h
  · split at h
    · cases h
    · rename_i hs; cases hsp : a.spot <;> simp_all
  · cases h
theorem lst_of {β : Lab} {hp : HP} {w : World} (hr : HR β hp w) {n : Nat} {f : Nat → Nat → Tr} {v : Value} (h : relT β.fz (.sl n f) (.sl KA) v) : Lst w v (acts n f) := by
  simp only [relT] at h
  have hlen : (acts n f).length = n := rdL_length _ _ _
  rcases h with ⟨hn, ⟨rfl, rfl⟩ | ⟨a, cap, rfl, hc, hh⟩⟩
  · exact ⟨none, 0, rfl, by simp [acts, rdL], .inl rfl⟩
  · refine ⟨some a, cap, by rw [hlen], by rw [hlen]; unfold maxLen at hn; omega, ?_⟩
    by_cases h0 : n = 0
    · exact .inl (List.eq_nil_of_length_eq_zero (by rw [hlen]; exact h0))
    · have hx : ∀ i j k, i < n → KA[j]? = some k → ∃ u, w.cell? (a.add (i * 4 + j)) = some u ∧ relT β.fz (f i j) k u := fun i j k hi hk => by
        obtain ⟨u, h1, h2⟩ := hh i j k hi hk
        exact ⟨u, fz_cell hr h1, h2⟩
      obtain ⟨u0, c0, _⟩ := hx 0 0 .bool (by omega) rfl
      obtain ⟨b, off, sp⟩ := a
      have hsp : sp = none := cell_spot c0
      subst hsp
      refine .inr ⟨b, off, rfl, World.block_lt_of_cell? w _ c0, fun j hj i u hu => ?_⟩
      rw [hlen] at hj
      have hz : (acts n f)[j]! = rdA (f j) := by
        rw [getElem!_pos _ j (by rw [hlen]; exact hj)]; simp [acts, rdL]
      rw [hz] at hu
      have hcase : ∀ i' k', KA[i']? = some k' → w.cell? ⟨b, off + j * 4 + i', none⟩ = some (match k' with | .bool => .bool (f j i').b | _ => .int .i64 (f j i').i) := fun i' k' hk => by
        obtain ⟨u', h1, h2⟩ := hx j i' k' hj hk
        rw [show (⟨b, off + j * 4 + i', none⟩ : Addr) = (⟨b, off, none⟩ : Addr).add (j * 4 + i') by rw [Addr.add_lit, Nat.add_assoc], h1]
        match i', hk with
        | 0, hk => simp [KA] at hk; subst hk; rw [relT_bool h2]
        | 1, hk => simp [KA] at hk; subst hk; rw [(relT_int h2).1]
        | 2, hk => simp [KA] at hk; subst hk; rw [(relT_int h2).1]
        | 3, hk => simp [KA] at hk; subst hk; rw [(relT_int h2).1]
      match i, hu with
      | 0, hu => simp [enc, rdA] at hu; subst hu; exact hcase 0 .bool rfl
      | 1, hu => simp [enc, rdA] at hu; subst hu; exact hcase 1 (.int .i64) rfl
      | 2, hu => simp [enc, rdA] at hu; subst hu; exact hcase 2 (.int .i64) rfl
      | 3, hu => simp [enc, rdA] at hu; subst hu; exact hcase 3 (.int .i64) rfl
theorem lstI_of {β : Lab} {hp : HP} {w : World} (hr : HR β hp w) {n : Nat} {f : Nat → Nat → Tr} {v : Value} (h : relT β.fz (.sl n f) (.sl KI) v) (hn : n ≤ 1000000000000) : LstI w v (nums n f) := by
  simp only [relT] at h
  have hlen : (nums n f).length = n := rdL_length _ _ _
  rcases h with ⟨_, ⟨rfl, rfl⟩ | ⟨a, cap, rfl, hc, hh⟩⟩
  · exact ⟨none, 0, rfl, by simp [nums, rdL], .inl rfl⟩
  · refine ⟨some a, cap, by rw [hlen], by rw [hlen]; exact hn, ?_⟩
    by_cases h0 : n = 0
    · exact .inl (List.eq_nil_of_length_eq_zero (by rw [hlen]; exact h0))
    · have hx : ∀ i, i < n → w.cell? (a.add i) = some (.int .i64 (f i 0).i) := fun i hi => by
        obtain ⟨u, h1, h2⟩ := hh i 0 (.int .i64) hi rfl
        rw [show i * KI.length + 0 = i by simp [KI]] at h1
        rw [fz_cell hr h1, (relT_int h2).1]
      have c0 := hx 0 (by omega)
      obtain ⟨b, off, sp⟩ := a
      have hsp : sp = none := cell_spot c0
      subst hsp
      refine .inr ⟨b, off, rfl, World.block_lt_of_cell? w _ c0, fun i x hi => ?_⟩
      have hi' : i < n := by rw [← hlen]; exact (List.getElem?_eq_some_iff.1 hi).1
      have hz : x = (f i 0).i := by
        have := (List.getElem?_eq_some_iff.1 hi).2
        rw [← this]; simp [nums, rdL, rdI]
      subst hz
      rw [← Addr.add_lit]; exact hx i hi'
theorem tsl_nil (fz : FZ) (g : Nat → Nat → Tr) (ks : List CK) : relT fz (.sl 0 g) (.sl ks) (.slice none 0 0) := by
  simp only [relT]; exact ⟨by simp, .inl ⟨trivial, trivial⟩⟩
theorem own_tsl {β : Lab} {w0 w' : World} {base : Nat} {lv : Value} {xs : List Int} (h : w'.ownsRow base 3 1 lv xs.length (xs.map encI)) (hb : w0.heap.size ≤ base) (hx : ∀ x ∈ xs, Rg .i64 x) (hl : xs.length ≤ maxLen) : SV.rel (β.after w0 w') (intsV xs) lv := by
  unfold intsV
  simp only [SV.rel]
  rcases h.2 with ⟨rfl, h0⟩ | ⟨g, cap, cur, rfl, h3, h4, h5, h6, h7, h8⟩
  · have : xs = [] := List.eq_nil_of_length_eq_zero h0
    subst this
    exact tsl_nil _ _ _
  · simp only [relT]
    refine ⟨hl, .inr ⟨⟨g, 0, none⟩, cap, rfl, h5, fun i j k hi hk => ?_⟩⟩
    have hj : j = 0 := by
      have := (List.getElem?_eq_some_iff.1 hk).1
      simp [KI] at this; omega
    subst hj
    simp [KI] at hk; subst hk
    have h9 : (xs.map encI)[i]? = some (.int .i64 (xs.getD i 0)) := by
      simp [encI, List.getD_eq_getElem?_getD, hi]
    rw [← h8, List.getElem?_take_of_lt (by omega)] at h9
    refine ⟨.int .i64 (xs.getD i 0), ?_, ?_⟩
    · have : (β.after w0 w').fz g = some (.cells cur 3 (0, 0)) := by
        show fzNew β.fz w0 w' g = _
        unfold fzNew; rw [if_neg (by omega)]; exact h4
      have ha : (⟨g, 0, none⟩ : Addr).add (i * KI.length + 0) = ⟨g, i, none⟩ := by rw [Addr.add_lit]; simp [KI]
      rw [ha]
      simp only [fzc, this]
      simpa using h9
    · simp only [relT]
      exact ⟨trivial, hx _ (by rw [List.getD_eq_getElem?_getD, List.getElem?_eq_getElem hi]; exact List.getElem_mem hi)⟩
def ordI (o : List Nat) : List Int := o.map fun (i : Nat) => (i : Int)
theorem ints_eq (o : List Nat) : ints o = (ordI o).map encI := by simp [ints, ordI, encI]
/-- what trace.Order hands back -/
def ordV (r : Option (List Nat)) : SV := .tuple [intsV (ordI (r.getD [])), .bool (.sym r.isSome)]
noncomputable def R9 : RSumm := fun vs => match vs with
  | [.tsl ks n f] => if CK.beqL ks KA then some (true, ordV (orderL (acts n f))) else none
  | _ => none
theorem R9_ok : RSummFn Go.Proofs.Try.prog 9 R9 := by
  refine rsumm_of fun vs c r h hc => ?_
  unfold R9 at h
  split at h <;> (try simp only [reduceCtorEq] at h)
  rename_i ks n f
  split at h <;> simp only [Option.some.injEq, Prod.mk.injEq, reduceCtorEq] at h
  rename_i hk; obtain ⟨_, rfl⟩ := h
  have hk := CK.beqL_eq _ _ hk
  subst hk
  refine ⟨by simp [deepL, SV.deep], fun β0 w0 vals h0 hr0 hv => ?_⟩
  rw [relL_cons] at hv; obtain ⟨v1, l1, q1, hv, rfl⟩ := hv
  rw [relL_nil] at hv; subst hv
  simp only [SV.rel] at q1
  refine (order_calls _ v1 w0 (lst_of hr0 q1)).mono ?_
  rintro e w' ⟨hB, h⟩
  refine ⟨?_, hB⟩
  cases ho : orderL (acts n f) with
  | none =>
    rw [ho] at h
    refine ⟨_, h, ?_⟩
    simp only [ordV, Option.getD_none, Option.isSome_none, SV.rel]
    refine ⟨_, ?_, rfl⟩
    rw [relL_cons]; refine ⟨_, _, ?_, ?_, rfl⟩
    · simp only [intsV, SV.rel]; exact tsl_nil _ _ _
    · rw [relL_cons]; exact ⟨_, _, rfl, by rw [relL_nil], rfl⟩
  | some o =>
    rw [ho] at h
    obtain ⟨lv, base, rfl, hb, hrow⟩ := h
    obtain ⟨h1, h2, h3, _, _⟩ := orderL_props ho
    have h7 := sane_len h1
    refine ⟨_, rfl, ?_⟩
    simp only [ordV, Option.getD_some, Option.isSome_some, SV.rel]
    refine ⟨_, ?_, rfl⟩
    rw [relL_cons]; refine ⟨_, _, ?_, ?_, rfl⟩
    · refine own_tsl (base := base) (by rw [← ints_eq]; simpa [ordI] using hrow) hb ?_ (by simp [ordI, maxLen]; omega)
      intro x hx
      simp only [ordI, List.mem_map] at hx
      obtain ⟨i, hi, rfl⟩ := hx
      have := h3 i hi
      exact (rg_iff (k := .i64)).2 ⟨by simp only [loK]; omega, by simp only [hiK]; omega⟩
    · rw [relL_cons]; exact ⟨_, _, rfl, by rw [relL_nil], rfl⟩
noncomputable def R11 : RSumm := fun vs => match vs with
  | [.tsl ks n f] => if CK.beqL ks KA then some (true, .bool (.sym (saneB (acts n f)))) else none
  | _ => none
theorem R11_ok : RSummFn Go.Proofs.Try.prog 11 R11 := by
  refine rsumm_of fun vs c r h hc => ?_
  unfold R11 at h
  split at h <;> (try simp only [reduceCtorEq] at h)
  rename_i ks n f
  split at h <;> simp only [Option.some.injEq, Prod.mk.injEq, reduceCtorEq] at h
  rename_i hk; obtain ⟨_, rfl⟩ := h
  have hk := CK.beqL_eq _ _ hk
  subst hk
  refine ⟨by simp [deepL, SV.deep], fun β0 w0 vals h0 hr0 hv => ?_⟩
  rw [relL_cons] at hv; obtain ⟨v1, l1, q1, hv, rfl⟩ := hv
  rw [relL_nil] at hv; subst hv
  simp only [SV.rel] at q1
  refine (sane_calls v1 _ w0 (lst_of hr0 q1)).mono ?_
  rintro e w' ⟨rfl, hB⟩
  exact ⟨⟨_, rfl, by simp [SV.rel, SB.val]⟩, hB⟩
/-! # an order of places, told without sorting -/
theorem perm_of_sub {α : Type} [BEq α] [LawfulBEq α] : ∀ (l xs : List α), l.Nodup → (∀ a ∈ l, a ∈ xs) → ∃ rest, xs.Perm (l ++ rest)
  | [], xs, _, _ => ⟨xs, .refl _⟩
  | a :: l, xs, hn, hs => by
    have hn' := List.nodup_cons.1 hn
    obtain ⟨rest, hr⟩ := perm_of_sub l (xs.erase a) hn'.2 (fun b hb => (List.mem_erase_of_ne (fun (e : b = a) => hn'.1 (by rw [← e]; exact hb))).2 (hs b (List.mem_cons_of_mem _ hb)))
    exact ⟨rest, (List.perm_cons_erase (hs a (List.mem_cons_self ..))).trans (hr.cons a)⟩
def places (n : Nat) : List Int := (List.range n).map fun (i : Nat) => (i : Int)
theorem places_length (n : Nat) : (places n).length = n := by simp [places]
theorem places_nodup (n : Nat) : (places n).Nodup := by
  unfold places
  rw [List.nodup_iff_pairwise_ne, List.pairwise_map]
  exact (List.nodup_range (n := n)).imp fun h e => h (by omega)
theorem places_sorted (n : Nat) : (places n).Pairwise fun a b => decide (a ≤ b) = true := by
  unfold places
  rw [List.pairwise_map]
  exact (List.pairwise_lt_range (n := n)).imp fun h => by simp; omega
def permB (xs : List Int) : Bool := (List.range xs.length).all fun (i : Nat) => xs.contains (i : Int)
theorem perm_places {xs : List Int} : permB xs = true ↔ xs.Perm (places xs.length) := by
  constructor
  · intro h
    obtain ⟨rest, hr⟩ := perm_of_sub (places xs.length) xs (places_nodup _) (fun a ha => by
      simp only [places, List.mem_map, List.mem_range] at ha
      obtain ⟨i, hi, rfl⟩ := ha
      have := List.all_eq_true.1 h i (by simpa using hi)
      simpa using this)
    have hl := hr.length_eq
    rw [List.length_append, places_length] at hl
    have : rest = [] := List.eq_nil_of_length_eq_zero (by omega)
    subst this
    simpa using hr
  · intro h
    refine List.all_eq_true.2 fun i hi => ?_
    have hi' : i < xs.length := by simpa using hi
    simp only [List.contains_iff_mem]
    exact h.mem_iff.2 (by simp only [places, List.mem_map, List.mem_range]; exact ⟨i, hi', rfl⟩)
theorem id_perm (xs : List Int) : idB (sortL xs) = permB xs := by
  have hl := sortL_length xs
  have hp : (sortL xs).Perm xs := List.mergeSort_perm xs _
  rw [Bool.eq_iff_iff, perm_places]
  constructor
  · intro h
    have he : sortL xs = places xs.length := by
      apply List.ext_getElem?
      intro i
      by_cases hi : i < xs.length
      · have hi' : i < (sortL xs).length := by omega
        have := List.all_eq_true.1 h i (by simpa using hi')
        rw [getElem!_pos _ i hi'] at this
        rw [List.getElem?_eq_getElem hi']
        simp only [beq_iff_eq] at this
        rw [this]; simp [places, hi]
      · rw [List.getElem?_eq_none (by omega), List.getElem?_eq_none (by rw [places_length]; omega)]
    rw [← he]; exact hp.symm
  · intro h
    have he : sortL xs = places xs.length := List.Perm.eq_of_pairwise (le := fun a b => decide (a ≤ b) = true) (fun a b _ _ h1 h2 => by simp at h1 h2; omega)
      (List.pairwise_mergeSort (fun a b c h1 h2 => by simp at h1 h2 ⊢; omega) (fun a b => by simp; omega) xs) (places_sorted _) (hp.trans h)
    exact id_yes hl fun j hj => by rw [he]; simp [places, hj]
def fitsP (zs : List A) (xs : List Int) : Bool := permB xs && (saneB zs && decide (xs.length = zs.length)) && fitRun zs xs 0 0
theorem fits_eq (zs : List A) (xs : List Int) : fitsL zs xs = fitsP zs xs := by unfold fitsL fitsP; rw [id_perm]
noncomputable def R13 : RSumm := fun vs => match vs with
  | [.tsl ks n f, .tsl ks' m g] => if CK.beqL ks KA && CK.beqL ks' KI then some (Nat.ble m 1000000000000, .bool (.sym (fitsP (acts n f) (nums m g)))) else none
  | _ => none
theorem R13_ok : RSummFn Go.Proofs.Try.prog 13 R13 := by
  refine rsumm_of fun vs c r h hc => ?_
  unfold R13 at h
  split at h <;> (try simp only [reduceCtorEq] at h)
  rename_i ks n f ks' m g
  split at h <;> simp only [Option.some.injEq, Prod.mk.injEq, reduceCtorEq] at h
  rename_i hk; obtain ⟨hm, rfl⟩ := h
  simp only [Bool.and_eq_true] at hk
  have hk1 := CK.beqL_eq _ _ hk.1
  have hk2 := CK.beqL_eq _ _ hk.2
  subst hk1 hk2
  refine ⟨by simp [deepL, SV.deep], fun β0 w0 vals h0 hr0 hv => ?_⟩
  rw [relL_cons] at hv; obtain ⟨v1, l1, q1, hv, rfl⟩ := hv
  rw [relL_cons] at hv; obtain ⟨v2, l2, q2, hv, rfl⟩ := hv
  rw [relL_nil] at hv; subst hv
  simp only [SV.rel] at q1 q2
  have hm' : m ≤ 1000000000000 := by rw [← hm] at hc; exact Nat.le_of_ble_eq_true hc
  refine (fits_calls _ _ v1 v2 w0 (lst_of hr0 q1) (lstI_of hr0 q2 hm')).mono ?_
  rintro e w' ⟨rfl, hB⟩
  exact ⟨⟨_, rfl, by simp [SV.rel, SB.val, fits_eq]⟩, hB⟩
end Go.Proofs.Ytidnooaccbahpaa
