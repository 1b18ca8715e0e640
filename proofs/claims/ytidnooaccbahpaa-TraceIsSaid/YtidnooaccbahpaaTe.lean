/- trace.Order's search as a call: what it hands back is what the search as plain data gives. -/
import Derived.Test.YtidnooaccbahpaaTd2
set_option linter.unusedVariables false
set_option linter.unusedSimpArgs false
namespace Go.Proofs.Ytidnooaccbahpaa
open Go.RowKit Go.Proofs Go.Sx
theorem info3 : (Try.prog.info? 3).map (fun i => (i.zero, i.size, i.bytes)) = some (some (.int .i64 0), 1, 8) := by kernel_rfl
/-- how a search ends -/
def SeekEnd (t bh b off c n : Nat) (zs : List A) (o : List Nat) (w : World) (r : Option (List Nat)) (e : Ending) (w' : World) : Prop :=
  Below t w w' ∧ match r with
    | some o' => e = .returned (.bool true) ∧ ∃ v, w'.heap[t]? = some (.cells #[v] 23 (0, 0)) ∧ w'.ownsRow (t + 4) 3 1 v o'.length (ints o')
    | none => e = .returned (.bool false) ∧ St t bh b off c n zs o w'
theorem seek_done {t bh b off c n : Nat} {zs : List A} (hn : n = zs.length) {o : List Nat} {now : Int} {w : World} (h : St t bh b off c n zs o w) (ho : o.length = n) :
    Calls Try.prog 16 #[.int .i64 now, .pointer (some ⟨t, 0, none⟩), .pointer (some ⟨bh, 0, none⟩), .pointer (some ⟨t + 2, 0, none⟩), .pointer (some ⟨t + 3, 0, none⟩)] w (SeekEnd t bh b off c n zs o w (some o)) := by
  obtain ⟨v, hv1, hv2⟩ := h.ord
  have hv2' := hv2
  have c0 := cell_of_one hv1
  have c1 := cell_of_one h.hbox
  have hvs : ∃ p cp, v = .slice p o.length cp := by
    rcases hv2.2 with ⟨rfl, h0⟩ | ⟨g, cap, cur, rfl, _⟩
    · exact ⟨none, 0, by rw [h0]⟩
    · exact ⟨_, _, rfl⟩
  obtain ⟨p, cp, rfl⟩ := hvs
  have hkeep : Hid (SeekEnd t bh b off c n zs o w (some o) (.returned (.bool true)) w) := ⟨Below.refl _ _, rfl, _, hv1, hv2⟩
  clear hv1 hv2 hv2' h
  rw [ho] at c0
  go_enter Try.func16, Try.ntmps16
  go_wp2
  all_goals go_ret
  all_goals exact hkeep
/-- one step -/
theorem findSome_hit {β : Type} {f : Nat → Option β} {n k : Nat} {r : β} (hk : k < n) (h0 : ∀ j, j < k → f j = none) (h : f k = some r) : (List.range n).findSome? f = some r := by
  have hsp : List.range n = List.range k ++ List.range' k (n - k) := by
    obtain ⟨d, rfl⟩ : ∃ d, n = k + d := ⟨n - k, by omega⟩
    rw [List.range_eq_range', List.range_eq_range', ← List.range'_append (s := 0) (m := k) (n := d) (step := 1)]
    simp
  rw [hsp, List.findSome?_append, List.findSome?_eq_none_iff.2 (fun j hj => h0 j (by simpa using hj))]
  obtain ⟨d, hd⟩ : ∃ d, n - k = d + 1 := ⟨n - k - 1, by omega⟩
  rw [hd, List.range'_succ]
  simp [h]
theorem findSome_miss {β : Type} {f : Nat → Option β} {n : Nat} (h0 : ∀ j, j < n → f j = none) : (List.range n).findSome? f = none :=
  List.findSome?_eq_none_iff.2 fun j hj => h0 j (by simpa using hj)
def stepF (zs : List A) (m : Nat) (o : List Nat) (now : Int) (i : Nat) : Option (List Nat) := if skipB zs o now i then none else dfs zs m (o ++ [i]) (thenV zs now i)
theorem skip_done {zs : List A} {o : List Nat} {now : Int} {k m : Nat} (h : dn o k = true) : stepF zs m o now k = none := by simp [stepF, skipB, h]
theorem skip_read {zs : List A} {o : List Nat} {now : Int} {k m : Nat} {v f u : Int} (h : zs[k]! = ⟨false, v, f, u⟩) (hv : v ≠ now) : stepF zs m o now k = none := by simp only [stepF, skipB, h]; simp [hv]
theorem step_go {zs : List A} {o : List Nat} {now nv : Int} {k m n : Nat} {x : A} (h : zs[k]! = x) (hn : zs.length = n) (hq : dn o k = false) (hrd : (!x.w && decide (x.v ≠ now)) = false) (hr : ((leftL zs (dn o) n).any fun y => decide (y.to < x.fr)) = false)
    (hv : (if x.w then x.v else now) = nv) : stepF zs m o now k = dfs zs m (o ++ [k]) nv := by
  subst hn h hv
  simp only [stepF, skipB, hr, hrd, hq, thenV, Bool.or_false]; rfl
theorem skip_wait {zs : List A} {o : List Nat} {now : Int} {k m n : Nat} {x : A} (h : zs[k]! = x) (hn : zs.length = n) (hr : ((leftL zs (dn o) n).any fun y => decide (y.to < x.fr)) = true) : stepF zs m o now k = none := by
  subst hn h
  simp only [stepF, skipB, hr, Bool.or_true, if_true]
theorem cell_new (W : World) (cs : Array Value) (t : TypeId) (i : Nat) (v : Value) (h : cs[i]? = some v) : (W.alloc (.cells cs t)).cell? ⟨W.heap.size, i, none⟩ = some v := by
  have := heap_alloc_new W (.cells cs t)
  unfold World.cell?; rw [this]; exact h
theorem own_c1 (W : World) (x : Value) (ty : TypeId) (s : Nat) (hs : W.heap.size = s) : ∀ (j : Nat) (u : Value), [x][j]? = some u → (W.alloc (.cells #[x] ty)).cell? ((⟨s, 0, none⟩ : Addr).add j) = some u := by
  subst hs
  intro j u hj
  match j, hj with
  | 0, hj => simp at hj; subst hj; exact cell_new _ _ _ _ _ rfl
theorem own_c2 (k : Int) : ∀ u ∈ [Value.int .i64 k], u.oneCell' = true := by intro u hu; simp at hu; subst hu; rfl
theorem own_shape {w : World} {base e sz m : Nat} {v : Value} {xs : List Value} (h : w.ownsRow base e sz v (m + 1) xs) : ∃ g cap, v = .slice (some ⟨g, 0, none⟩) (m + 1) cap ∧ m + 1 ≤ cap := by
  rcases h.2 with ⟨_, h0⟩ | ⟨g, cap, cur, rfl, h3, h4, h5, _⟩
  · simp at h0
  · exact ⟨g, cap, rfl, h5⟩
set_option maxHeartbeats 2000000 in
theorem seek_step {t bh b off c n : Nat} {zs : List A} (hn : n = zs.length) (hn7 : n ≤ 7) {o : List Nat} {now : Int} {m : Nat} {w : World} (h : St t bh b off c n zs o w) (ho : o.length < n)
    (IH : ∀ k now', k < n → dn o k = false → ∀ W, St t bh b off c n zs (o ++ [k]) W →
      Calls Try.prog 16 #[.int .i64 now', .pointer (some ⟨t, 0, none⟩), .pointer (some ⟨bh, 0, none⟩), .pointer (some ⟨t + 2, 0, none⟩), .pointer (some ⟨t + 3, 0, none⟩)] W (SeekEnd t bh b off c n zs (o ++ [k]) W (dfs zs m (o ++ [k]) now'))) :
    Calls Try.prog 16 #[.int .i64 now, .pointer (some ⟨t, 0, none⟩), .pointer (some ⟨bh, 0, none⟩), .pointer (some ⟨t + 2, 0, none⟩), .pointer (some ⟨t + 3, 0, none⟩)] w (SeekEnd t bh b off c n zs o w (dfs zs (m + 1) o now)) := by
  have hdfs : dfs zs (m + 1) o now = (List.range n).findSome? (stepF zs m o now) := by rw [hn]; rfl
  rw [hdfs]
  have HI : Hid (∀ k now', k < n → dn o k = false → ∀ W, St t bh b off c n zs (o ++ [k]) W →
      Calls Try.prog 16 #[.int .i64 now', .pointer (some ⟨t, 0, none⟩), .pointer (some ⟨bh, 0, none⟩), .pointer (some ⟨t + 2, 0, none⟩), .pointer (some ⟨t + 3, 0, none⟩)] W (SeekEnd t bh b off c n zs (o ++ [k]) W (dfs zs m (o ++ [k]) now'))) := IH
  have HN : Hid (n = zs.length) := hn
  have HS : Hid (St t bh b off c n zs o w) := h
  obtain ⟨v, hv1, hv2⟩ := h.ord
  have c0 := cell_of_one hv1
  have c1 := cell_of_one h.hbox
  have hvs : ∃ p cp, v = .slice p o.length cp := by
    rcases hv2.2 with ⟨rfl, h0⟩ | ⟨g, cap, cur, rfl, _⟩
    · exact ⟨none, 0, by rw [h0]⟩
    · exact ⟨_, _, rfl⟩
  obtain ⟨p, cp, rfl⟩ := hvs
  have hne : ((o.length : Int) == (n : Int)) = false := by simp; omega
  clear hv1 hv2 h IH hn hdfs
  go_enter Try.func16, Try.ntmps16
  go_wp2
  go_loopw [18] (fun i wr => ∃ k : Nat, k ≤ n ∧ i = .int .i64 k ∧ Hid (St t bh b off c n zs o wr) ∧ Hid (Below t w wr) ∧ Hid (∀ j, j < k → stepF zs m o now j = none)) (fun i _ => n - (intOf i).toNat)
  case atStart => exact ⟨0, Nat.zero_le _, rfl, HS.out, Below.refl _ w, fun j hj => absurd hj (Nat.not_lt_zero _)⟩
  case round =>
    clear c0 c1
    rename_i i wr
    obtain ⟨k, hk, rfl, HW, BW, NB⟩ := hrel
    by_cases hlt : k < n
    · have hsz := HW.out.sz
      have hbht := HW.out.bht
      have hbt := HW.out.bt
      obtain ⟨y, hy⟩ : ∃ y, zs[k]! = y := ⟨_, rfl⟩
      obtain ⟨l0, l1, l2, l3⟩ := HW.out.hat.four (by rw [← HN.out]; exact hlt) hy
      have YY : Hid (zs[k]! = y) := hy
      have c1 := cell_of_one HW.out.hbox
      have c2 := cell_of_one HW.out.dbox
      have c3 := cell_of_one HW.out.sbox
      have c4 := HW.out.flag hlt
      have e1 : bh < wr.heap.size := by omega
      have e2 : t + 2 < wr.heap.size := by omega
      have e3 : t + 3 < wr.heap.size := by omega
      have e4 : t + 1 < wr.heap.size := by omega
      have e5 : t < wr.heap.size := by omega
      have e6 : b < wr.heap.size := by omega
      clear hy hsz hbht hbt
      obtain ⟨yw, yv, yf, yt⟩ := y
      simp only at l0 l1 l2 l3
      cases hq : dn o k with
      | true =>
        rw [hq] at c4
        go_wp2
        go_roundw
        case rel => exact ⟨k + 1, by omega, by go_num, HW.out.below ((Below.refl _ _).alloc (Nat.le_refl _) _), BW.out.alloc (by omega) _, fun j hj => by
          by_cases e : j = k
          · subst e; exact skip_done hq
          · exact NB.out j (by omega)⟩
        case measure => simp [intOf]; omega
      | false =>
        rw [hq] at c4
        cases yw with
        | false =>
          by_cases hv : yv = now
          · have hv' := hv.symm
            subst hv'
            have hlen : zs.length = n := HN.out.symm
            have hb1 : Below wr.heap.size wr (wr.alloc (.cells #[.bool false, .int .i64 now, .int .i64 yf, .int .i64 yt] 32)) := (Below.refl _ _).alloc (Nat.le_refl _) _
            have S1 := HW.out.below hb1
            have hleft := left_calls zs (t + 1) n (dn o) b off c _ (by omega) S1.hat (by have := S1.sz; omega) (fun i hi => S1.flag (by omega))
            rw [hlen] at hleft
            have HC : Hid (∀ lv w2, Lst w2 lv (leftL zs (dn o) n) → Below (wr.alloc (.cells #[.bool false, .int .i64 now, .int .i64 yf, .int .i64 yt] 32)).heap.size (wr.alloc (.cells #[.bool false, .int .i64 now, .int .i64 yf, .int .i64 yt] 32)) w2 →
                Calls Try.prog 18 #[lv, .func (.func 17) #[] #[.pointer (some ⟨wr.heap.size, 0, none⟩)]] w2 fun e w' => e = .returned (.bool ((leftL zs (dn o) n).any fun y => decide (y.to < yf))) ∧ Below w2.heap.size w2 w') := fun lv w2 h1 h2 =>
              contains_calls (fun y => decide (y.to < yf)) 17 _ (enters_of Try.func17 (by kernel_rfl) rfl) lv _ w2 (fun W x hW => (waits_calls wr.heap.size ⟨false, now, yf, yt⟩ x W (fun j u hj => by
                have hx := h2.trans (hW.mono h2.size)
                rw [hx.cell (p := ⟨wr.heap.size, j, none⟩) (by simp)]
                exact cell_new _ _ _ _ _ (by simpa [enc] using hj))).mono fun e w' ⟨g1, g2⟩ => ⟨g1, hW.trans (g2.mono hW.size)⟩) h1
            clear S1 hb1
            cases hr : (leftL zs (dn o) n).any fun y => decide (y.to < yf) with
            | true =>
              rw [hr] at HC
              go_wp2_with (first
                | (go_at_call 19; refine hleft.mono ?_; rintro e w2 ⟨⟨lv, rfl, hlv⟩, hb2⟩)
                | (go_at_call 18; refine (HC.out _ _ hlv hb2).mono ?_; rintro e w3 ⟨rfl, hb3⟩))
              have hB3 : Below wr.heap.size wr w3 := (((Below.refl wr.heap.size wr).alloc (Nat.le_refl _) _).trans (hb2.mono (by simp))).trans (hb3.mono (by have := hb2.size; simp at this; omega))
              go_roundw
              case rel => exact ⟨k + 1, by omega, by go_num, HW.out.below hB3, BW.out.trans (hB3.mono (by omega)), fun j hj => by
                by_cases e : j = k
                · subst e; exact skip_wait YY.out hlen hr
                · exact NB.out j (by omega)⟩
              case measure => simp [intOf]; omega
            | false =>
              rw [hr] at HC
              have hgo : stepF zs m o now k = dfs zs m (o ++ [k]) now := step_go YY.out hlen hq (by simp) hr (by simp)
              obtain ⟨v, hv1, hv2⟩ := HW.out.ord
              have HF : Hid (∀ w3, Below (wr.alloc (.cells #[.bool false, .int .i64 now, .int .i64 yf, .int .i64 yt] 32)).heap.size (wr.alloc (.cells #[.bool false, .int .i64 now, .int .i64 yf, .int .i64 yt] 32)) w3 →
                  Below wr.heap.size wr w3 ∧ wr.heap.size < w3.heap.size ∧ St t bh b off c n zs o w3 ∧ w3.cell? ⟨wr.heap.size, 0, none⟩ = some (.bool false) ∧ w3.cell? ⟨wr.heap.size, 1, none⟩ = some (.int .i64 now) ∧ w3.heap[t]? = some (.cells #[v] 23 (0, 0)) ∧ w3.ownsRow (t + 4) 3 1 v o.length (ints o)) := fun w3 hw3 => by
                have hB3 : Below wr.heap.size wr w3 := ((Below.refl wr.heap.size wr).alloc (Nat.le_refl _) _).trans (hw3.mono (by simp))
                refine ⟨hB3, by have := hw3.size; simp at this; omega, HW.out.below hB3, ?_, ?_, (hB3.block _ e5).trans hv1, ownsRow_below hv2 hB3⟩
                · rw [hw3.cell (p := ⟨wr.heap.size, 0, none⟩) (by simp)]; exact cell_new _ _ _ _ _ rfl
                · rw [hw3.cell (p := ⟨wr.heap.size, 1, none⟩) (by simp)]; exact cell_new _ _ _ _ _ rfl
              clear hv1 hv2
              obtain ⟨i0, hi, hz0, hz1, hz2⟩ := info_parts info3
              cases hd : dfs zs m (o ++ [k]) now with
              | some o' =>
                have HI7 : Hid (∀ W, St t bh b off c n zs (o ++ [k]) W → Calls Try.prog 16 #[.int .i64 now, .pointer (some ⟨t, 0, none⟩), .pointer (some ⟨bh, 0, none⟩), .pointer (some ⟨t + 2, 0, none⟩), .pointer (some ⟨t + 3, 0, none⟩)] W (SeekEnd t bh b off c n zs (o ++ [k]) W (some o'))) := fun W hW => by rw [← hd]; exact HI.out k now hlt hq W hW
                rw [hd] at hgo
                have HG : Hid (stepF zs m o now k = some o') := hgo
                clear hgo hd
                go_wp2_with (first
                  | (go_at_call 19; refine hleft.mono ?_; rintro e w2 ⟨⟨lv, rfl, hlv⟩, hb2⟩)
                  | (go_at_call 18; refine (HC.out _ _ hlv hb2).mono ?_; rintro e w3 ⟨rfl, hb3⟩; obtain ⟨hB3, hs3, S3, x0, x1, hv3, ho3⟩ := HF.out w3 (hb2.trans (hb3.mono hb2.size)); have g0 := cell_of_one hv3; have g2 := cell_of_one S3.dbox; have g3 := cell_of_one S3.sbox; have g4 := S3.flag hlt; have f4 := S3.flagF k; have hsz3 := S3.sz)
                  | (at_builtin; refine wpList_append_own _ rfl _ _ 23 rfl (t + 4) 3 i0 (.int .i64 0) 1 8 Try.underlying23 hi hz0 hz1 hz2 rfl (by decide) _ _ _ rfl ((ownsRow_setCell_below ho3 (by simp) _).alloc _) ⟨w3.heap.size, 0, none⟩ 1 1 [.int .i64 (k : Int)] rfl rfl (own_c1 _ _ _ _ (by simp)) (own_c2 _) (by unfold maxLen; omega) (by omega) (by simp; omega) ?_; intro v' w6 ho6 hg6 _; obtain ⟨g6, cap6, rfl, hcap6⟩ := own_shape ho6; obtain ⟨S7, hB7, hv6, hs6⟩ := push_St S3 hv3 ho3 ho6 hg6; have k0 := cell_of_one hv6; have k1 := free_of_one hv6; have k3 := cell_of_one hs6; unfold clo at k3)
                  | (go_at_call 16; refine (HI7.out _ S7).mono ?_; rintro e w8 ⟨hb8, rfl, v8, hv8, ho8⟩))
                go_ret
                rw [findSome_hit hlt NB.out HG.out]
                exact ⟨(BW.out.trans (hB3.mono (by omega))).trans (hB7.trans hb8), rfl, v8, hv8, ho8⟩
              | none =>
                have HI7 : Hid (∀ W, St t bh b off c n zs (o ++ [k]) W → Calls Try.prog 16 #[.int .i64 now, .pointer (some ⟨t, 0, none⟩), .pointer (some ⟨bh, 0, none⟩), .pointer (some ⟨t + 2, 0, none⟩), .pointer (some ⟨t + 3, 0, none⟩)] W (SeekEnd t bh b off c n zs (o ++ [k]) W none)) := fun W hW => by rw [← hd]; exact HI.out k now hlt hq W hW
                rw [hd] at hgo
                have HG : Hid (stepF zs m o now k = none) := hgo
                have hko : k ∉ o := by simpa [dn] using hq
                have HK : Hid (k ∉ o) := hko
                clear hgo hd hko
                go_wp2_with (first
                  | (go_at_call 19; refine hleft.mono ?_; rintro e w2 ⟨⟨lv, rfl, hlv⟩, hb2⟩)
                  | (go_at_call 18; refine (HC.out _ _ hlv hb2).mono ?_; rintro e w3 ⟨rfl, hb3⟩; obtain ⟨hB3, hs3, S3, x0, x1, hv3, ho3⟩ := HF.out w3 (hb2.trans (hb3.mono hb2.size)); have g0 := cell_of_one hv3; have g2 := cell_of_one S3.dbox; have g3 := cell_of_one S3.sbox; have g4 := S3.flag hlt; have f4 := S3.flagF k; have hsz3 := S3.sz)
                  | (at_builtin; refine wpList_append_own _ rfl _ _ 23 rfl (t + 4) 3 i0 (.int .i64 0) 1 8 Try.underlying23 hi hz0 hz1 hz2 rfl (by decide) _ _ _ rfl ((ownsRow_setCell_below ho3 (by simp) _).alloc _) ⟨w3.heap.size, 0, none⟩ 1 1 [.int .i64 (k : Int)] rfl rfl (own_c1 _ _ _ _ (by simp)) (own_c2 _) (by unfold maxLen; omega) (by omega) (by simp; omega) ?_; intro v' w6 ho6 hg6 _; obtain ⟨g6, cap6, rfl, hcap6⟩ := own_shape ho6; obtain ⟨S7, hB7, hv6, hs6⟩ := push_St S3 hv3 ho3 ho6 hg6; have k0 := cell_of_one hv6; have k1 := free_of_one hv6; have k3 := cell_of_one hs6; unfold clo at k3)
                  | (go_at_call 16; refine (HI7.out _ S7).mono ?_; rintro e w8 ⟨hb8, rfl, S8⟩; obtain ⟨g8, cap8, hcap8, hv8, ho8⟩ := ord_shape S8; have p0 := cell_of_one hv8; have p0f := free_of_one hv8; have p2 := cell_of_one S8.dbox; have p4 := S8.flag hlt; have p4f := S8.flagF k; have hsz8 := S8.sz; have S10 := pop_St S8 HK.out hv8 ho8))
                go_roundw
                case rel => exact ⟨k + 1, by omega, by go_num, S10.1, (BW.out.trans (hB3.mono (by omega))).trans ((hB7.trans hb8).trans S10.2), fun j hj => by
                  by_cases e : j = k
                  · subst e; exact HG.out
                  · exact NB.out j (by omega)⟩
                case measure => simp [intOf]; omega
          · go_wp2
            go_roundw
            case rel => exact ⟨k + 1, by omega, by go_num, HW.out.below ((Below.refl _ _).alloc (Nat.le_refl _) _), BW.out.alloc (by omega) _, fun j hj => by
              by_cases e : j = k
              · subst e; exact skip_read YY.out hv
              · exact NB.out j (by omega)⟩
            case measure => simp [intOf]; omega
        | true =>
          have hlen : zs.length = n := HN.out.symm
          have hb1 : Below wr.heap.size wr (wr.alloc (.cells #[.bool true, .int .i64 yv, .int .i64 yf, .int .i64 yt] 32)) := (Below.refl _ _).alloc (Nat.le_refl _) _
          have S1 := HW.out.below hb1
          have hleft := left_calls zs (t + 1) n (dn o) b off c _ (by omega) S1.hat (by have := S1.sz; omega) (fun i hi => S1.flag (by omega))
          rw [hlen] at hleft
          have HC : Hid (∀ lv w2, Lst w2 lv (leftL zs (dn o) n) → Below (wr.alloc (.cells #[.bool true, .int .i64 yv, .int .i64 yf, .int .i64 yt] 32)).heap.size (wr.alloc (.cells #[.bool true, .int .i64 yv, .int .i64 yf, .int .i64 yt] 32)) w2 →
              Calls Try.prog 18 #[lv, .func (.func 17) #[] #[.pointer (some ⟨wr.heap.size, 0, none⟩)]] w2 fun e w' => e = .returned (.bool ((leftL zs (dn o) n).any fun y => decide (y.to < yf))) ∧ Below w2.heap.size w2 w') := fun lv w2 h1 h2 =>
            contains_calls (fun y => decide (y.to < yf)) 17 _ (enters_of Try.func17 (by kernel_rfl) rfl) lv _ w2 (fun W x hW => (waits_calls wr.heap.size ⟨true, yv, yf, yt⟩ x W (fun j u hj => by
              have hx := h2.trans (hW.mono h2.size)
              rw [hx.cell (p := ⟨wr.heap.size, j, none⟩) (by simp)]
              exact cell_new _ _ _ _ _ (by simpa [enc] using hj))).mono fun e w' ⟨g1, g2⟩ => ⟨g1, hW.trans (g2.mono hW.size)⟩) h1
          clear S1 hb1
          cases hr : (leftL zs (dn o) n).any fun y => decide (y.to < yf) with
          | true =>
            rw [hr] at HC
            go_wp2_with (first
              | (go_at_call 19; refine hleft.mono ?_; rintro e w2 ⟨⟨lv, rfl, hlv⟩, hb2⟩)
              | (go_at_call 18; refine (HC.out _ _ hlv hb2).mono ?_; rintro e w3 ⟨rfl, hb3⟩))
            have hB3 : Below wr.heap.size wr w3 := (((Below.refl wr.heap.size wr).alloc (Nat.le_refl _) _).trans (hb2.mono (by simp))).trans (hb3.mono (by have := hb2.size; simp at this; omega))
            go_roundw
            case rel => exact ⟨k + 1, by omega, by go_num, HW.out.below hB3, BW.out.trans (hB3.mono (by omega)), fun j hj => by
              by_cases e : j = k
              · subst e; exact skip_wait YY.out hlen hr
              · exact NB.out j (by omega)⟩
            case measure => simp [intOf]; omega
          | false =>
            rw [hr] at HC
            have hgo : stepF zs m o now k = dfs zs m (o ++ [k]) yv := step_go YY.out hlen hq (by simp) hr (by simp)
            obtain ⟨v, hv1, hv2⟩ := HW.out.ord
            have HF : Hid (∀ w3, Below (wr.alloc (.cells #[.bool true, .int .i64 yv, .int .i64 yf, .int .i64 yt] 32)).heap.size (wr.alloc (.cells #[.bool true, .int .i64 yv, .int .i64 yf, .int .i64 yt] 32)) w3 →
                Below wr.heap.size wr w3 ∧ wr.heap.size < w3.heap.size ∧ St t bh b off c n zs o w3 ∧ w3.cell? ⟨wr.heap.size, 0, none⟩ = some (.bool true) ∧ w3.cell? ⟨wr.heap.size, 1, none⟩ = some (.int .i64 yv) ∧ w3.heap[t]? = some (.cells #[v] 23 (0, 0)) ∧ w3.ownsRow (t + 4) 3 1 v o.length (ints o)) := fun w3 hw3 => by
              have hB3 : Below wr.heap.size wr w3 := ((Below.refl wr.heap.size wr).alloc (Nat.le_refl _) _).trans (hw3.mono (by simp))
              refine ⟨hB3, by have := hw3.size; simp at this; omega, HW.out.below hB3, ?_, ?_, (hB3.block _ e5).trans hv1, ownsRow_below hv2 hB3⟩
              · rw [hw3.cell (p := ⟨wr.heap.size, 0, none⟩) (by simp)]; exact cell_new _ _ _ _ _ rfl
              · rw [hw3.cell (p := ⟨wr.heap.size, 1, none⟩) (by simp)]; exact cell_new _ _ _ _ _ rfl
            clear hv1 hv2
            obtain ⟨i0, hi, hz0, hz1, hz2⟩ := info_parts info3
            cases hd : dfs zs m (o ++ [k]) yv with
            | some o' =>
              have HI7 : Hid (∀ W, St t bh b off c n zs (o ++ [k]) W → Calls Try.prog 16 #[.int .i64 yv, .pointer (some ⟨t, 0, none⟩), .pointer (some ⟨bh, 0, none⟩), .pointer (some ⟨t + 2, 0, none⟩), .pointer (some ⟨t + 3, 0, none⟩)] W (SeekEnd t bh b off c n zs (o ++ [k]) W (some o'))) := fun W hW => by rw [← hd]; exact HI.out k yv hlt hq W hW
              rw [hd] at hgo
              have HG : Hid (stepF zs m o now k = some o') := hgo
              clear hgo hd
              go_wp2_with (first
                | (go_at_call 19; refine hleft.mono ?_; rintro e w2 ⟨⟨lv, rfl, hlv⟩, hb2⟩)
                | (go_at_call 18; refine (HC.out _ _ hlv hb2).mono ?_; rintro e w3 ⟨rfl, hb3⟩; obtain ⟨hB3, hs3, S3, x0, x1, hv3, ho3⟩ := HF.out w3 (hb2.trans (hb3.mono hb2.size)); have g0 := cell_of_one hv3; have g2 := cell_of_one S3.dbox; have g3 := cell_of_one S3.sbox; have g4 := S3.flag hlt; have f4 := S3.flagF k; have hsz3 := S3.sz)
                | (at_builtin; refine wpList_append_own _ rfl _ _ 23 rfl (t + 4) 3 i0 (.int .i64 0) 1 8 Try.underlying23 hi hz0 hz1 hz2 rfl (by decide) _ _ _ rfl ((ownsRow_setCell_below ho3 (by simp) _).alloc _) ⟨w3.heap.size, 0, none⟩ 1 1 [.int .i64 (k : Int)] rfl rfl (own_c1 _ _ _ _ (by simp)) (own_c2 _) (by unfold maxLen; omega) (by omega) (by simp; omega) ?_; intro v' w6 ho6 hg6 _; obtain ⟨g6, cap6, rfl, hcap6⟩ := own_shape ho6; obtain ⟨S7, hB7, hv6, hs6⟩ := push_St S3 hv3 ho3 ho6 hg6; have k0 := cell_of_one hv6; have k1 := free_of_one hv6; have k3 := cell_of_one hs6; unfold clo at k3)
                | (go_at_call 16; refine (HI7.out _ S7).mono ?_; rintro e w8 ⟨hb8, rfl, v8, hv8, ho8⟩))
              go_ret
              rw [findSome_hit hlt NB.out HG.out]
              exact ⟨(BW.out.trans (hB3.mono (by omega))).trans (hB7.trans hb8), rfl, v8, hv8, ho8⟩
            | none =>
              have HI7 : Hid (∀ W, St t bh b off c n zs (o ++ [k]) W → Calls Try.prog 16 #[.int .i64 yv, .pointer (some ⟨t, 0, none⟩), .pointer (some ⟨bh, 0, none⟩), .pointer (some ⟨t + 2, 0, none⟩), .pointer (some ⟨t + 3, 0, none⟩)] W (SeekEnd t bh b off c n zs (o ++ [k]) W none)) := fun W hW => by rw [← hd]; exact HI.out k yv hlt hq W hW
              rw [hd] at hgo
              have HG : Hid (stepF zs m o now k = none) := hgo
              have hko : k ∉ o := by simpa [dn] using hq
              have HK : Hid (k ∉ o) := hko
              clear hgo hd hko
              go_wp2_with (first
                | (go_at_call 19; refine hleft.mono ?_; rintro e w2 ⟨⟨lv, rfl, hlv⟩, hb2⟩)
                | (go_at_call 18; refine (HC.out _ _ hlv hb2).mono ?_; rintro e w3 ⟨rfl, hb3⟩; obtain ⟨hB3, hs3, S3, x0, x1, hv3, ho3⟩ := HF.out w3 (hb2.trans (hb3.mono hb2.size)); have g0 := cell_of_one hv3; have g2 := cell_of_one S3.dbox; have g3 := cell_of_one S3.sbox; have g4 := S3.flag hlt; have f4 := S3.flagF k; have hsz3 := S3.sz)
                | (at_builtin; refine wpList_append_own _ rfl _ _ 23 rfl (t + 4) 3 i0 (.int .i64 0) 1 8 Try.underlying23 hi hz0 hz1 hz2 rfl (by decide) _ _ _ rfl ((ownsRow_setCell_below ho3 (by simp) _).alloc _) ⟨w3.heap.size, 0, none⟩ 1 1 [.int .i64 (k : Int)] rfl rfl (own_c1 _ _ _ _ (by simp)) (own_c2 _) (by unfold maxLen; omega) (by omega) (by simp; omega) ?_; intro v' w6 ho6 hg6 _; obtain ⟨g6, cap6, rfl, hcap6⟩ := own_shape ho6; obtain ⟨S7, hB7, hv6, hs6⟩ := push_St S3 hv3 ho3 ho6 hg6; have k0 := cell_of_one hv6; have k1 := free_of_one hv6; have k3 := cell_of_one hs6; unfold clo at k3)
                | (go_at_call 16; refine (HI7.out _ S7).mono ?_; rintro e w8 ⟨hb8, rfl, S8⟩; obtain ⟨g8, cap8, hcap8, hv8, ho8⟩ := ord_shape S8; have p0 := cell_of_one hv8; have p0f := free_of_one hv8; have p2 := cell_of_one S8.dbox; have p4 := S8.flag hlt; have p4f := S8.flagF k; have hsz8 := S8.sz; have S10 := pop_St S8 HK.out hv8 ho8))
              go_roundw
              case rel => exact ⟨k + 1, by omega, by go_num, S10.1, (BW.out.trans (hB3.mono (by omega))).trans ((hB7.trans hb8).trans S10.2), fun j hj => by
                by_cases e : j = k
                · subst e; exact HG.out
                · exact NB.out j (by omega)⟩
              case measure => simp [intOf]; omega
    · have : k = n := by omega
      subst this
      go_wp2
      go_ret
      rw [findSome_miss NB.out]
      exact ⟨BW.out, rfl, HW.out⟩
/-- THE SEARCH AS A CALL -/
theorem seek_calls {t bh b off c n : Nat} {zs : List A} (hn : n = zs.length) (hn7 : n ≤ 7) : ∀ (m : Nat) (o : List Nat) (now : Int) (w : World), o.length + m = n → St t bh b off c n zs o w →
    Calls Try.prog 16 #[.int .i64 now, .pointer (some ⟨t, 0, none⟩), .pointer (some ⟨bh, 0, none⟩), .pointer (some ⟨t + 2, 0, none⟩), .pointer (some ⟨t + 3, 0, none⟩)] w (SeekEnd t bh b off c n zs o w (dfs zs m o now))
  | 0, o, now, w, h, hS => by simpa [dfs] using seek_done (now := now) hn hS (by omega)
  | m + 1, o, now, w, h, hS => seek_step hn hn7 hS (by omega) fun k now' _ _ W hW => seek_calls hn hn7 m (o ++ [k]) now' W (by simp; omega) hW
end Go.Proofs.Ytidnooaccbahpaa
