/- trace.Order as a call: the first order in which the acts can have been done. -/
import Derived.Test.YtidnooaccbahpaaTe
import Derived.Laws.MakeOwn
import Derived.Laws.EntriesVeiled
set_option linter.unusedVariables false
set_option linter.unusedSimpArgs false
namespace Go.Proofs.Ytidnooaccbahpaa
open Go.RowKit Go.Proofs Go.Sx
theorem wpList_make_at {P : Program} (w : World) {ops : Array Oper} {rest : List Oper} {o : Oper} {a : Act} {Q : Exit → Act → World → Prop}
    (hg : o.guard = none) (l c : Operand) (t : TypeId) (hop : o.op = Op.makeSlice t l c)
    (e : TypeId) (i : TypeInfo) (z : Value) (h1 : P.underlying t = some (.slice e)) (h2 : P.info? e = some i) (h3 : i.zero = some z)
    (n : Nat) (hl : a.eval l = .int .i64 n) (hc : a.eval c = .int .i64 n) (b2 : i.bytes * n ≤ 281474976710656) (b3 : n ≤ 9223372036854775807) (cs : Array Value) (hcs : madeCells z.cells (n * i.size) = cs)
    (hK : wpList P ops Q rest (a.put o.dst (.slice (some ⟨w.heap.size, 0, none⟩) n n)) (w.alloc (.cells cs e))) :
    wpList P ops Q (o :: rest) a w := by
  refine wpList_plain hg fun K hK' => ?_
  have hb' : (i.bytes : Int) * (n : Int) ≤ 281474976710656 := by
    have h : ((i.bytes * n : Nat) : Int) ≤ 281474976710656 := by omega
    rwa [Int.natCast_mul] at h
  have hrun := run_make (P := P) w t e i z h1 h2 h3 .i64 .i64 n n (by omega) (Int.le_refl _) hb' (by omega)
  simp only [Int.toNat_natCast, hcs] at hrun
  unfold Oper.wp
  simp [execOp, hop, hl, hc, hrun, Result.andThen]
  exact hK' _ _ hK
theorem info4 : (Try.prog.info? 4).map (fun i => (i.zero, i.size, i.bytes)) = some (some (.bool false), 1, 1) := by kernel_rfl
theorem flags_made (n : Nat) : madeCells #[.bool false] (n * 1) = flags n [] := by
  apply Array.ext'
  rw [Nat.mul_one, toList_madeCells_one]
  simp [flags, dn, List.map_const']
def orderL (zs : List A) : Option (List Nat) := if saneB zs then dfs zs zs.length [] 0 else none
/-- how trace.Order ends -/
def OrderEnd (w : World) (r : Option (List Nat)) (e : Ending) (w' : World) : Prop :=
  Below w.heap.size w w' ∧ match r with
    | some o => ∃ lv base, e = .returned (.tuple #[lv, .bool true]) ∧ w.heap.size ≤ base ∧ w'.ownsRow base 3 1 lv o.length (ints o)
    | none => e = .returned (.tuple #[.slice none 0 0, .bool false])
set_option maxHeartbeats 1000000 in
theorem order_insane (zs : List A) (v : Value) (w : World) (hv : Lst w v zs) (hs : saneB zs = false) : Calls Try.prog 9 #[v] w (OrderEnd w (orderL zs)) := by
  have hB1 : Below w.heap.size w (w.alloc (.cells #[v] 22)) := (Below.refl _ _).alloc (Nat.le_refl _) _
  have hsane := sane_calls v zs _ (hv.below hB1)
  rw [hs] at hsane
  obtain ⟨q, c, rfl, hl, -⟩ := hv
  have ho : orderL zs = none := by simp [orderL, hs]
  rw [ho]
  go_enter Try.func9, Try.ntmps9
  go_wp2_with (go_at_call 11; refine hsane.mono ?_; rintro e w2 ⟨rfl, hb2⟩)
  go_ret2
  exact ⟨hB1.trans (hb2.mono (by simp)), rfl⟩
theorem heap_old (w : World) (o : Obj) {k : Nat} (h : k < w.heap.size) : (w.alloc o).heap[k]? = w.heap[k]? := Below.heap_alloc w o k h
theorem start_St {w w2 : World} {b off c n : Nat} {zs : List A} (hat : At w b off zs) (h2 : Below (w.alloc (.cells #[.slice (some ⟨b, off, none⟩) n c] 22)).heap.size (w.alloc (.cells #[.slice (some ⟨b, off, none⟩) n c] 22)) w2) :
    St w2.heap.size w.heap.size b off c n zs [] ((((w2.alloc (.cells #[.slice none 0 0] 23)).alloc (.cells (flags n []) 4)).alloc (.cells #[.slice (some ⟨w2.heap.size + 1, 0, none⟩) n n] 30)).alloc (.cells #[clo w2.heap.size w.heap.size] 36)) ∧
    Below w.heap.size w ((((w2.alloc (.cells #[.slice none 0 0] 23)).alloc (.cells (flags n []) 4)).alloc (.cells #[.slice (some ⟨w2.heap.size + 1, 0, none⟩) n n] 30)).alloc (.cells #[clo w2.heap.size w.heap.size] 36)) ∧ w.heap.size < w2.heap.size := by
  have hlt : w.heap.size < w2.heap.size := by have := h2.size; simp at this; omega
  have hB : Below w.heap.size w w2 := ((Below.refl w.heap.size w).alloc (Nat.le_refl _) _).trans (h2.mono (by simp))
  have hB5 : Below w.heap.size w ((((w2.alloc (.cells #[.slice none 0 0] 23)).alloc (.cells (flags n []) 4)).alloc (.cells #[.slice (some ⟨w2.heap.size + 1, 0, none⟩) n n] 30)).alloc (.cells #[clo w2.heap.size w.heap.size] 36)) :=
    (((hB.alloc (by omega) _).alloc (by first | (simp; done) | (simp; omega)) _).alloc (by first | (simp; done) | (simp; omega)) _).alloc (by first | (simp; done) | (simp; omega)) _
  refine ⟨⟨by simp, ⟨.slice none 0 0, ?_, World.ownsRow_nil _ _ _ _⟩, ?_, ?_, ?_, ?_, hlt, Nat.lt_trans hat.1 hlt, hat.below hB5⟩, hB5, hlt⟩
  · rw [heap_old _ _ (by first | (simp; done) | (simp; omega)), heap_old _ _ (by first | (simp; done) | (simp; omega)), heap_old _ _ (by simp)]
    exact heap_alloc_new w2 _
  · rw [heap_old _ _ (by first | (simp; done) | (simp; omega)), heap_old _ _ (by simp)]
    have := heap_alloc_new (w2.alloc (.cells #[.slice none 0 0] 23)) (.cells (flags n []) 4)
    simpa using this
  · rw [heap_old _ _ (by simp)]
    have := heap_alloc_new ((w2.alloc (.cells #[.slice none 0 0] 23)).alloc (.cells (flags n []) 4)) (.cells #[.slice (some ⟨w2.heap.size + 1, 0, none⟩) n n] 30)
    simpa using this
  · have := heap_alloc_new (((w2.alloc (.cells #[.slice none 0 0] 23)).alloc (.cells (flags n []) 4)).alloc (.cells #[.slice (some ⟨w2.heap.size + 1, 0, none⟩) n n] 30)) (.cells #[clo w2.heap.size w.heap.size] 36)
    simpa using this
  · rw [heap_old _ _ (by first | (simp; done) | (simp; omega)), heap_old _ _ (by first | (simp; done) | (simp; omega)), heap_old _ _ (by first | (simp; done) | (simp; omega)), heap_old _ _ (by omega), h2.block _ (by simp)]
    exact heap_alloc_new w _
set_option maxHeartbeats 1000000 in
theorem order_sane (zs : List A) (b off c : Nat) (w : World) (hat : At w b off zs) (hs : saneB zs = true) : Calls Try.prog 9 #[.slice (some ⟨b, off, none⟩) zs.length c] w (OrderEnd w (orderL zs)) := by
  have h7 : zs.length ≤ 7 := by simp [saneB] at hs; exact hs.1
  have hB1 : Below w.heap.size w (w.alloc (.cells #[.slice (some ⟨b, off, none⟩) zs.length c] 22)) := (Below.refl _ _).alloc (Nat.le_refl _) _
  have hsane := sane_calls (.slice (some ⟨b, off, none⟩) zs.length c) zs _ (Lst.below ⟨_, _, rfl, by omega, .inr ⟨b, off, rfl, hat⟩⟩ hB1)
  rw [hs] at hsane
  have ho : orderL zs = dfs zs zs.length [] 0 := by simp [orderL, hs]
  rw [ho]
  obtain ⟨i0, hi, hz0, hz1, hz2⟩ := info_parts info4
  have HF : Hid (∀ w2, Below (w.alloc (.cells #[.slice (some ⟨b, off, none⟩) zs.length c] 22)).heap.size (w.alloc (.cells #[.slice (some ⟨b, off, none⟩) zs.length c] 22)) w2 → w2.cell? ⟨w.heap.size, 0, none⟩ = some (.slice (some ⟨b, off, none⟩) zs.length c) ∧ w.heap.size < w2.heap.size) := fun w2 h2 =>
    ⟨by rw [h2.cell (p := ⟨w.heap.size, 0, none⟩) (by simp)]; exact cell_new _ _ _ _ _ rfl, by have := h2.size; simp at this; omega⟩
  have hby : i0.bytes * zs.length ≤ 281474976710656 := by rw [hz2]; omega
  have hmk : madeCells (Value.bool false).cells (zs.length * i0.size) = flags zs.length [] := by rw [hz1]; exact flags_made _
  have HS := fun w2 => start_St (w2 := w2) (n := zs.length) (c := c) hat
  have HS' : Hid (∀ w2, _ → _) := HS
  clear HS hat
  cases hd : dfs zs zs.length [] 0 with
  | some o' =>
    have HC : Hid (∀ t bh W, St t bh b off c zs.length zs [] W → Calls Try.prog 16 #[.int .i64 0, .pointer (some ⟨t, 0, none⟩), .pointer (some ⟨bh, 0, none⟩), .pointer (some ⟨t + 2, 0, none⟩), .pointer (some ⟨t + 3, 0, none⟩)] W (SeekEnd t bh b off c zs.length zs [] W (some o'))) := fun t bh W hW => by
      rw [← hd]; exact seek_calls rfl h7 zs.length [] 0 W (by simp) hW
    clear hd ho
    go_enter Try.func9, Try.ntmps9
    go_wp2_with (first
      | (go_at_call 11; refine hsane.mono ?_; rintro e w2 ⟨rfl, hb2⟩; obtain ⟨g0, g1⟩ := HF.out w2 hb2; obtain ⟨S5, B5, L5⟩ := HS'.out w2 hb2)
      | (at_make; refine wpList_make_at _ rfl _ _ 30 rfl 4 i0 _ Try.underlying30 hi hz0 zs.length rfl rfl hby (by omega) _ hmk ?_)
      | (go_at_call 16; refine (HC.out _ _ _ S5).mono ?_; rintro e w8 ⟨hb8, rfl, lv, hlv, ho8⟩; have p0 := cell_of_one hlv))
    go_ret2
    exact ⟨B5.trans (hb8.mono (by omega)), lv, _, rfl, by omega, ho8⟩
  | none =>
    have HC : Hid (∀ t bh W, St t bh b off c zs.length zs [] W → Calls Try.prog 16 #[.int .i64 0, .pointer (some ⟨t, 0, none⟩), .pointer (some ⟨bh, 0, none⟩), .pointer (some ⟨t + 2, 0, none⟩), .pointer (some ⟨t + 3, 0, none⟩)] W (SeekEnd t bh b off c zs.length zs [] W none)) := fun t bh W hW => by
      rw [← hd]; exact seek_calls rfl h7 zs.length [] 0 W (by simp) hW
    clear hd ho
    go_enter Try.func9, Try.ntmps9
    go_wp2_with (first
      | (go_at_call 11; refine hsane.mono ?_; rintro e w2 ⟨rfl, hb2⟩; obtain ⟨g0, g1⟩ := HF.out w2 hb2; obtain ⟨S5, B5, L5⟩ := HS'.out w2 hb2)
      | (at_make; refine wpList_make_at _ rfl _ _ 30 rfl 4 i0 _ Try.underlying30 hi hz0 zs.length rfl rfl hby (by omega) _ hmk ?_)
      | (go_at_call 16; refine (HC.out _ _ _ S5).mono ?_; rintro e w8 ⟨hb8, rfl, S8⟩))
    go_ret2
    exact ⟨B5.trans (hb8.mono (by omega)), rfl⟩
/-- the search over no acts -/
theorem seek_zero {t bh : Nat} (d s : Value) {q : Option Addr} {c : Nat} {w : World} (c0 : w.cell? ⟨t, 0, none⟩ = some (.slice none 0 0)) (c1 : w.cell? ⟨bh, 0, none⟩ = some (.slice q 0 c)) :
    Calls Try.prog 16 #[.int .i64 0, .pointer (some ⟨t, 0, none⟩), .pointer (some ⟨bh, 0, none⟩), d, s] w fun e w' => e = .returned (.bool true) ∧ w' = w := by
  go_enter Try.func16, Try.ntmps16
  go_wp2
  all_goals go_ret
  all_goals exact ⟨rfl, rfl⟩
set_option maxHeartbeats 1000000 in
theorem order_nil (q : Option Addr) (c : Nat) (w : World) : Calls Try.prog 9 #[.slice q 0 c] w (OrderEnd w (some [])) := by
  have hB1 : Below w.heap.size w (w.alloc (.cells #[.slice q 0 c] 22)) := (Below.refl _ _).alloc (Nat.le_refl _) _
  have hsane := sane_calls (.slice q 0 c) [] _ (Lst.below (w := w) ⟨_, _, rfl, by simp, .inl rfl⟩ hB1)
  rw [show saneB [] = true from rfl] at hsane
  obtain ⟨i0, hi, hz0, hz1, hz2⟩ := info_parts info4
  have HF : Hid (∀ w2, Below (w.alloc (.cells #[.slice q 0 c] 22)).heap.size (w.alloc (.cells #[.slice q 0 c] 22)) w2 → w2.cell? ⟨w.heap.size, 0, none⟩ = some (.slice q 0 c) ∧ w.heap.size < w2.heap.size ∧
      Below w.heap.size w ((((w2.alloc (.cells #[.slice none 0 0] 23)).alloc (.cells (flags 0 []) 4)).alloc (.cells #[.slice (some ⟨w2.heap.size + 1, 0, none⟩) 0 0] 30)).alloc (.cells #[clo w2.heap.size w.heap.size] 36)) ∧
      ((((w2.alloc (.cells #[.slice none 0 0] 23)).alloc (.cells (flags 0 []) 4)).alloc (.cells #[.slice (some ⟨w2.heap.size + 1, 0, none⟩) 0 0] 30)).alloc (.cells #[clo w2.heap.size w.heap.size] 36)).cell? ⟨w2.heap.size, 0, none⟩ = some (.slice none 0 0) ∧
      ((((w2.alloc (.cells #[.slice none 0 0] 23)).alloc (.cells (flags 0 []) 4)).alloc (.cells #[.slice (some ⟨w2.heap.size + 1, 0, none⟩) 0 0] 30)).alloc (.cells #[clo w2.heap.size w.heap.size] 36)).cell? ⟨w.heap.size, 0, none⟩ = some (.slice q 0 c)) := fun w2 h2 => by
    have hlt : w.heap.size < w2.heap.size := by have := h2.size; simp at this; omega
    refine ⟨by rw [h2.cell (p := ⟨w.heap.size, 0, none⟩) (by simp)]; exact cell_new _ _ _ _ _ rfl, hlt,
      ((((((Below.refl w.heap.size w).alloc (Nat.le_refl _) _).trans (h2.mono (by simp))).alloc (by omega) _).alloc (by simp; omega) _).alloc (by simp; omega) _).alloc (by simp; omega) _, cell_of_one (t := 23) ?_, cell_of_one (t := 22) ?_⟩
    · rw [heap_old _ _ (by first | (simp; done) | (simp; omega)), heap_old _ _ (by first | (simp; done) | (simp; omega)), heap_old _ _ (by simp)]
      exact heap_alloc_new w2 _
    · rw [heap_old _ _ (by first | (simp; done) | (simp; omega)), heap_old _ _ (by first | (simp; done) | (simp; omega)), heap_old _ _ (by first | (simp; done) | (simp; omega)), heap_old _ _ (by omega), h2.block _ (by simp)]
      exact heap_alloc_new w _
  have hby : i0.bytes * 0 ≤ 281474976710656 := by omega
  have hmk : madeCells (Value.bool false).cells (0 * i0.size) = flags 0 [] := by rw [hz1]; exact flags_made _
  go_enter Try.func9, Try.ntmps9
  go_wp2_with (first
    | (go_at_call 11; refine hsane.mono ?_; rintro e w2 ⟨rfl, hb2⟩; obtain ⟨g0, g1, g2, g3, g4⟩ := HF.out w2 hb2)
    | (at_make; refine wpList_make_at _ rfl _ _ 30 rfl 4 i0 _ Try.underlying30 hi hz0 0 rfl rfl hby (by omega) _ hmk ?_)
    | (go_at_call 16; refine (seek_zero _ _ g3 g4).mono ?_; rintro e w8 ⟨rfl, rfl⟩))
  go_ret2
  exact ⟨g2, _, w.heap.size, rfl, Nat.le_refl _, World.ownsRow_nil _ _ _ _⟩
/-- TRACE.ORDER AS A CALL -/
theorem order_calls (zs : List A) (v : Value) (w : World) (hv : Lst w v zs) : Calls Try.prog 9 #[v] w (OrderEnd w (orderL zs)) := by
  cases hs : saneB zs with
  | false => exact order_insane zs v w hv hs
  | true =>
    obtain ⟨q, c, rfl, hl, rfl | ⟨b, off, rfl, hat⟩⟩ := hv
    · exact order_nil q c w
    · exact order_sane zs b off c w hat hs
end Go.Proofs.Ytidnooaccbahpaa
