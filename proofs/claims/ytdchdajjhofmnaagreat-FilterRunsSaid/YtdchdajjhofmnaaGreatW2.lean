/- outriggerref04.Wide, walked: each round of its loop is run by the executor. -/
import Derived.Test.YtdchdajjhofmnaaGreatW1
import Derived.Test.YtdchdajjhofmnaaGreatGd
namespace Go.Proofs.YtdchdajjhofmnaaGreat
open Go Go.RowKit Go.Proofs Go.Sx
noncomputable def addB (n bit : Int) : Int := IntKind.i64.wrap (n + bit)
noncomputable def tryB (c d n bit : Int) : Int := bif (decide (addB n bit ≤ 288230376151711744) && f274 (addB n bit) c d) then addB n bit else n
noncomputable def runB (c d : Int) : Nat → Int → Int → Int
 | 0, n, _ => n
 | k + 1, n, bit => bif decide (bit > 0) then runB c d k (tryB c d n bit) (bit / 2) else n
noncomputable def f224 (h l : Int) : Int × Bool :=
 bif decide ((f273 h l).1 < 0) then (0, true) else
  (bif decide (runB (f273 h l).1 (f273 h l).2 60 0 288230376151711744 < 288230376151711744) then (runB (f273 h l).1 (f273 h l).2 60 0 288230376151711744, !f275 h l)
   else (runB (f273 h l).1 (f273 h l).2 60 0 288230376151711744, decide (f278 (f276 (f225 288230376151711744 288230376151711744).1 (f225 288230376151711744 288230376151711744).2 0 576460752303423489).1 (f276 (f225 288230376151711744 288230376151711744).1 (f225 288230376151711744 288230376151711744).2 0 576460752303423489).2.1 (f273 h l).1 (f273 h l).2 ≤ 0)))
noncomputable def Ew2 : Env := ⟨Go.Proofs.Tryz.prog, [(276, S276), (275, S275), (225, S225), (273, S273), (274, S274), (278, S278)], 3, 336, true, [], [], [], []⟩
theorem Ew2_ok : Ew2.Ok := envOk' (S := [(276, S276), (275, S275), (225, S225), (273, S273), (274, S274), (278, S278)]) ⟨S276_ok, S275_ok, S225_ok, S273_ok, S274_ok, S278_ok, trivial⟩
theorem Hd.split {E : Env} {call : CallF} {n : Nat} {x y : Code} {s : St} {K : Ex × St → Prop} (h : Hd (symCode E call (n + 1) (.seq x y) s) K) :
  Hd (symCode E call n x s) (fun r => match r.1 with | .normal => Hd (symCode E call n y r.2) K | e => K (e, r.2)) := by
 rw [symCode_seq] at h
 refine h.bind.mono ?_
 rintro ⟨e, st⟩ hh
 cases e with
 | normal => exact hh
 | ret => exact hh.out
 | exit id => exact hh.out
 | goto l => exact hh.out
inductive LB where
 | go (n bit a b c d : Int) (t u : Tag)
 | ex (n bit a b c d : Int) (t u : Tag)
 | rt (n : Int) (c : Bool)
 | none
noncomputable def stB (n bit a b c d : Int) (t u : Tag) : St :=
 ⟨[.none, .val (.ptr 0 0), .none, .none, .val (.ptr 1 0), .val (.int .i64 (.sym n)), .val (.int .i64 (.sym bit))] ++ List.replicate 42 .none, [some ([.int .i64 (.sym a), .int .i64 (.sym b)], t), some ([.int .i64 (.sym c), .int .i64 (.sym d)], u)]⟩
noncomputable def vwB (f : Int → Int → Int → Int → Int → Int → Tag → Tag → LB) (st : St) : LB := match Nat.beq st.slots.length 49, nth st.slots 1, nth st.slots 4, nth st.slots 5, nth st.slots 6, st.heap with
 | true, some (.val (.ptr 0 0)), some (.val (.ptr 1 0)), some (.val (.int .i64 n)), some (.val (.int .i64 bit)), [some ([.int .i64 (.sym a), .int .i64 (.sym b)], t), some ([.int .i64 (.sym c), .int .i64 (.sym d)], u)] => f n.val bit.val a b c d t u
 | _, _, _, _, _, _ => .none
noncomputable def rtB (st : St) : LB := match resultS Go.Proofs.Tryz.prog st Tryz.f224.results.toList with
 | some [.int .i64 n, .bool c] => .rt n.val c.val
 | _ => .none
noncomputable def viewB : Ex × St → LB
 | (.normal, st) => vwB .go st
 | (.exit 0, st) => vwB .ex st
 | (.ret, st) => rtB st
 | _ => .none
noncomputable def stB0 (h l : Int) : St := ⟨[.val (.agg [.int .i64 (.sym h), .int .i64 (.sym l)])] ++ List.replicate 48 (.val undefS), []⟩
noncomputable def bodyW : Code := match Tryz.f224.body with | some c => c | _ => .skip
noncomputable def fstC : Code → Code | .seq a _ => a | _ => .skip
noncomputable def sndC : Code → Code | .seq _ b => b | _ => .skip
noncomputable def r0 : Code := fstC bodyW
noncomputable def r1 : Code := fstC (sndC bodyW)
noncomputable def r2 : Code := fstC (sndC (sndC bodyW))
noncomputable def r4 : Code := fstC (sndC (sndC (sndC bodyW)))
noncomputable def r5 : Code := fstC (fstC (sndC (sndC (sndC (sndC bodyW)))))
noncomputable def rX : Code := match sndC (fstC (sndC (sndC (sndC (sndC bodyW))))) with | .block 0 (.loop x) => x | _ => .skip
noncomputable def rEnd : Code := sndC (sndC (sndC (sndC (sndC bodyW))))
theorem bodyW_eq : Tryz.f224.body = some (.seq r0 (.seq r1 (.seq r2 (.seq r4 (.seq (.seq r5 (.block 0 (.loop rX))) rEnd))))) := by kernel_rfl
theorem wayE (h l : Int) : T.mapV viewB (symCode Ew2 (symCall Ew2 20) (400 + 4) (.seq r0 (.seq r1 (.seq r2 (.seq r4 r5)))) (stB0 h l)) =
  .ite (decide ((f273 h l).1 < 0)) (.ret (.rt 0 true)) (.ret (.go 0 288230376151711744 h l (f273 h l).1 (f273 h l).2 ⟨237, none, 0, [], none⟩ ⟨237, none, 1, [1, 1], none⟩)) := by kernel_rfl
theorem roundE (n bit a b c d : Int) (t u : Tag) : T.mapV viewB (symCode Ew2 (symCall Ew2 20) 400 rX (stB n bit a b c d t u)) =
  .ite (decide (bit > 0)) (.ite (decide (addB n bit ≤ 288230376151711744) && f274 (addB n bit) c d) (.ret (.go (addB n bit) (IntKind.i64.wrap (bit.tdiv 2)) a b c d t u)) (.ret (.go n (IntKind.i64.wrap (bit.tdiv 2)) a b c d t u))) (.ret (.ex n bit a b c d t u)) := by kernel_rfl
theorem endE56 (n bit a b c d : Int) (t u : Tag) : T.mapV viewB (symCode Ew2 (symCall Ew2 20) 400 rEnd (stB n bit a b c d t u)) =
  .ite (decide (n < 288230376151711744)) (.ret (.rt n (!f275 a b))) (.ret (.rt n (decide (f278 (f276 (f225 288230376151711744 288230376151711744).1 (f225 288230376151711744 288230376151711744).2 0 576460752303423489).1 (f276 (f225 288230376151711744 288230376151711744).1 (f225 288230376151711744 288230376151711744).2 0 576460752303423489).2.1 c d ≤ 0)))) := by kernel_rfl
end Go.Proofs.YtdchdajjhofmnaaGreat
