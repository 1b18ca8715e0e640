/- A body told by the executor, its results alone. -/
import Derived.Test.YtdchdajjhofmnaaGreatSq
namespace Go.Sx
open Go.RowKit Go.Proofs
abbrev Orc := Unit
def OrcOk (_P : Program) (_w0 : World) (_orc : Orc) : Prop := True
def symBodyX (E : Env) (call : CallF) (_orc : Orc) (fn : Func) (fuel : Nat) (args : List SV) : T SV := T.mapX (fun q => q.1) (symBody E call fn fuel args [])
theorem noLab_hr (w : World) : HR noLab (hpOf []) w := ⟨fun l o h => by simp [hpOf, nth] at h, fun l l' b _ _ h => by simp [noLab] at h, fun l b _ h => by simp [noLab] at h, fun b c h => by simp [noLab] at h⟩
theorem sx_body {E : Env} {w0 : World} (hE : E.Ok) {call : CallF} (hcall : CallOk E.P call) {orc : Orc} (_ho : OrcOk E.P w0 orc) {f : FuncId} {fn : Func} (hf : E.P.funcs[f]? = some fn) {fuel : Nat} {vs : List SV} {vals : List Value} {R : Ending → World → Prop}
  (hv : relL noLab vs vals) (hK : (symBodyX E call orc fn fuel vs).Holds fun r => ∀ β' w' val, Below w0.heap.size w0 w' → SV.rel β' r val → R (.returned val) w') : Calls E.P f vals.toArray w0 R := by
 refine symBody_sound hE hcall hf hv (noLab_hr w0) (fun _ _ => rfl) (T.Holds.mono ?_ (T.mapX_holds hK))
 intro q hq β' w' val he _ _ hr
 exact hq β' w' val (Ext.below he (fun _ => rfl)) hr
end Go.Sx
