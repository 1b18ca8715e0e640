/- A call's contract where its first test is known to hold. -/
import Derived.Test.YtdchdajjhofmnaaGreatEnv
namespace Go.Sx
open Go.RowKit Go.Proofs
def T.isIte {α : Type} : T α → Bool
 | .ite _ _ _ => true
 | _ => false
def T.cond {α : Type} : T α → Bool
 | .ite b _ _ => b
 | _ => false
def T.left {α : Type} : T α → T α
 | .ite _ x _ => x
 | t => t
theorem T.holds_left {α : Type} {K : α → Prop} : ∀ {t : T α}, t.isIte = true → t.cond = true → t.left.Holds K → t.Holds K
 | .ite b x y, _, h2, h3 => ⟨fun _ => h3, fun e => by have h4 : b = true := h2; rw [e] at h4; cases h4⟩
 | .ret _, h, _, _ => by cases h
 | .fail, h, _, _ => by cases h
theorem sx_left {E : Env} (hE : E.Ok) (d : Nat) (f : FuncId) (vs : List SV) (vals : List Value) (hv : relL noLab vs vals) {r : SV} (hi : (symCall E d f vs []).isIte = true) (hc : (symCall E d f vs []).cond = true)
  (hflat : (symCall E d f vs []).left.okFlat = true) (hr : r.flat = true) (hout : (symCall E d f vs []).left.out = r.toV) (w : World) :
  Calls E.P f vals.toArray w fun e w' => (∃ v, e = .returned v ∧ SV.rel noLab r v) ∧ Below w.heap.size w w' := by
 refine symCall_sound hE d f vs [] noLab w vals _ hv ⟨fun l o h => by simp [hpOf, nth] at h, fun l l' b _ _ h => by simp [noLab] at h, fun l b _ h => by simp [noLab] at h, fun b c h => by simp [noLab] at h⟩ (fun _ _ => rfl) ?_
 have := T.out_holds (K := fun v => v = r.toV) _ hflat hout
 refine T.holds_left hi hc (T.Holds.mono ?_ this)
 rintro ⟨v, H⟩ ⟨h1, h2⟩ β' w' val he _ _ hrel
 refine ⟨⟨val, rfl, ?_⟩, he.below (fun _ => rfl)⟩
 rw [flat_toV v val h1 hrel, h2]
 exact toV_rel r hr (inR_of_toV v r h1 hr h2 (rel_inR v val hrel))
end Go.Sx
