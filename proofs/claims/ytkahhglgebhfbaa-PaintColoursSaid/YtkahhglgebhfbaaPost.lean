/- The row's last step, for a walk of which 'Below' alone is known: all that was there before the call reads as it did. -/
import Derived.Below
import Derived.ChangeSame
import Derived.Test.YtkahhglgebhfbaaAwk
namespace Go.Proofs.Ytkahhglgebhfbaa
open Go.RowKit Go.WideShapes Go.ChangeShapes
section
variable {H : Type} {enc : TypeId × Value → H} {P : Program} {F : Func} {S : ChangeSpec} {W V : World} {args : Array Value} {v : Value} {ds gs : List (DataW H)} {ps pa pv : List MemPlace} {ap fr ha ag : Bool}

/-- No place that the reading met is frozen behind the call. -/
theorem unfrozen (hW : DataW.Whole enc P F.params.toList S.vars ap W args.toList ds gs ps) (hb : Below W.heap.size W V) (b o : Nat) (hp : MemPlace.cell b o ∈ ps) : V.frozen? ⟨b, o, none⟩ = false := by
  have hlt := hW.lt _ hp
  obtain ⟨_, _, _, _, _, hz, _⟩ := hW
  rw [hb.frozen (p := ⟨b, o, none⟩) hlt]
  exact hz b o hp

theorem ends_below (hW : DataW.Whole enc P F.params.toList S.vars ap W args.toList ds gs ps) (hb : Below W.heap.size W V) (hps : ps = pa ++ pv)
    (hr : ∀ (b : Nat) (sp : Nat → Bool) (hd : Bool), DataW.TrodAll enc P V b sp hd F.resultTypes.toList (v.resultList F.resultTypes.size) (S.fn H (ds ++ gs)).results [])
    (ha' : ∀ sp : Nat → Bool, (∀ p ∈ ps, sp p.block = true) → DataW.TrodAll enc P V 0 sp true F.params.toList args.toList (S.fn H (ds ++ gs)).args pa)
    (hv : ∀ sp : Nat → Bool, (∀ p ∈ ps, sp p.block = true) → DataW.TrodVars enc P V sp S.vars (S.fn H (ds ++ gs)).vars pv)
    (hok : ∀ (j : Nat) (t : TypeId) (r : Value), F.resultTypes[j]? = some t → (v.resultList F.resultTypes.size)[j]? = some r → Value.okWide P V .any 0 t r) :
    S.post enc P F ap fr ha ag W args v V := by
  let old : Nat → Bool := fun b => decide (b < W.heap.size)
  have hold : ∀ p ∈ ps, old p.block = true := fun p hp => decide_eq_true (hW.lt p hp)
  have hkept := hb.frame (fun p => p ∈ ps)
  have hmem : ∀ p ∈ ps, p ∈ ([] ++ pa) ++ pv := fun p hp => by rw [hps] at hp; simpa using hp
  have hfz := unfrozen hW hb
  have hnd : ap = true → (([] ++ pa) ++ pv).Nodup := fun h => by
    obtain ⟨_, _, _, _, _, _, hn⟩ := hW
    have h2 := hn h
    rw [hps] at h2
    simpa using h2
  refine ⟨ds, gs, ps, [], pa, pv, hW, hr _ _ _, ha' old hold, hv old hold, World.keptBut_mono (fun p hp => ⟨hp, ?_⟩) hkept, fun _ => ⟨hok, _, _, ([] ++ pa) ++ pv, ⟨[] ++ pa, pv, trodAll_append (ha' _ (fun _ _ => rfl)) (hr _ _ _), hv _ (fun _ _ => rfl), rfl, ?_, hnd⟩, fun p hp _ => ?_⟩⟩
  · have := hmem p hp
    simp only [List.nil_append, List.mem_append] at this
    exact Or.inr this
  · intro b o hp
    exact hfz b o (by rw [hps]; simpa using hp)
  · rw [hps]
    simpa using hp
end
end Go.Proofs.Ytkahhglgebhfbaa
