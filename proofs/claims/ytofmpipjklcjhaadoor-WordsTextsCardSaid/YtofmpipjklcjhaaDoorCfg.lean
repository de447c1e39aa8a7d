/- WHAT IS SAID OF THE PROGRAM beside its text: its lists' elements' types. Made by program (vc.py). -/
import Derived.Test.YtofmpipjklcjhaaDoorNat
import Derived.Test.YtofmpipjklcjhaaDoorRows
namespace Go.Proofs.YtofmpipjklcjhaaDoor
open Go Go.E2 Go.E3
set_option maxRecDepth 100000
variable {sp : Nat → Option (List V → Heap → Option (CR × Heap))}
def qip : List (Nat × Nat) := [(3, 1), (5, 0), (9, 2), (43, 5), (46, 6)]
def zeh : List Nat := [7]
def q4n : Nat → Option (List (PV KT))
  | _ => none
noncomputable def cfg (sp : Nat → Option (List V → Heap → Option (CR × Heap))) : Cfg Int Bool (List UInt8) Prop (fun c => List (KT c)) := { E := qp Tryd.prog sp, glob := q4n, codec := Go.E3.look qip, ann := fun _ _ => none, ans := fun f => zeh.any fun g => Nat.beq g f, ng := 0, prim := fun f => Nat.beq f 29, gobj := fun _ => none }
theorem zc8 : ((qp Tryd.prog sp).types 3).map (·.size) = some 1 := by kernel_rfl
theorem zc9 : ((qp Tryd.prog sp).types 5).map (·.size) = some 1 := by kernel_rfl
theorem zda : ((qp Tryd.prog sp).types 9).map (·.size) = some 1 := by kernel_rfl
theorem za3 : ((qp Tryd.prog sp).types 43).map (·.size) = some 3 := by kernel_rfl
theorem za4 : ((qp Tryd.prog sp).types 46).map (·.size) = some 2 := by kernel_rfl
theorem qg6 : CfgOk XK szK (cfg sp) := by
  have mem : ∀ e c, Go.E3.look qip e = some c → (e, c) ∈ qip := fun e c h => qdi h
  refine ⟨zeo, fun e c h => ?_, fun e c ti h ht => ?_, fun e e' c h h' => ?_, zer, fun _ => rfl, zar⟩
  · have := mem e c h
    simp only [qip, List.mem_cons, Prod.mk.injEq, List.not_mem_nil, or_false] at this
    rcases this with ⟨rfl, rfl⟩ | ⟨rfl, rfl⟩ | ⟨rfl, rfl⟩ | ⟨rfl, rfl⟩ | ⟨rfl, rfl⟩ <;> exact Nat.lt_of_lt_of_le Nat.zero_lt_one (by decide)
  · have := mem e c h
    simp only [qip, List.mem_cons, Prod.mk.injEq, List.not_mem_nil, or_false] at this
    rcases this with ⟨rfl, rfl⟩ | ⟨rfl, rfl⟩ | ⟨rfl, rfl⟩ | ⟨rfl, rfl⟩ | ⟨rfl, rfl⟩
    · have := zc8 (sp := sp)
      have ht' : (qp Tryd.prog sp).types 3 = some ti := ht
      rw [ht'] at this
      exact Option.some.inj this
    · have := zc9 (sp := sp)
      have ht' : (qp Tryd.prog sp).types 5 = some ti := ht
      rw [ht'] at this
      exact Option.some.inj this
    · have := zda (sp := sp)
      have ht' : (qp Tryd.prog sp).types 9 = some ti := ht
      rw [ht'] at this
      exact Option.some.inj this
    · have := za3 (sp := sp)
      have ht' : (qp Tryd.prog sp).types 43 = some ti := ht
      rw [ht'] at this
      exact Option.some.inj this
    · have := za4 (sp := sp)
      have ht' : (qp Tryd.prog sp).types 46 = some ti := ht
      rw [ht'] at this
      exact Option.some.inj this
  · have key : ∀ x ∈ qip, ∀ y ∈ qip, x.2 = y.2 → x.1 = y.1 := by decide
    exact key _ (mem e c h) _ (mem e' c h') rfl
theorem qco : CfgOk2 XK (cfg sp) := by
  refine ⟨zas, fun gn ps h p hp => ?_⟩
  have h' : q4n gn = some ps := h
  unfold q4n at h'
  split at h'
  · cases h'
end Go.Proofs.YtofmpipjklcjhaaDoor
