/- WHAT IS SAID OF THE PROGRAM beside its text: its lists' elements' types. Made by program (vc.py). -/
import Derived.Test.YtlkfjinaiepocaaDoorNat
import Derived.Test.YtlkfjinaiepocaaDoorRows
import Derived.Test.YtlkfjinaiepocaaDoorBookGlob
namespace Go.Proofs.YtlkfjinaiepocaaDoor
open Go Go.E2 Go.E3
set_option maxRecDepth 100000
variable {sp : Nat → Option (List V → Heap → Option (CR × Heap))}
def qlr : List (Nat × Nat) := [(3, 1), (4, 3), (5, 0), (56, 8), (58, 7), (65, 4), (86, 10)]
def zd8 : List Nat := [28]
def qx5 : Nat → Option (List (PV KT))
  | 0 => some [.lit false, .lit false, .lit false, .lit false, .lit false, .lit false, .lit false, .lit false, .lit false, .lit false, .lit false, .lit false, .lit true, .lit true, .lit true, .lit true, .lit false, .lit false, .lit false, .lit false, .lit false, .lit false, .lit false, .lit false, .lit true, .lit false, .lit false, .lit false, .lit false, .lit false, .lit false, .lit false, .lit false, .lit false, .lit false, .lit false, .lit false, .lit false, .lit false, .lit false, .lit false, .lit false, .lit false, .lit false, .lit false, .lit false, .lit false, .lit false, .lit false, .lit true, .lit true, .lit true, .lit true, .lit true, .lit true, .lit false, .lit false, .lit false, .lit false, .lit false, .lit false, .lit false, .lit false, .lit false, .lit false, .lit false, .lit false, .lit true, .lit true, .lit false, .lit false, .lit false, .lit false, .lit false, .lit false, .lit false, .lit false, .lit false, .lit false, .lit false, .lit false, .lit true, .lit true, .lit false, .lit false, .lit false, .lit false, .lit false, .lit false, .lit false, .lit false, .lit false, .lit false, .lit false, .lit false, .lit true, .lit false, .lit false, .lit false, .lit false, .lit false, .lit false, .lit false, .lit false, .lit false, .lit true, .lit false, .lit false, .lit false, .lit false, .lit false, .lit false, .lit false, .lit false, .lit false, .lit false, .lit false, .lit false, .lit false, .lit false, .lit false, .lit false, .lit false, .lit false, .lit false, .lit false, .lit false, .lit false, .lit false, .lit true, .lit false, .lit false, .lit false, .lit false, .lit false, .lit false, .lit false, .lit false, .lit false, .lit false, .lit false, .lit false, .lit false, .lit false, .lit false, .lit false, .lit false, .lit false, .lit false, .lit false, .lit false, .lit false, .lit false, .lit false, .lit false, .lit false]
  | _ => none
noncomputable def cfg (sp : Nat → Option (List V → Heap → Option (CR × Heap))) : Cfg Int Bool (List UInt8) Prop (fun c => List (KT c)) := { E := qx Tryd.prog sp, ze := qx5, codec := Go.E3.look qlr, ann := fun _ _ => none, ans := fun f => zd8.any fun g => Nat.beq g f, ng := 1, prim := fun _ => false, gobj := Go.E3.look bookAwake.ze }
theorem zdw : ((qx Tryd.prog sp).types 3).map (·.size) = some 1 := by kernel_rfl
theorem zdx : ((qx Tryd.prog sp).types 4).map (·.size) = some 1 := by kernel_rfl
theorem zdy : ((qx Tryd.prog sp).types 5).map (·.size) = some 1 := by kernel_rfl
theorem zc0 : ((qx Tryd.prog sp).types 56).map (·.size) = some 1 := by kernel_rfl
theorem zc1 : ((qx Tryd.prog sp).types 58).map (·.size) = some 4 := by kernel_rfl
theorem zc2 : ((qx Tryd.prog sp).types 65).map (·.size) = some 17 := by kernel_rfl
theorem zc3 : ((qx Tryd.prog sp).types 86).map (·.size) = some 2 := by kernel_rfl
theorem qbv : CfgOk XK szK (cfg sp) := by
  have mem : ∀ e c, Go.E3.look qlr e = some c → (e, c) ∈ qlr := fun e c h => qfr h
  refine ⟨zeb, fun e c h => ?_, fun e c ti h ht => ?_, fun e e' c h h' => ?_, zem, fun _ => rfl, zcv⟩
  · have := mem e c h
    simp only [qlr, List.mem_cons, Prod.mk.injEq, List.not_mem_nil, or_false] at this
    rcases this with ⟨rfl, rfl⟩ | ⟨rfl, rfl⟩ | ⟨rfl, rfl⟩ | ⟨rfl, rfl⟩ | ⟨rfl, rfl⟩ | ⟨rfl, rfl⟩ | ⟨rfl, rfl⟩ <;> exact Nat.lt_of_lt_of_le Nat.zero_lt_one (by decide)
  · have := mem e c h
    simp only [qlr, List.mem_cons, Prod.mk.injEq, List.not_mem_nil, or_false] at this
    rcases this with ⟨rfl, rfl⟩ | ⟨rfl, rfl⟩ | ⟨rfl, rfl⟩ | ⟨rfl, rfl⟩ | ⟨rfl, rfl⟩ | ⟨rfl, rfl⟩ | ⟨rfl, rfl⟩
    · have := zdw (sp := sp)
      have ht' : (qx Tryd.prog sp).types 3 = some ti := ht
      rw [ht'] at this
      exact Option.some.inj this
    · have := zdx (sp := sp)
      have ht' : (qx Tryd.prog sp).types 4 = some ti := ht
      rw [ht'] at this
      exact Option.some.inj this
    · have := zdy (sp := sp)
      have ht' : (qx Tryd.prog sp).types 5 = some ti := ht
      rw [ht'] at this
      exact Option.some.inj this
    · have := zc0 (sp := sp)
      have ht' : (qx Tryd.prog sp).types 56 = some ti := ht
      rw [ht'] at this
      exact Option.some.inj this
    · have := zc1 (sp := sp)
      have ht' : (qx Tryd.prog sp).types 58 = some ti := ht
      rw [ht'] at this
      exact Option.some.inj this
    · have := zc2 (sp := sp)
      have ht' : (qx Tryd.prog sp).types 65 = some ti := ht
      rw [ht'] at this
      exact Option.some.inj this
    · have := zc3 (sp := sp)
      have ht' : (qx Tryd.prog sp).types 86 = some ti := ht
      rw [ht'] at this
      exact Option.some.inj this
  · have key : ∀ x ∈ qlr, ∀ y ∈ qlr, x.2 = y.2 → x.1 = y.1 := by decide
    exact key _ (mem e c h) _ (mem e' c h') rfl
theorem qar : CfgOk2 XK (cfg sp) := by
  refine ⟨zcw, fun gn ps h p hp => ?_⟩
  have h' : qx5 gn = some ps := h
  unfold qx5 at h'
  split at h'
  · cases h'
    exact zk rfl p hp
  · cases h'
end Go.Proofs.YtlkfjinaiepocaaDoor
