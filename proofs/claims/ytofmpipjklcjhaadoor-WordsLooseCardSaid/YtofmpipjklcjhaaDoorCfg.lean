/- WHAT IS SAID OF THE PROGRAM beside its text: its lists' elements' types. Made by program (vc.py). -/
import Derived.Test.YtofmpipjklcjhaaDoorNat
import Derived.Test.YtofmpipjklcjhaaDoorRows
namespace Go.Proofs.YtofmpipjklcjhaaDoor
open Go Go.E2 Go.E3
set_option maxRecDepth 100000
variable {sp : Nat → Option (List V → Heap → Option (CR × Heap))}
def codecL : List (Nat × Nat) := [(3, 1), (5, 0), (9, 2), (43, 5), (46, 6)]
def ansL : List Nat := [15]
def globK : Nat → Option (List (PV KT))
  | _ => none
noncomputable def cfg (sp : Nat → Option (List V → Heap → Option (CR × Heap))) : Cfg Int Bool (List UInt8) Prop (fun c => List (KT c)) := { E := envOf Tryd.prog sp, glob := globK, codec := Go.E3.look codecL, ann := fun _ _ => none, ans := fun f => ansL.any fun g => Nat.beq g f, ng := 0, prim := fun f => Nat.beq f 29, gobj := fun _ => none }
theorem size3 : ((envOf Tryd.prog sp).types 3).map (·.size) = some 1 := by kernel_rfl
theorem size5 : ((envOf Tryd.prog sp).types 5).map (·.size) = some 1 := by kernel_rfl
theorem size9 : ((envOf Tryd.prog sp).types 9).map (·.size) = some 1 := by kernel_rfl
theorem size43 : ((envOf Tryd.prog sp).types 43).map (·.size) = some 3 := by kernel_rfl
theorem size46 : ((envOf Tryd.prog sp).types 46).map (·.size) = some 2 := by kernel_rfl
theorem cfgOk : CfgOk XK szK (cfg sp) := by
  have mem : ∀ e c, Go.E3.look codecL e = some c → (e, c) ∈ codecL := fun e c h => look_mem h
  refine ⟨lenK, fun e c h => ?_, fun e c ti h ht => ?_, fun e e' c h h' => ?_, oneK, fun _ => rfl, packOk⟩
  · have := mem e c h
    simp only [codecL, List.mem_cons, Prod.mk.injEq, List.not_mem_nil, or_false] at this
    rcases this with ⟨rfl, rfl⟩ | ⟨rfl, rfl⟩ | ⟨rfl, rfl⟩ | ⟨rfl, rfl⟩ | ⟨rfl, rfl⟩ <;> exact Nat.lt_of_lt_of_le Nat.zero_lt_one (by decide)
  · have := mem e c h
    simp only [codecL, List.mem_cons, Prod.mk.injEq, List.not_mem_nil, or_false] at this
    rcases this with ⟨rfl, rfl⟩ | ⟨rfl, rfl⟩ | ⟨rfl, rfl⟩ | ⟨rfl, rfl⟩ | ⟨rfl, rfl⟩
    · have := size3 (sp := sp)
      have ht' : (envOf Tryd.prog sp).types 3 = some ti := ht
      rw [ht'] at this
      exact Option.some.inj this
    · have := size5 (sp := sp)
      have ht' : (envOf Tryd.prog sp).types 5 = some ti := ht
      rw [ht'] at this
      exact Option.some.inj this
    · have := size9 (sp := sp)
      have ht' : (envOf Tryd.prog sp).types 9 = some ti := ht
      rw [ht'] at this
      exact Option.some.inj this
    · have := size43 (sp := sp)
      have ht' : (envOf Tryd.prog sp).types 43 = some ti := ht
      rw [ht'] at this
      exact Option.some.inj this
    · have := size46 (sp := sp)
      have ht' : (envOf Tryd.prog sp).types 46 = some ti := ht
      rw [ht'] at this
      exact Option.some.inj this
  · have key : ∀ x ∈ codecL, ∀ y ∈ codecL, x.2 = y.2 → x.1 = y.1 := by decide
    exact key _ (mem e c h) _ (mem e' c h') rfl
theorem cfgOk2 : CfgOk2 XK (cfg sp) := by
  refine ⟨plainK, fun gn ps h p hp => ?_⟩
  have h' : globK gn = some ps := h
  unfold globK at h'
  split at h'
  · cases h'
end Go.Proofs.YtofmpipjklcjhaaDoor
