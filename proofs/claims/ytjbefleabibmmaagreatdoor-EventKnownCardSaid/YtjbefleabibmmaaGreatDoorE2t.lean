/- E2: FUNCTIONS WITHOUT A BODY, and what is asked of a program's tables, in one check. -/
import Derived.Test.YtjbefleabibmmaaGreatDoorE2s
import Derived.Lib.Bytealg
import Derived.Lib.Builder
namespace Go.E2
open Go

/-- What is asked of a function's text. -/
def fnOk (fn : Func) : Bool :=
  match fn.body with
  | some c => codeOk c
  | none => Nat.beq (extOf fn.name) 0 || fn.origin == "" || fn.origin == fn.name

def progOk (P : Program) : Bool := P.funcs.all fnOk

section
variable {P : Program}

theorem fnOk_of (h : progOk P = true) {f : Nat} {fn : Func} (hf : P.funcs[f]? = some fn) : fnOk fn = true := by
  simp only [progOk] at h
  rw [Array.all_eq_true] at h
  rw [Array.getElem?_eq_some_iff] at hf
  obtain ⟨hi, rfl⟩ := hf
  exact h f hi

theorem code_of (h : progOk P = true) (f : Nat) (fn : Func) (c : Code) (hf : P.funcs[f]? = some fn) (hb : fn.body = some c) : codeOk c = true := by
  have := fnOk_of h hf
  simpa only [fnOk, hb] using this

theorem look_next {fn : Func} {s : String} (hn : fn.name = s) (ho : fn.origin = "" ∨ fn.origin = fn.name) (h : Extern.allNextRows.lookup s = none) : Extern.findNext fn = none := by
  have h0 : Extern.allNextRows.lookup "" = none := by kernel_rfl
  rcases ho with ho | ho
  · simp only [Extern.findNext, ho, hn, h, h0]; rfl
  · simp only [Extern.findNext, ho, hn, h]; rfl

theorem look_find {fn : Func} {s : String} {e : Array Value → Sem Value} (hn : fn.name = s) (h1 : Extern.allGenericRows.lookup s = none) (h2 : Extern.allTypedRows.lookup s = none) (h3 : Extern.allRows.lookup s = some e) : Extern.find fn = some e := by
  simp only [Extern.find, hn, h1, h2, h3]; rfl

theorem indexByte_findIdx (c : UInt8) : ∀ l : List UInt8, Lib.indexByte l c = (match l.findIdx? (fun b => b == c) with | some i => (i : Int) | none => -1)
  | [] => rfl
  | b :: l => by
    unfold Lib.indexByte
    rw [List.findIdx?_cons, indexByte_findIdx c l]
    by_cases h : (b == c) = true
    · simp [h]
    · simp only [h]
      cases hq : l.findIdx? (fun b => b == c) with
      | none => simp
      | some i =>
        have : ¬ ((i : Int) == -1) = true := by simp
        simp [this]

theorem extOk (h : progOk P = true) : ExtOk P := by
  intro f fn args v hf hb hx G w rargs hr
  have hok := fnOk_of h hf
  simp only [fnOk, hb, Bool.or_eq_true, Nat.beq_eq, beq_iff_eq] at hok
  unfold extV at hx
  have hn0 : extOf fn.name ≠ 0 := by
    intro h0
    rw [h0] at hx
    simp at hx
  have ho : fn.origin = "" ∨ fn.origin = fn.name := by
    rcases hok with (h1 | h1) | h1
    · exact (hn0 h1).elim
    · exact .inl h1
    · exact .inr h1
  have hb' : fn.body.isNone = true := by rw [hb]; rfl
  have hnames : (extOf fn.name = 1 → fn.name = "internal/bytealg.IndexByteString") ∧ (extOf fn.name = 2 → fn.name = "internal/bytealg.CountString") ∧ (extOf fn.name = 4 → fn.name = "internal/abi.NoEscape") := by
    unfold extOf
    simp only [beq_iff_eq]
    refine ⟨?_, ?_, ?_⟩ <;> (intro h; repeat (split at h <;> try (first | omega | assumption)))
  split at hx
  · rename_i s c he
    cases hx
    have hn := hnames.1 he
    simp only [RelL] at hr
    obtain ⟨x, xs, h1, rfl, y, ys, rfl, rfl, rfl⟩ := hr
    have hra : rargs = #[.string ⟨s.toArray⟩, .int .u8 c] := by apply Array.ext'; simpa using h1
    refine ⟨.int .i64 (Lib.indexByte s c.toNat.toUInt8), w, ?_, rfl, ⟨rfl, rfl⟩, by simp only [Rel, indexByte_findIdx]; rfl⟩
    rw [run_callFunc_extern hf (by rw [hn]; decide) hb' (look_next hn ho (by kernel_rfl)) (look_find hn (by kernel_rfl) (by kernel_rfl) (by kernel_rfl : Extern.allRows.lookup "internal/bytealg.IndexByteString" = some Extern.BytealgIndexByte.indexByte))]
    rw [hra, Lib.run_indexByteString]
    simp only [Result.andThen_ok]
  · rename_i s c he
    cases hx
    have hn := hnames.2.1 he
    simp only [RelL] at hr
    obtain ⟨x, xs, h1, rfl, y, ys, rfl, rfl, rfl⟩ := hr
    have hra : rargs = #[.string ⟨s.toArray⟩, .int .u8 c] := by apply Array.ext'; simpa using h1
    refine ⟨.int .i64 (s.countP (fun b => b == c.toNat.toUInt8) : Nat), w, ?_, rfl, ⟨rfl, rfl⟩, by simp only [Rel]⟩
    rw [run_callFunc_extern hf (by rw [hn]; decide) hb' (look_next hn ho (by kernel_rfl)) (look_find hn (by kernel_rfl) (by kernel_rfl) (by kernel_rfl : Extern.allRows.lookup "internal/bytealg.CountString" = some Extern.BytealgCount.count))]
    rw [hra, Lib.run_countString]
    simp only [Result.andThen_ok, Lib.countByte]
    rfl
  · rename_i x he
    cases hx
    have hn := hnames.2.2 he
    simp only [RelL] at hr
    obtain ⟨y, xs, h1, h2, rfl⟩ := hr
    have hra : rargs = #[y] := by apply Array.ext'; simpa using h1
    refine ⟨y, w, ?_, rfl, ⟨rfl, rfl⟩, h2⟩
    rw [run_callFunc_extern hf (by rw [hn]; decide) hb' (look_next hn ho (by kernel_rfl)) (look_find hn (by kernel_rfl) (by kernel_rfl) (by kernel_rfl : Extern.allRows.lookup "internal/abi.NoEscape" = some Extern.AbiNoEscape.same))]
    rw [hra, Lib.run_noEscape]
    simp only [Result.andThen_ok]
  · cases hx

/-- WHAT E2 ANSWERS AT A FUNCTION of a program whose tables are as asked, the model answers. -/
theorem callFn_ok (hm : P.follows .mixedOrders = true) (h : progOk P = true) (n : Nat) : CallOk P (callFn (envOf P fun _ => none) n) :=
  callFn_sound hm (extOk h) (code_of h) (fun _ _ h => by cases h) n

end
end Go.E2
