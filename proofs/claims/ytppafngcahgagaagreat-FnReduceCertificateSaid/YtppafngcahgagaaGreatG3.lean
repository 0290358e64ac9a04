/- A part of the proofs over this program: GlV. -/
import Derived.Test.YtppafngcahgagaaGreatG0
import Derived.Test.YtppafngcahgagaaGreatG1
import Derived.Test.YtppafngcahgagaaGreatG2
set_option linter.all false
/- Ghost logic, part V: what reads as data of a type, is a value of a Lean type. -/
namespace Go.Gl
open Go.RowKit Go.WideShapes Go.ChangeShapes
variable {P : Program}

def OpensD {α : Type} (P : Program) (t : TypeId) (enc : α → List AC) (ok : α → Prop) : Prop := ∀ k, Opens P t (fun xs => ∃ a, xs = enc a ∧ ok a) k

theorem od_byte {t : TypeId} (ht : P.underlying t = some (.int .u8)) {enc : Int → List AC} (he : ∀ n, enc n = [.raw (.int .u8 n)]) : OpensD P t enc (fun n => (Lit.int .u8 n).wf = true) := fun k =>
  (opens_int ht k).imp fun xs ⟨n, h1, h2⟩ => ⟨n, h1.trans (he n).symm, h2⟩
theorem choose_map {α : Type} {enc : α → List AC} {ok : α → Prop} : (es : List (List AC)) → (∀ y ∈ es, ∃ a, y = enc a ∧ ok a) → ∃ l : List α, es = l.map enc ∧ ∀ a ∈ l, ok a
  | [], _ => ⟨[], rfl, fun _ h => by cases h⟩
  | e :: es, h => by
    obtain ⟨a, h1, h2⟩ := h e (by simp)
    obtain ⟨l, h3, h4⟩ := choose_map es fun y hy => h y (by simp [hy])
    exact ⟨a :: l, by rw [h1, h3]; rfl, fun b hb => by
      rcases List.mem_cons.1 hb with rfl | hb
      · exact h2
      · exact h4 b hb⟩

theorem opens_list {α : Type} {t e : TypeId} {enc : α → List AC} {ok : α → Prop} {n k : Nat} (ht : P.underlying t = some (.slice e)) (hc : P.cellsOf e = n) (hn : 0 < n) (h : Opens P e (fun xs => ∃ a, xs = enc a ∧ ok a) k) :
    Opens P t (fun xs => ∃ l : List α, xs = [.list n l.length (l.map enc)] ∧ l.length ≤ maxLen ∧ ∀ a ∈ l, ok a) (k + 1) :=
  (opens_slice ht hc hn h).imp fun xs ⟨es, h1, h2, h3⟩ => by
    obtain ⟨l, rfl, h4⟩ := choose_map es h3
    exact ⟨l, by rw [h1]; simp, by simpa using h2, h4⟩

theorem od_list {α : Type} {t e : TypeId} {enc : α → List AC} {ok : α → Prop} (n : Nat) (ht : P.underlying t = some (.slice e)) (hc : P.cellsOf e = n) (hn : 0 < n) (h : OpensD P e enc ok) {encL : List α → List AC} (he : ∀ l, encL l = [.list n l.length (l.map enc)]) :
    OpensD P t encL (fun l => l.length ≤ maxLen ∧ ∀ a ∈ l, ok a)
  | 0 => opens_zero
  | k + 1 => (opens_list ht hc hn (h k)).imp fun xs ⟨l, h1, h2⟩ => ⟨l, h1.trans (he l).symm, h2⟩

theorem OpensD.imp {α β : Type} {t : TypeId} {enc : α → List AC} {ok : α → Prop} {enc' : β → List AC} {ok' : β → Prop} (h : OpensD P t enc ok) (hi : ∀ a, ok a → ∃ b, enc a = enc' b ∧ ok' b) : OpensD P t enc' ok' := fun k =>
  (h k).imp fun xs ⟨a, h1, h2⟩ => by
    obtain ⟨b, h3, h4⟩ := hi a h2
    exact ⟨b, h1.trans h3, h4⟩

/-- an argument -/
def ArgD {α : Type} (P : Program) (t : TypeId) (enc : α → AC) (ok : α → Prop) : Prop := ArgOk P t fun x _ => ∃ a, x = enc a ∧ ok a

theorem ArgOk.imp {t : TypeId} {R R' : AC → Nat → Prop} (h : ArgOk P t R) (hi : ∀ x m, R x m → R' x m) : ArgOk P t R' := fun H enc b hB W r b0 v d ps hv hk => by
  obtain ⟨x, m, h1, h2⟩ := h H enc b hB W r b0 v d ps hv hk
  exact ⟨x, m, hi _ _ h1, h2⟩

theorem argD_list {α : Type} {t e : TypeId} {enc : α → List AC} {ok : α → Prop} {enc1 : α → AC} (ht : P.underlying t = some (.slice e)) (h : OpensD P t enc ok) (he : ∀ a, enc a = [enc1 a]) : ArgD P t enc1 ok :=
  (argOk_slice ht h).imp fun x m ⟨⟨a, h1, h2⟩, _⟩ => ⟨a, by rw [he] at h1; exact (List.cons.inj h1).1, h2⟩
theorem ArgD.imp {α β : Type} {t : TypeId} {enc : α → AC} {ok : α → Prop} {enc' : β → AC} {ok' : β → Prop} (h : ArgD P t enc ok) (hi : ∀ a, ok a → ∃ b, enc a = enc' b ∧ ok' b) : ArgD P t enc' ok' :=
  ArgOk.imp h fun x m ⟨a, h1, h2⟩ => by
    obtain ⟨b, h3, h4⟩ := hi a h2
    exact ⟨b, h1.trans h3, h4⟩

theorem ArgsOk.imp : {ts : List TypeId} → {R R' : List AC → Nat → Prop} → ArgsOk P ts R → (∀ xs m, R xs m → R' xs m) → ArgsOk P ts R'
  | [], _, _, h, hi => hi _ _ h
  | _ :: _, _, _, ⟨R1, R2, h1, h2, h3⟩, hi => ⟨R1, R2, h1, h2, fun a m as n ha has => hi _ _ (h3 a m as n ha has)⟩
theorem args_nil : ArgsOk P [] (fun xs _ => xs = []) := rfl
theorem args_cons {α : Type} {t : TypeId} {ts : List TypeId} {enc : α → AC} {ok : α → Prop} {R : List AC → Prop} (h : ArgD P t enc ok) (k : ArgsOk P ts (fun xs _ => R xs)) : ArgsOk P (t :: ts) (fun xs _ => ∃ a ys, xs = enc a :: ys ∧ ok a ∧ R ys) :=
  ⟨_, _, h, k, fun _ _ as _ ⟨b, h1, h2⟩ h3 => ⟨b, as, by rw [h1], h2, h3⟩⟩

theorem bulks_sizeOf {H : Type} : (l : List (DataW H)) → bulks SizeOf.sizeOf l + 1 ≤ SizeOf.sizeOf l
  | [] => by simp [bulks]
  | d :: r => by
    have := bulks_sizeOf r
    simp only [bulks, List.cons.sizeOf_spec]
    omega
theorem bulk_sizeOf {H : Type} : Bulk (H := H) SizeOf.sizeOf where
  lit l := by simp only [DataW.lit.sizeOf_spec]; omega
  nil := by simp
  slice es sp := by
    have := bulks_sizeOf es
    simp only [DataW.slice.sizeOf_spec]; omega
  agg ps := by
    have := bulks_sizeOf ps
    simp only [DataW.agg.sizeOf_spec]; omega
end Go.Gl

