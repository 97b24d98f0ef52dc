/- What the functions compute that the law VerifyAll reaches, proved by walking them; conditions stand at each theorem. -/
import Derived.WalkKit
import Derived.Test.YthbjcafldbocpaaCVerifyAllw1
import Derived.Test.YthbjcafldbocpaaProg
namespace Go.Proofs.Ythbjcafldbocpaa
open Go.RowKit Go.Proofs.YthbjcafldbocpaaW.PrintWords
set_option linter.unusedVariables false
set_option linter.unusedSimpArgs false

def emit_fields.f (k : Int) : Option ByteArray := if k = 0 then some ⟨#[]⟩ else if k = 1 then some ⟨#[68]⟩ else if k = 2 then some ⟨#[68, 83]⟩ else if k = 3 then some ⟨#[68, 83, 67]⟩ else if k = 4 then some ⟨#[68, 83]⟩ else none
theorem emit_fields.calls (a0 : Int) (r : ByteArray) (w : World) (h : emit_fields.f a0 = some r) :
    Calls Try.prog 73 #[.int .u8 a0] w fun e w' => e = .returned (.string r) ∧ Drawn0 w w' := by
  have i0 : ∀ w : World, (Instr.index 146 (.agg #[.string ⟨#[]⟩, .string ⟨#[68]⟩, .string ⟨#[68, 83]⟩, .string ⟨#[68, 83, 67]⟩, .string ⟨#[68, 83]⟩]) (.int .u8 0)).run Try.prog w = .ok (.string ⟨#[]⟩) w := fun _ => by kernel_rfl
  have i1 : ∀ w : World, (Instr.index 146 (.agg #[.string ⟨#[]⟩, .string ⟨#[68]⟩, .string ⟨#[68, 83]⟩, .string ⟨#[68, 83, 67]⟩, .string ⟨#[68, 83]⟩]) (.int .u8 1)).run Try.prog w = .ok (.string ⟨#[68]⟩) w := fun _ => by kernel_rfl
  have i2 : ∀ w : World, (Instr.index 146 (.agg #[.string ⟨#[]⟩, .string ⟨#[68]⟩, .string ⟨#[68, 83]⟩, .string ⟨#[68, 83, 67]⟩, .string ⟨#[68, 83]⟩]) (.int .u8 2)).run Try.prog w = .ok (.string ⟨#[68, 83]⟩) w := fun _ => by kernel_rfl
  have i3 : ∀ w : World, (Instr.index 146 (.agg #[.string ⟨#[]⟩, .string ⟨#[68]⟩, .string ⟨#[68, 83]⟩, .string ⟨#[68, 83, 67]⟩, .string ⟨#[68, 83]⟩]) (.int .u8 3)).run Try.prog w = .ok (.string ⟨#[68, 83, 67]⟩) w := fun _ => by kernel_rfl
  have i4 : ∀ w : World, (Instr.index 146 (.agg #[.string ⟨#[]⟩, .string ⟨#[68]⟩, .string ⟨#[68, 83]⟩, .string ⟨#[68, 83, 67]⟩, .string ⟨#[68, 83]⟩]) (.int .u8 4)).run Try.prog w = .ok (.string ⟨#[68, 83]⟩) w := fun _ => by kernel_rfl
  have hb : ∀ w : World, (Instr.build 146 #[(1, .string ⟨#[68]⟩), (2, .string ⟨#[68, 83]⟩), (3, .string ⟨#[68, 83, 67]⟩), (4, .string ⟨#[68, 83]⟩)]).run Try.prog w = .ok (.agg #[.string ⟨#[]⟩, .string ⟨#[68]⟩, .string ⟨#[68, 83]⟩, .string ⟨#[68, 83, 67]⟩, .string ⟨#[68, 83]⟩]) w := fun _ => by kernel_rfl
  have hk : (a0 = 0 ∧ r = ⟨#[]⟩) ∨ (a0 = 1 ∧ r = ⟨#[68]⟩) ∨ (a0 = 2 ∧ r = ⟨#[68, 83]⟩) ∨ (a0 = 3 ∧ r = ⟨#[68, 83, 67]⟩) ∨ (a0 = 4 ∧ r = ⟨#[68, 83]⟩) := by
    unfold emit_fields.f at h
    split at h
    · exact .inl ⟨by assumption, (Option.some.inj h).symm⟩
    · split at h
      · exact .inr (.inl ⟨by assumption, (Option.some.inj h).symm⟩)
      · split at h
        · exact .inr (.inr (.inl ⟨by assumption, (Option.some.inj h).symm⟩))
        · split at h
          · exact .inr (.inr (.inr (.inl ⟨by assumption, (Option.some.inj h).symm⟩)))
          · split at h
            · exact .inr (.inr (.inr (.inr ⟨by assumption, (Option.some.inj h).symm⟩)))
            · cases h
  clear h
  rcases hk with ⟨rfl, rfl⟩ | ⟨rfl, rfl⟩ | ⟨rfl, rfl⟩ | ⟨rfl, rfl⟩ | ⟨rfl, rfl⟩
  · go_enter Try.func73, Try.ntmps73
    go_wp2_with fail
    go_ret
    exact ⟨rfl, Drawn0.refl _⟩
  · go_enter Try.func73, Try.ntmps73
    go_wp2_with fail
    go_ret
    exact ⟨rfl, Drawn0.refl _⟩
  · go_enter Try.func73, Try.ntmps73
    go_wp2_with fail
    go_ret
    exact ⟨rfl, Drawn0.refl _⟩
  · go_enter Try.func73, Try.ntmps73
    go_wp2_with fail
    go_ret
    exact ⟨rfl, Drawn0.refl _⟩
  · go_enter Try.func73, Try.ntmps73
    go_wp2_with fail
    go_ret
    exact ⟨rfl, Drawn0.refl _⟩
def recoupref24_fields.f (k : Int) : Option Int := if k = 0 then some 0 else if k = 1 then some 1 else if k = 2 then some 2 else if k = 3 then some 3 else if k = 4 then some 2 else none
theorem recoupref24_fields.calls (a0 : Int) (r : Int) (w : World) (h : recoupref24_fields.f a0 = some r) :
    Calls Try.prog 67 #[.int .u8 a0] w fun e w' => e = .returned (.int .i64 r) ∧ Drawn0 w w' := by
  have i0 : ∀ w : World, (Instr.index 143 (.agg #[.int .i64 0, .int .i64 1, .int .i64 2, .int .i64 3, .int .i64 2]) (.int .u8 0)).run Try.prog w = .ok (.int .i64 0) w := fun _ => by kernel_rfl
  have i1 : ∀ w : World, (Instr.index 143 (.agg #[.int .i64 0, .int .i64 1, .int .i64 2, .int .i64 3, .int .i64 2]) (.int .u8 1)).run Try.prog w = .ok (.int .i64 1) w := fun _ => by kernel_rfl
  have i2 : ∀ w : World, (Instr.index 143 (.agg #[.int .i64 0, .int .i64 1, .int .i64 2, .int .i64 3, .int .i64 2]) (.int .u8 2)).run Try.prog w = .ok (.int .i64 2) w := fun _ => by kernel_rfl
  have i3 : ∀ w : World, (Instr.index 143 (.agg #[.int .i64 0, .int .i64 1, .int .i64 2, .int .i64 3, .int .i64 2]) (.int .u8 3)).run Try.prog w = .ok (.int .i64 3) w := fun _ => by kernel_rfl
  have i4 : ∀ w : World, (Instr.index 143 (.agg #[.int .i64 0, .int .i64 1, .int .i64 2, .int .i64 3, .int .i64 2]) (.int .u8 4)).run Try.prog w = .ok (.int .i64 2) w := fun _ => by kernel_rfl
  have hk : (a0 = 0 ∧ r = 0) ∨ (a0 = 1 ∧ r = 1) ∨ (a0 = 2 ∧ r = 2) ∨ (a0 = 3 ∧ r = 3) ∨ (a0 = 4 ∧ r = 2) := by
    unfold recoupref24_fields.f at h
    split at h
    · exact .inl ⟨by assumption, (Option.some.inj h).symm⟩
    · split at h
      · exact .inr (.inl ⟨by assumption, (Option.some.inj h).symm⟩)
      · split at h
        · exact .inr (.inr (.inl ⟨by assumption, (Option.some.inj h).symm⟩))
        · split at h
          · exact .inr (.inr (.inr (.inl ⟨by assumption, (Option.some.inj h).symm⟩)))
          · split at h
            · exact .inr (.inr (.inr (.inr ⟨by assumption, (Option.some.inj h).symm⟩)))
            · cases h
  clear h
  rcases hk with ⟨rfl, rfl⟩ | ⟨rfl, rfl⟩ | ⟨rfl, rfl⟩ | ⟨rfl, rfl⟩ | ⟨rfl, rfl⟩
  · go_enter Try.func67, Try.ntmps67
    go_wp2_with fail
    go_ret
    exact ⟨rfl, Drawn0.refl _⟩
  · go_enter Try.func67, Try.ntmps67
    go_wp2_with fail
    go_ret
    exact ⟨rfl, Drawn0.refl _⟩
  · go_enter Try.func67, Try.ntmps67
    go_wp2_with fail
    go_ret
    exact ⟨rfl, Drawn0.refl _⟩
  · go_enter Try.func67, Try.ntmps67
    go_wp2_with fail
    go_ret
    exact ⟨rfl, Drawn0.refl _⟩
  · go_enter Try.func67, Try.ntmps67
    go_wp2_with fail
    go_ret
    exact ⟨rfl, Drawn0.refl _⟩
end Go.Proofs.Ythbjcafldbocpaa
