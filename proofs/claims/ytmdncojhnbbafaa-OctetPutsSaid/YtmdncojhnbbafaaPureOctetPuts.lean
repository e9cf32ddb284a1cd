/- OctetPuts: numbers as bytes are the document's, and so is what fills up: for every number of 64 bits and every string (of which 50 bytes are looked at). No condition. -/
import Derived.Test.YtmdncojhnbbafaaOctet
import Derived.Test.YtmdncojhnbbafaaPAllx16
namespace Go.Proofs.Ytmdncojhnbbafaa.Pure
open Go Go.RowKit Go.Proofs.Ytmdncojhnbbafaa.PAll Go.Proofs.YtmdncojhnbbafaaW.PrintWords Go.Proofs.YtmdncojhnbbafaaW.PrintLast Go.Proofs.Ytmdncojhnbbafaa.Bt Go.Proofs.Ytmdncojhnbbafaa.Oc
theorem awake03 : crosswaylaw03_awake.f 30 = some true := by decide +kernel
theorem OctetPuts : crosswaylaw03_OctetPuts.Pure := by
  intro a0 a1 hw hs
  obtain ⟨h0, h1⟩ := u64_bd hw
  refine ⟨30, ?_⟩
  obtain ⟨l, rfl⟩ : ∃ l, a1 = mk l := ⟨_, eq_mk a1⟩
  rw [size_mk] at hs
  have em : mn (l.length : Int) 50 = ((min l.length 50 : Nat) : Int) := mn_nat l.length 50
  have e1 : wrap64 (Go.bits .and .u64 a0 65535) = a0 % 65536 := by
    have := and_u64 a0 65535 16 rfl (by omega)
    have e : Go.bits .and .u64 a0 65535 = a0 % 65536 := this
    rw [e, w64 (by omega) (by omega)]
  have e2 : wrap64 (Go.bits .and .u64 a0 16777215) = a0 % 16777216 := by
    have := and_u64 a0 16777215 24 rfl (by omega)
    have e : Go.bits .and .u64 a0 16777215 = a0 % 16777216 := this
    rw [e, w64 (by omega) (by omega)]
  have u8 : octet_U8.f (a0 % 65536) = some (mk (be 1 a0)) := by
    rw [U8_eq, show a0 % 65536 % 256 = a0 % 256 by omega]
    rfl
  have u16 : octet_U16.f (a0 % 16777216) = some (mk (be 2 a0)) := by
    rw [U16_eq, be2, be2, show a0 % 16777216 % 256 = a0 % 256 by omega, show a0 % 16777216 / 256 % 256 = a0 / 256 % 256 by omega]
  have u32 : octet_U32.f (a0 % 4294967296) = some (mk (be 4 a0)) := by rw [U32_eq, be4_mod]
  have p1 := Put_eq 1 30 a0 (by omega) (by omega) h0 h1
  have p2 := Put_eq 2 30 a0 (by omega) (by omega) h0 h1
  have p4 := Put_eq 4 30 a0 (by omega) (by omega) h0 h1
  have p8 := Put_eq 8 30 a0 (by omega) (by omega) h0 h1
  simp only [Int.cast_ofNat_Int] at p1 p2 p4 p8
  have ex : (mk l).extract 0 ((min l.length 50 : Nat) : Int).toNat = mk (l.take 50) := by
    rw [extract_mk, Int.toNat_natCast, List.drop_zero]
    congr 1
    rcases Nat.le_total l.length 50 with h | h
    · rw [Nat.min_eq_left h, List.take_of_length_le (by omega), List.take_of_length_le (by omega)]
    · rw [Nat.min_eq_right h]
  have hl : (l.take 50).length ≤ 50 := by rw [List.length_take]; omega
  have f1 := Filled_eq (l.take 50) (by omega)
  have f2 := refFilled 30 (l.take 50) (by omega) (by omega)
  have pd := Pad_eq (l.take 50).length (by omega)
  have hw2 : wrap64 (((l.take 50).length : Int) + ((fills (l.take 50).length : Nat) : Int)) = (((fill (l.take 50)).length : Nat) : Int) := by
    rw [fill_length]
    have := fills_le (l.take 50).length
    rw [w64 (by omega) (by omega)]
    omega
  unfold crosswaylaw03_OctetPuts.f
  rw [size_mk, em, if_pos (by omega), if_pos (by omega), ex, awake03, e1, e2, u8, u16, u32, U64_eq]
  simp only [Option.bind_some, if_true, p1, p2, p4, p8, f1, f2, size_mk, pd, hw2, beq_self_eq_true]
end Go.Proofs.Ytmdncojhnbbafaa.Pure
