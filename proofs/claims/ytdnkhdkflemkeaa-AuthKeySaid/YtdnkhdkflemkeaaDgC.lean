/- The digest, evaluated. -/
import Derived.Test.YtdnkhdkflemkeaaDg4
import Derived.KernelRfl
namespace Go.Proofs.Ytdnkhdkflemkeaa.Vt
open Go Go.Proofs Go.Proofs.YtdnkhdkflemkeaaV
set_option maxRecDepth 100000
def wl (f : Nat → BitVec 32) : Nat → List (BitVec 32)
  | 0 => []
  | j + 1 => (match Nat.blt j 16 with
    | true => f j
    | false => rl ((wl f j).getD 2 0 ^^^ (wl f j).getD 7 0 ^^^ (wl f j).getD 13 0 ^^^ (wl f j).getD 15 0) 1) :: wl f j
theorem wl_get (s : ByteArray) : ∀ (m i : Nat), i < m → (wl (word s) m).getD i 0 = wd s (m - 1 - i) := by
  intro m
  induction m with
  | zero => intro i h; omega
  | succ m ih =>
    intro i h
    cases i with
    | zero =>
      show (match Nat.blt m 16 with | true => word s m | false => _) = _
      rw [show m + 1 - 1 - 0 = m by omega]
      rcases Nat.lt_or_ge m 16 with h16 | h16
      · rw [show Nat.blt m 16 = true from Nat.ble_eq_true_of_le h16, wd_lo h16]
      · have : Nat.blt m 16 = false := by
          cases hb : Nat.blt m 16 with
          | false => rfl
          | true => have : m < 16 := Nat.le_of_ble_eq_true hb; omega
        rw [this, wd_hi h16]
        simp only
        rw [ih 2 (by omega), ih 7 (by omega), ih 13 (by omega), ih 15 (by omega)]
        rw [show m - 1 - 2 = m - 3 by omega, show m - 1 - 7 = m - 8 by omega, show m - 1 - 13 = m - 14 by omega, show m - 1 - 15 = m - 16 by omega]
    | succ i =>
      show (wl (word s) m).getD i 0 = _
      rw [ih i (by omega)]
      congr 1
      omega
def wdC (s : ByteArray) (j : Nat) : BitVec 32 := (wl (word s) (j + 1)).getD 0 0
theorem wdC_eq (s : ByteArray) : wd s = wdC s := by
  funext j
  rw [wdC, wl_get s (j + 1) 0 (by omega)]
  rfl
def blkC (h : H5) (s : ByteArray) : H5 := ⟨h.a + (rd (wdC s) h 80).a, h.b + (rd (wdC s) h 80).b, h.c + (rd (wdC s) h 80).c, h.d + (rd (wdC s) h 80).d, h.e + (rd (wdC s) h 80).e⟩
def hsC (t : ByteArray) : Nat → H5
  | 0 => h0
  | k + 1 => blkC (hsC t k) (bstr (((L t).drop (64 * k)).take 64))
theorem hsC_eq (t : ByteArray) : ∀ k, hs t k = hsC t k
  | 0 => rfl
  | k + 1 => by
    rw [hs, hsC, hsC_eq t k]
    have : t.extract (64 * k) (64 * k + 64) = bstr (((L t).drop (64 * k)).take 64) := by
      apply L_ext
      rw [L_extract, L_bstr]
      congr 1
      omega
    rw [this]
    unfold blk blkC
    rw [wdC_eq]
def paddedC (l : List UInt8) : ByteArray := bstr (l ++ [128] ++ List.replicate ((119 - l.length % 64) % 64) 0 ++ be8 (l.length * 8))
def shaC (l : List UInt8) : ByteArray := out5 (hsC (paddedC l) ((paddedC l).data.toList.length / 64))
theorem shaC_eq (s : ByteArray) : sha s = shaC (L s) := by
  have h : padded s = paddedC (L s) := by
    apply L_ext
    rw [padded, paddedC, L_append, L_append, L_append, L_bstr, L_bstr, L_bstr, L_len]
  rw [sha, shaC, ← hsC_eq, ← h]
  rw [show (padded s).data.toList.length = (padded s).size from L_len _]
theorem abc : shaC [97, 98, 99] = ⟨#[0xa9, 0x99, 0x3e, 0x36, 0x47, 0x06, 0x81, 0x6a, 0xba, 0x3e, 0x25, 0x71, 0x78, 0x50, 0xc2, 0x6c, 0x9c, 0xd0, 0xd8, 0x9d]⟩ := by kernel_rfl
end Go.Proofs.Ytdnkhdkflemkeaa.Vt
