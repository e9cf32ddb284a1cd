/- Rd: walks through functions of the program, by the calculus; written by a program of this workplace. -/
import Derived.Test.YtgajcmanompmcaaEnv
import Derived.Test.YtgajcmanompmcaaVm6
namespace Go.Proofs.Ytgajcmanompmcaa.Vt
open Go Go.Proofs Go.Proofs.YtgajcmanompmcaaV
set_option maxRecDepth 100000
set_option linter.unusedVariables false
set_option linter.unusedSimpArgs false
def beN (l : List UInt8) : Nat := l.foldl (fun a b => a * 256 + b.toNat) 0
theorem beN_snoc (l : List UInt8) (b : UInt8) : beN (l ++ [b]) = beN l * 256 + b.toNat := by unfold beN; rw [List.foldl_append]; rfl
theorem beN_take (s : ByteArray) (i : Nat) (h : i < s.size) : beN ((L s).take (i + 1)) = beN ((L s).take i) * 256 + (s.get! i).toNat := by
  rw [List.take_add_one, L_get s i h]
  exact beN_snoc _ _
def at_ (v : ByteArray) (p k : Nat) : Nat := beN (((L v).drop p).take k)
def w32 (v : ByteArray) (p : Nat) : BitVec 32 := BitVec.ofNat 32 (at_ v p 4)
theorem ext_pos (v : ByteArray) (p k : Nat) (h : p + k ≤ v.size) : (v.extract p v.size).extract k (v.extract p v.size).size = v.extract (p + k) v.size := by
  apply L_ext
  rw [L_extract, L_extract, L_extract, size_cut _ _ _ (Nat.le_refl _), List.drop_take, List.drop_drop, List.take_take]
  congr 1
  omega
theorem ext_cut (v : ByteArray) (p k : Nat) (h : p + k ≤ v.size) : (v.extract p v.size).extract 0 k = v.extract p (p + k) := by
  apply L_ext
  rw [L_extract, L_extract, L_extract, List.drop_zero, List.take_take]
  congr 1
  omega
theorem beN_pos (v : ByteArray) (p k : Nat) (h : p + k ≤ v.size) : beN ((L (v.extract p v.size)).take k) = at_ v p k := by
  rw [at_, L_extract, List.take_take]
  congr 2
  omega
theorem ext_all (v : ByteArray) : v.extract 0 v.size = v := by
  apply L_ext; rw [L_extract, List.drop_zero, List.take_of_length_le (by rw [L_len]; omega)]
theorem beN_lt (l : List UInt8) : beN l < 256 ^ l.length := by
  have : ∀ (l : List UInt8) (a : Nat), l.foldl (fun a b => a * 256 + b.toNat) a < (a + 1) * 256 ^ l.length := by
    intro l
    induction l with
    | nil => intro a; simp
    | cons b l ih =>
      intro a
      have h1 := ih (a * 256 + b.toNat)
      have h2 := UInt8.toNat_lt b
      refine Nat.lt_of_lt_of_le h1 ?_
      rw [List.length_cons, Nat.pow_succ, Nat.mul_comm (256 ^ l.length), ← Nat.mul_assoc]
      exact Nat.mul_le_mul_right _ (by omega)
  have h := this l 0
  simpa [beN] using h
theorem at_lt (v : ByteArray) (p k : Nat) : at_ v p k < 256 ^ k := by
  refine Nat.lt_of_lt_of_le (beN_lt _) (Nat.pow_le_pow_right (by decide) ?_)
  rw [List.length_take]; omega
theorem rNew {n : Nat} {σ : Store} (hd : Dom n σ) (s : ByteArray)   : CQ Try.prog noDen 49 [(.string s)] n σ (fun v n' d => ∃ i, n ≤ i ∧ i < n' ∧ v = .pointer (some ⟨i, 0, some 0⟩) ∧ d = [(i, some ⟨[[(.string (s.extract 0 s.size)), (.int .i64 0)]], 2, 121, true⟩)]) := by
 refine CQ.body (E := env) env_ok hd rfl rfl (by show _ ≤ _; exact of_decide_eq_true (by kernel_rfl)) ?_
 refine RA.seq hd ?_
 refine RA.region env_ok ?_
 refine OA.p (some 2) (.pointer none) rfl rfl rfl rfl ?_
 refine OA.nil ?_
 intro _
 refine RA.seq hd ?_
 refine RA.region env_ok ?_
 refine OA.p (some 3) (.string s) rfl rfl rfl rfl ?_
 refine OA.p (some 4) (.agg ⟨[(.string s), (.int .i64 0)]⟩) rfl rfl rfl (by kernel_rfl) ?_
 refine OA.op1 (dst := (some 5)) (v := (.pointer (some ⟨n, 0, some 0⟩))) (n1 := (n + 1)) (w := (n, some ⟨[[(.string s), (.int .i64 0)]], 2, 121, true⟩)) rfl rfl rfl rfl (by omega) ?_
 refine OA.p (some 2) (.pointer (some ⟨n, 0, some 0⟩)) rfl rfl rfl rfl ?_
 refine OA.nil ?_
 intro _
 refine RA.ret env_ok ?_
 refine ⟨.inr rfl, [(.pointer (some ⟨n, 0, some 0⟩))], (resL_cons rfl resL_nil), [(n, some ⟨[[(.string s), (.int .i64 0)]], 2, 121, true⟩)], (Less.refl _ _ _), ⟨n, by omega, by omega, rfl, by rw [ext_all]⟩⟩

theorem rErr {σ : Store} (r : Nat) (s : ByteArray) (e : Int) (hr : σ r = some ⟨[[(.string s), (.int .i64 e)]], 2, 121, true⟩)  : PS Try.prog noDen 59 [(.pointer (some ⟨r, 0, some 0⟩))] σ (.int .i64 e) := by
 refine PS.body (E := env) env_ok rfl rfl (by show _ ≤ _; exact of_decide_eq_true (by kernel_rfl)) (fun n hd => ?_)
 have lhr := hd.lt hr
 refine RA.seq hd ?_
 refine RA.region env_ok ?_
 refine OA.p (some 2) (.int .i64 0) rfl rfl rfl rfl ?_
 refine OA.nil ?_
 intro _
 refine RA.seq hd ?_
 refine RA.seq hd ?_
 refine RA.region env_ok ?_
 refine OA.p (some 3) (.pointer (some ⟨r, 0, some 0⟩)) rfl rfl rfl rfl ?_
 refine OA.p (some 4) (.bool false) rfl rfl rfl rfl ?_
 refine OA.nil ?_
 intro _
 refine RA.condF rfl ?_
 refine RA.skip env_ok ?_
 intro _
 refine RA.seq hd ?_
 refine RA.region env_ok ?_
 refine OA.p (some 5) (.pointer (some ⟨r, 0, some 0⟩)) rfl rfl rfl rfl ?_
 refine OA.p (some 6) (.pointer (some ⟨r, 0, some 0⟩)) rfl rfl rfl rfl ?_
 refine OA.p (some 7) (.pointer (some ⟨r, 0, some 1⟩)) rfl rfl rfl rfl ?_
 refine OA.p (some 8) (.int .i64 e) rfl rfl rfl (r_load1 rfl rfl rfl rfl rfl hr rfl rfl) ?_
 refine OA.p (some 2) (.int .i64 e) rfl rfl rfl rfl ?_
 refine OA.nil ?_
 intro _
 refine RA.ret env_ok ?_
 refine ⟨.inr rfl, [(.int .i64 e)], (resL_cons rfl resL_nil), rfl, (fun i hi => by cases hi)⟩

theorem rFail {n : Nat} {σ : Store} (hd : Dom n σ) (r : Nat) (s : ByteArray) (e : Int) (hr : σ r = some ⟨[[(.string s), (.int .i64 0)]], 2, 121, true⟩)  : CQ Try.prog noDen 87 [(.pointer (some ⟨r, 0, some 0⟩)), (.int .i64 e)] n σ (fun v n' d => v = .tuple #[] ∧ d = [(r, some ⟨[[(.string s), (.int .i64 e)]], 2, 121, true⟩)]) := by
 have lhr := hd.lt hr
 refine CQ.body (E := env) env_ok hd rfl rfl (by show _ ≤ _; exact of_decide_eq_true (by kernel_rfl)) ?_
 refine RA.seq hd ?_
 refine RA.region env_ok ?_
 refine OA.p (some 4) (.pointer (some ⟨r, 0, some 0⟩)) rfl rfl rfl rfl ?_
 refine OA.p (some 5) (.bool true) rfl rfl rfl rfl ?_
 refine OA.p (some 6) (.bool true) rfl rfl rfl rfl ?_
 refine OA.p (some 7) (.pointer (some ⟨r, 0, some 0⟩)) rfl rfl rfl rfl ?_
 refine OA.p (some 8) (.pointer (some ⟨r, 0, some 0⟩)) rfl rfl rfl rfl ?_
 refine OA.p (some 9) (.pointer (some ⟨r, 0, some 1⟩)) rfl rfl rfl rfl ?_
 refine OA.p (some 10) (.int .i64 0) rfl rfl rfl (r_load1 rfl rfl rfl rfl rfl hr rfl rfl) ?_
 refine OA.p (some 11) (.bool true) rfl rfl rfl (r_bin rfl rfl rfl (b_eql rfl)) ?_
 refine OA.p (some 12) (.bool true) rfl rfl rfl rfl ?_
 refine OA.nil ?_
 intro _
 refine RA.condT rfl ?_
 refine RA.region env_ok ?_
 refine OA.p (some 13) (.pointer (some ⟨r, 0, some 0⟩)) rfl rfl rfl rfl ?_
 refine OA.p (some 14) (.int .i64 e) rfl rfl rfl rfl ?_
 refine OA.p (some 15) (.pointer (some ⟨r, 0, some 0⟩)) rfl rfl rfl rfl ?_
 refine OA.p (some 16) (.pointer (some ⟨r, 0, some 1⟩)) rfl rfl rfl rfl ?_
 refine OA.op1 (dst := none) (v := (.tuple #[])) (n1 := n) (w := (r, some ⟨[[(.string s), (.int .i64 e)]], 2, 121, true⟩)) rfl rfl rfl (r_store rfl rfl rfl rfl rfl rfl rfl hr rfl rfl (Nat.le_of_ble_eq_true rfl) rfl) (by omega) ?_
 refine OA.nil ?_
 refine ⟨.inl rfl, [], resL_nil, [(r, some ⟨[[(.string s), (.int .i64 e)]], 2, 121, true⟩)], (Less.refl _ _ _), ⟨rfl, rfl⟩⟩

theorem rFail2 {n : Nat} {σ : Store} (hd : Dom n σ) (r : Nat) (s : ByteArray) (e : Int) (hr : σ r = some ⟨[[(.string s), (.int .i64 2)]], 2, 121, true⟩)  : CQ Try.prog noDen 87 [(.pointer (some ⟨r, 0, some 0⟩)), (.int .i64 e)] n σ (fun v n' d => v = .tuple #[] ∧ d = []) := by
 have lhr := hd.lt hr
 refine CQ.body (E := env) env_ok hd rfl rfl (by show _ ≤ _; exact of_decide_eq_true (by kernel_rfl)) ?_
 refine RA.seq hd ?_
 refine RA.region env_ok ?_
 refine OA.p (some 4) (.pointer (some ⟨r, 0, some 0⟩)) rfl rfl rfl rfl ?_
 refine OA.p (some 5) (.bool true) rfl rfl rfl rfl ?_
 refine OA.p (some 6) (.bool true) rfl rfl rfl rfl ?_
 refine OA.p (some 7) (.pointer (some ⟨r, 0, some 0⟩)) rfl rfl rfl rfl ?_
 refine OA.p (some 8) (.pointer (some ⟨r, 0, some 0⟩)) rfl rfl rfl rfl ?_
 refine OA.p (some 9) (.pointer (some ⟨r, 0, some 1⟩)) rfl rfl rfl rfl ?_
 refine OA.p (some 10) (.int .i64 2) rfl rfl rfl (r_load1 rfl rfl rfl rfl rfl hr rfl rfl) ?_
 refine OA.p (some 11) (.bool false) rfl rfl rfl (r_bin rfl rfl rfl (b_eql rfl)) ?_
 refine OA.p (some 12) (.bool false) rfl rfl rfl rfl ?_
 refine OA.nil ?_
 intro _
 refine RA.condF rfl ?_
 refine RA.skip env_ok ?_
 refine ⟨.inl rfl, [], resL_nil, [], (Less.refl _ _ _), ⟨rfl, rfl⟩⟩

theorem rTake {n : Nat} {σ : Store} (hd : Dom n σ) (r : Nat) (s : ByteArray) (k : Nat) (hk : k ≤ s.size) (hs : s.size < 4294967296) (hr : σ r = some ⟨[[(.string s), (.int .i64 0)]], 2, 121, true⟩)  : CQ Try.prog noDen 88 [(.pointer (some ⟨r, 0, some 0⟩)), (.int .i64 ((k : Nat) : Int))] n σ (fun v n' d => v = .string (s.extract 0 k) ∧ d = [(r, some ⟨[[(.string (s.extract k s.size)), (.int .i64 0)]], 2, 121, true⟩)]) := by
 have lhr := hd.lt hr
 refine CQ.body (E := env) env_ok hd rfl rfl (by show _ ≤ _; exact of_decide_eq_true (by kernel_rfl)) ?_
 refine RA.seq hd ?_
 refine RA.region env_ok ?_
 refine OA.p (some 4) (.string (ByteArray.mk #[])) rfl rfl rfl rfl ?_
 refine OA.nil ?_
 intro _
 refine RA.seq hd ?_
 refine RA.seq hd ?_
 refine RA.region env_ok ?_
 refine OA.p (some 6) (.pointer (some ⟨r, 0, some 0⟩)) rfl rfl rfl rfl ?_
 refine OA.callP (dst := (some 7)) (all := [(.pointer (some ⟨r, 0, some 0⟩))]) (v := (.int .i64 0)) (hd.up (by omega)) rfl rfl rfl rfl rfl rfl rfl rfl (rErr r _ 0 hr) ?_
 intro n1 hn1
 refine OA.p (some 8) (.bool false) rfl rfl rfl (r_bin rfl rfl rfl (b_neq rfl)) ?_
 refine OA.p (some 9) (.bool false) rfl rfl rfl rfl ?_
 refine OA.p (some 10) (.int .i64 ((k : Nat) : Int)) rfl rfl rfl rfl ?_
 have hc1 : ¬ (((k : Nat) : Int) < 0) := fun hdd => by exfalso; omega
 refine OA.p (some 11) (.bool false) rfl rfl rfl (Eq.trans (r_bin rfl rfl rfl (b_lss rfl)) (dF hc1)) ?_
 refine OA.p (some 12) (.bool false) rfl rfl rfl rfl ?_
 refine OA.p (some 13) (.bool false) rfl rfl rfl rfl ?_
 refine OA.p (some 14) (.int .i64 ((k : Nat) : Int)) rfl rfl rfl rfl ?_
 refine OA.p (some 15) (.pointer (some ⟨r, 0, some 0⟩)) rfl rfl rfl rfl ?_
 refine OA.p (some 16) (.pointer (some ⟨r, 0, some 0⟩)) rfl rfl rfl rfl ?_
 refine OA.p (some 17) (.pointer (some ⟨r, 0, some 0⟩)) rfl rfl rfl rfl ?_
 refine OA.p (some 18) (.string s) rfl rfl rfl (r_load1 rfl rfl rfl rfl rfl hr rfl rfl) ?_
 refine OA.p (some 19) (.int .i64 ((s.size : Nat) : Int)) rfl rfl rfl rfl ?_
 have hc2 : ¬ (((s.size : Nat) : Int) < ((k : Nat) : Int)) := fun hdd => by exfalso; omega
 refine OA.p (some 20) (.bool false) rfl rfl rfl (Eq.trans (r_bin rfl rfl rfl (b_gtr rfl)) (dF hc2)) ?_
 refine OA.p (some 21) (.bool false) rfl rfl rfl rfl ?_
 refine OA.nil ?_
 intro _
 refine RA.condF rfl ?_
 refine RA.skip env_ok ?_
 intro _
 refine RA.seq hd ?_
 refine RA.region env_ok ?_
 refine OA.p (some 24) (.pointer (some ⟨r, 0, some 0⟩)) rfl rfl rfl rfl ?_
 refine OA.p (some 25) (.pointer (some ⟨r, 0, some 0⟩)) rfl rfl rfl rfl ?_
 refine OA.p (some 26) (.pointer (some ⟨r, 0, some 0⟩)) rfl rfl rfl rfl ?_
 refine OA.p (some 27) (.string s) rfl rfl rfl (r_load1 rfl rfl rfl rfl rfl hr rfl rfl) ?_
 refine OA.p (some 28) (.int .i64 ((k : Nat) : Int)) rfl rfl rfl rfl ?_
 refine OA.p (some 29) (.string (s.extract 0 k)) rfl rfl rfl (r_cut (a := 0) (b := k) rfl rfl (fun _ => rfl) (fun _ => rfl) rfl rfl rfl bound_nat (by omega) (by omega) rfl) ?_
 refine OA.p (some 5) (.string (s.extract 0 k)) rfl rfl rfl rfl ?_
 refine OA.nil ?_
 intro _
 refine RA.seq hd ?_
 refine RA.region env_ok ?_
 refine OA.p (some 30) (.pointer (some ⟨r, 0, some 0⟩)) rfl rfl rfl rfl ?_
 refine OA.p (some 31) (.pointer (some ⟨r, 0, some 0⟩)) rfl rfl rfl rfl ?_
 refine OA.p (some 32) (.pointer (some ⟨r, 0, some 0⟩)) rfl rfl rfl rfl ?_
 refine OA.p (some 33) (.pointer (some ⟨r, 0, some 0⟩)) rfl rfl rfl rfl ?_
 refine OA.p (some 34) (.string s) rfl rfl rfl (r_load1 rfl rfl rfl rfl rfl hr rfl rfl) ?_
 refine OA.p (some 35) (.int .i64 ((k : Nat) : Int)) rfl rfl rfl rfl ?_
 refine OA.p (some 36) (.string (s.extract k s.size)) rfl rfl rfl (r_cut (a := k) (b := s.size) rfl rfl (fun _ => rfl) (fun _ => rfl) rfl rfl bound_nat rfl (by omega) (by omega) rfl) ?_
 refine OA.p (some 37) (.pointer (some ⟨r, 0, some 0⟩)) rfl rfl rfl rfl ?_
 refine OA.p (some 38) (.pointer (some ⟨r, 0, some 0⟩)) rfl rfl rfl rfl ?_
 refine OA.op1 (dst := none) (v := (.tuple #[])) (n1 := n1) (w := (r, some ⟨[[(.string (s.extract k s.size)), (.int .i64 0)]], 2, 121, true⟩)) rfl rfl rfl (r_store rfl rfl rfl rfl rfl rfl rfl hr rfl rfl (Nat.le_of_ble_eq_true rfl) rfl) (by omega) ?_
 refine OA.nil ?_
 intro _
 refine RA.rebase [(0, (.pointer (some ⟨r, 0, some 0⟩))), (1, (.int .i64 ((k : Nat) : Int))), (4, (.string (ByteArray.mk #[]))), (5, (.string (s.extract 0 k))), (21, (.bool false))] ⟨rfl, rfl, rfl, rfl, rfl, trivial⟩ (fun τr2 => ?_)
 refine RA.seq hd ?_
 refine RA.region env_ok ?_
 refine OA.p (some 39) (.string (s.extract 0 k)) rfl rfl rfl rfl ?_
 refine OA.p (some 4) (.string (s.extract 0 k)) rfl rfl rfl rfl ?_
 refine OA.nil ?_
 intro _
 refine RA.ret env_ok ?_
 refine ⟨.inr rfl, [(.string (s.extract 0 k))], (resL_cons rfl resL_nil), [(r, some ⟨[[(.string (s.extract k s.size)), (.int .i64 0)]], 2, 121, true⟩)], (Less.refl _ _ _), ⟨rfl, rfl⟩⟩

theorem rTakeS {n : Nat} {σ : Store} (hd : Dom n σ) (r : Nat) (s : ByteArray) (k : Nat) (hk : ¬ k ≤ s.size) (hr : σ r = some ⟨[[(.string s), (.int .i64 0)]], 2, 121, true⟩)  : CQ Try.prog noDen 88 [(.pointer (some ⟨r, 0, some 0⟩)), (.int .i64 ((k : Nat) : Int))] n σ (fun v n' d => v = .string (ByteArray.mk #[]) ∧ d = [(r, some ⟨[[(.string s), (.int .i64 2)]], 2, 121, true⟩)]) := by
 have lhr := hd.lt hr
 refine CQ.body (E := env) env_ok hd rfl rfl (by show _ ≤ _; exact of_decide_eq_true (by kernel_rfl)) ?_
 refine RA.seq hd ?_
 refine RA.region env_ok ?_
 refine OA.p (some 4) (.string (ByteArray.mk #[])) rfl rfl rfl rfl ?_
 refine OA.nil ?_
 intro _
 refine RA.seq hd ?_
 refine RA.seq hd ?_
 refine RA.region env_ok ?_
 refine OA.p (some 6) (.pointer (some ⟨r, 0, some 0⟩)) rfl rfl rfl rfl ?_
 refine OA.callP (dst := (some 7)) (all := [(.pointer (some ⟨r, 0, some 0⟩))]) (v := (.int .i64 0)) (hd.up (by omega)) rfl rfl rfl rfl rfl rfl rfl rfl (rErr r _ 0 hr) ?_
 intro n1 hn1
 refine OA.p (some 8) (.bool false) rfl rfl rfl (r_bin rfl rfl rfl (b_neq rfl)) ?_
 refine OA.p (some 9) (.bool false) rfl rfl rfl rfl ?_
 refine OA.p (some 10) (.int .i64 ((k : Nat) : Int)) rfl rfl rfl rfl ?_
 have hc1 : ¬ (((k : Nat) : Int) < 0) := fun hdd => by exfalso; omega
 refine OA.p (some 11) (.bool false) rfl rfl rfl (Eq.trans (r_bin rfl rfl rfl (b_lss rfl)) (dF hc1)) ?_
 refine OA.p (some 12) (.bool false) rfl rfl rfl rfl ?_
 refine OA.p (some 13) (.bool false) rfl rfl rfl rfl ?_
 refine OA.p (some 14) (.int .i64 ((k : Nat) : Int)) rfl rfl rfl rfl ?_
 refine OA.p (some 15) (.pointer (some ⟨r, 0, some 0⟩)) rfl rfl rfl rfl ?_
 refine OA.p (some 16) (.pointer (some ⟨r, 0, some 0⟩)) rfl rfl rfl rfl ?_
 refine OA.p (some 17) (.pointer (some ⟨r, 0, some 0⟩)) rfl rfl rfl rfl ?_
 refine OA.p (some 18) (.string s) rfl rfl rfl (r_load1 rfl rfl rfl rfl rfl hr rfl rfl) ?_
 refine OA.p (some 19) (.int .i64 ((s.size : Nat) : Int)) rfl rfl rfl rfl ?_
 have hc2 : ((s.size : Nat) : Int) < ((k : Nat) : Int) := Classical.byContradiction (fun hdd => by exfalso; omega)
 refine OA.p (some 20) (.bool true) rfl rfl rfl (Eq.trans (r_bin rfl rfl rfl (b_gtr rfl)) (dT hc2)) ?_
 refine OA.p (some 21) (.bool true) rfl rfl rfl rfl ?_
 refine OA.nil ?_
 intro _
 refine RA.condT rfl ?_
 refine RA.seq hd ?_
 refine RA.region env_ok ?_
 refine OA.p (some 22) (.pointer (some ⟨r, 0, some 0⟩)) rfl rfl rfl rfl ?_
 refine OA.call (dst := (some 23)) (all := [(.pointer (some ⟨r, 0, some 0⟩)), (.int .i64 2)]) rfl rfl rfl rfl rfl rfl rfl rfl (CQ.imp (rFail (hd.up (by omega)) r _ 2 hr) ?_)
 rintro _ n2 _ ⟨rfl, rfl⟩ hn2
 refine OA.app1 ?_
 refine OA.nil ?_
 intro _
 refine RA.seq hd ?_
 refine RA.region env_ok ?_
 refine OA.p (some 4) (.string (ByteArray.mk #[])) rfl rfl rfl rfl ?_
 refine OA.nil ?_
 intro _
 refine RA.ret env_ok ?_
 refine ⟨.inr rfl, [(.string (ByteArray.mk #[]))], (resL_cons rfl resL_nil), [(r, some ⟨[[(.string s), (.int .i64 2)]], 2, 121, true⟩)], (Less.refl _ _ _), ⟨rfl, rfl⟩⟩

theorem rTakeD {n : Nat} {σ : Store} (hd : Dom n σ) (r : Nat) (s : ByteArray) (k : Nat) (hr : σ r = some ⟨[[(.string s), (.int .i64 2)]], 2, 121, true⟩)  : CQ Try.prog noDen 88 [(.pointer (some ⟨r, 0, some 0⟩)), (.int .i64 ((k : Nat) : Int))] n σ (fun v n' d => v = .string (ByteArray.mk #[]) ∧ d = []) := by
 have lhr := hd.lt hr
 refine CQ.body (E := env) env_ok hd rfl rfl (by show _ ≤ _; exact of_decide_eq_true (by kernel_rfl)) ?_
 refine RA.seq hd ?_
 refine RA.region env_ok ?_
 refine OA.p (some 4) (.string (ByteArray.mk #[])) rfl rfl rfl rfl ?_
 refine OA.nil ?_
 intro _
 refine RA.seq hd ?_
 refine RA.seq hd ?_
 refine RA.region env_ok ?_
 refine OA.p (some 6) (.pointer (some ⟨r, 0, some 0⟩)) rfl rfl rfl rfl ?_
 refine OA.callP (dst := (some 7)) (all := [(.pointer (some ⟨r, 0, some 0⟩))]) (v := (.int .i64 2)) (hd.up (by omega)) rfl rfl rfl rfl rfl rfl rfl rfl (rErr r _ 2 hr) ?_
 intro n1 hn1
 refine OA.p (some 8) (.bool true) rfl rfl rfl (r_bin rfl rfl rfl (b_neq rfl)) ?_
 refine OA.p (some 9) (.bool true) rfl rfl rfl rfl ?_
 refine OA.off (dst := (some 10)) rfl rfl rfl ?_
 refine OA.off (dst := (some 11)) rfl rfl rfl ?_
 refine OA.p (some 12) (.bool true) rfl rfl rfl rfl ?_
 refine OA.p (some 13) (.bool true) rfl rfl rfl rfl ?_
 refine OA.off (dst := (some 14)) rfl rfl rfl ?_
 refine OA.off (dst := (some 15)) rfl rfl rfl ?_
 refine OA.off (dst := (some 16)) rfl rfl rfl ?_
 refine OA.off (dst := (some 17)) rfl rfl rfl ?_
 refine OA.off (dst := (some 18)) rfl rfl rfl ?_
 refine OA.off (dst := (some 19)) rfl rfl rfl ?_
 refine OA.off (dst := (some 20)) rfl rfl rfl ?_
 refine OA.p (some 21) (.bool true) rfl rfl rfl rfl ?_
 refine OA.nil ?_
 intro _
 refine RA.condT rfl ?_
 refine RA.seq hd ?_
 refine RA.region env_ok ?_
 refine OA.p (some 22) (.pointer (some ⟨r, 0, some 0⟩)) rfl rfl rfl rfl ?_
 refine OA.call (dst := (some 23)) (all := [(.pointer (some ⟨r, 0, some 0⟩)), (.int .i64 2)]) rfl rfl rfl rfl rfl rfl rfl rfl (CQ.imp (rFail2 (hd.up (by omega)) r _ 2 hr) ?_)
 rintro _ n2 _ ⟨rfl, rfl⟩ hn2
 refine OA.app0 ?_
 refine OA.nil ?_
 intro _
 refine RA.seq hd ?_
 refine RA.region env_ok ?_
 refine OA.p (some 4) (.string (ByteArray.mk #[])) rfl rfl rfl rfl ?_
 refine OA.nil ?_
 intro _
 refine RA.ret env_ok ?_
 refine ⟨.inr rfl, [(.string (ByteArray.mk #[]))], (resL_cons rfl resL_nil), [], (Less.refl _ _ _), ⟨rfl, rfl⟩⟩

theorem rNum {n : Nat} {σ : Store} (hd : Dom n σ) (r : Nat) (s : ByteArray) (k : Nat) (hk : k ≤ s.size) (hk8 : k ≤ 8) (hs : s.size < 4294967296) (hr : σ r = some ⟨[[(.string s), (.int .i64 0)]], 2, 121, true⟩)  : CQ Try.prog noDen 93 [(.pointer (some ⟨r, 0, some 0⟩)), (.int .i64 ((k : Nat) : Int))] n σ (fun v n' d => v = .int .u64 ((beN ((L s).take k) : Nat) : Int) ∧ d = [(r, some ⟨[[(.string (s.extract k s.size)), (.int .i64 0)]], 2, 121, true⟩)]) := by
 have lhr := hd.lt hr
 refine CQ.body (E := env) env_ok hd rfl rfl (by show _ ≤ _; exact of_decide_eq_true (by kernel_rfl)) ?_
 refine RA.seq hd ?_
 refine RA.region env_ok ?_
 refine OA.p (some 4) (.int .u64 0) rfl rfl rfl rfl ?_
 refine OA.nil ?_
 intro _
 refine RA.seq hd ?_
 refine RA.region env_ok ?_
 refine OA.p (some 5) (.int .u64 0) rfl rfl rfl rfl ?_
 refine OA.nil ?_
 intro _
 refine RA.seq hd ?_
 refine RA.region env_ok ?_
 refine OA.p (some 8) (.pointer (some ⟨r, 0, some 0⟩)) rfl rfl rfl rfl ?_
 refine OA.p (some 9) (.int .i64 ((k : Nat) : Int)) rfl rfl rfl rfl ?_
 refine OA.call (dst := (some 10)) (all := [(.pointer (some ⟨r, 0, some 0⟩)), (.int .i64 ((k : Nat) : Int))]) rfl rfl rfl rfl rfl rfl rfl rfl (CQ.imp (rTake (hd.up (by omega)) r s k hk hs hr) ?_)
 rintro _ n1 _ ⟨rfl, rfl⟩ hn1
 refine OA.app1 ?_
 refine OA.p (some 6) (.string (s.extract 0 k)) rfl rfl rfl rfl ?_
 refine OA.nil ?_
 intro _
 refine RA.seq hd ?_
 refine RA.seq hd ?_
 refine RA.region env_ok ?_
 refine OA.p (some 11) (.string (s.extract 0 k)) rfl rfl rfl rfl ?_
 refine OA.p (some 12) (.int .i64 (((s.extract 0 k).size : Nat) : Int)) rfl rfl rfl rfl ?_
 refine OA.p (some 13) (.int .i64 0) rfl rfl rfl rfl ?_
 refine OA.nil ?_
 intro _
 refine RA.block ?_
 have hks : (s.extract 0 k).size = k := by rw [size_cut _ _ _ hk]; rfl
 refine RA.loop hd (fun kk_ τ n' D => ∃ i : Nat, ∃ m : Nat,  kk_ = (k - i) ∧ n1 ≤ n' ∧ Has τ [(5, (.int .u64 ((m : Nat) : Int))), (6, (.string (s.extract 0 k))), (12, (.int .i64 (((s.extract 0 k).size : Nat) : Int))), (13, (.int .i64 ((i : Nat) : Int)))] ∧ D = [(r, some ⟨[[(.string (s.extract k s.size)), (.int .i64 0)]], 2, 121, true⟩)] ∧ (∀ i ∈ keys D, i < n') ∧ i ≤ k ∧ m = beN ((L (s.extract 0 k)).take i) ∧ m < 256 ^ i) ((k - 0)) ⟨0, 0, rfl, by omega, ⟨rfl, rfl, rfl, rfl, trivial⟩, rfl, (kb1 (by omega)), ⟨by omega, rfl, by decide⟩⟩ ?_
 rintro kn2 τ2 n2 _ ⟨i, m, rfl, hn2, hHn2, rfl, hKn2, hIn2⟩
 rw [Has.eq hHn2]
 have hKn2_0 : r < n2 := hKn2 _ (by simp only [keys, List.map_cons, List.map_nil, List.mem_cons, true_or, or_true])
 simp only [keys, List.map, List.forall_mem_cons, List.mem_cons, List.not_mem_nil, false_imp_iff, implies_true, and_true] at hKn2
 obtain ⟨hi, hm, hb⟩ := hIn2
 have hb2 : i < k → m < 72057594037927936 := fun h => Nat.lt_of_lt_of_le hb (Nat.pow_le_pow_right (n := 256) (j := 7) (by decide) (by omega))
 refine RA.seq hd ?_
 refine RA.region env_ok ?_
 by_cases hc1 : ((i : Nat) : Int) < (((s.extract 0 k).size : Nat) : Int)
 ·
  refine OA.p (some 14) (.bool true) rfl rfl rfl (Eq.trans (r_bin rfl rfl rfl (b_lss rfl)) (dT hc1)) ?_
  refine OA.nil ?_
  intro _
  refine RA.seq hd ?_
  refine RA.condT rfl ?_
  refine RA.skip env_ok ?_
  intro _
  refine RA.seq hd ?_
  refine RA.block ?_
  refine RA.seq hd ?_
  refine RA.region env_ok ?_
  refine OA.p (some 15) (.int .i64 ((i : Nat) : Int)) rfl rfl rfl rfl ?_
  refine OA.p (some 7) (.int .i64 ((i : Nat) : Int)) rfl rfl rfl rfl ?_
  refine OA.nil ?_
  intro _
  refine RA.region env_ok ?_
  refine OA.p (some 16) (.int .u64 ((m : Nat) : Int)) rfl rfl rfl rfl ?_
  refine OA.p (some 17) (.int .u64 (((m * 256) : Nat) : Int)) rfl rfl rfl (r_bin rfl rfl rfl (b_shl8 (a := m) (by omega))) ?_
  refine OA.p (some 18) (.string (s.extract 0 k)) rfl rfl rfl rfl ?_
  refine OA.p (some 19) (.int .i64 ((i : Nat) : Int)) rfl rfl rfl rfl ?_
  refine OA.p (some 20) (.int .u8 (((s.extract 0 k).get! i).toNat : Nat)) rfl rfl rfl (r_idxS (l := i) rfl rfl rfl rfl rfl (by omega) (by omega)) ?_
  refine OA.p (some 21) (.int .u64 ((((s.extract 0 k).get! i).toNat : Nat) : Int)) rfl rfl rfl (r_cvt rfl rfl rfl rfl rfl ⟨_, rfl⟩ (u64_eq (by have := UInt8.toNat_lt ((s.extract 0 k).get! i); omega))) ?_
  refine OA.p (some 22) (.int .u64 (((m * 256 + ((s.extract 0 k).get! i).toNat) : Nat) : Int)) rfl rfl rfl (r_bin rfl rfl rfl (b_or8 (a := m) (c := ((s.extract 0 k).get! i).toNat) (by omega) (UInt8.toNat_lt _))) ?_
  refine OA.p (some 5) (.int .u64 (((m * 256 + ((s.extract 0 k).get! i).toNat) : Nat) : Int)) rfl rfl rfl rfl ?_
  refine OA.nil ?_
  intro _
  refine RA.region env_ok ?_
  refine OA.p (some 23) (.int .i64 (((i + 1) : Nat) : Int)) rfl rfl rfl (r_bin rfl rfl rfl (b_add (i64_eq (by omega)))) ?_
  refine OA.p (some 13) (.int .i64 (((i + 1) : Nat) : Int)) rfl rfl rfl rfl ?_
  refine OA.nil ?_
  refine ⟨(k - (i + 1)), by omega, [(r, some ⟨[[(.string (s.extract k s.size)), (.int .i64 0)]], 2, 121, true⟩)], (Less.refl _ _ _), (i + 1), (m * 256 + ((s.extract 0 k).get! i).toNat), rfl, by omega, ⟨rfl, rfl, rfl, rfl, trivial⟩, rfl, (kb1 (by omega)), ⟨by omega, by rw [beN_take _ _ (by omega), hm], by have := UInt8.toNat_lt ((s.extract 0 k).get! i); rw [Nat.pow_succ]; omega⟩⟩
 ·
  refine OA.p (some 14) (.bool false) rfl rfl rfl (Eq.trans (r_bin rfl rfl rfl (b_lss rfl)) (dF hc1)) ?_
  refine OA.nil ?_
  intro _
  refine RA.seq hd ?_
  refine RA.condF rfl ?_
  refine RA.exit env_ok ?_
  intro _
  refine RA.seq hd ?_
  refine RA.region env_ok ?_
  refine OA.p (some 24) (.int .u64 ((m : Nat) : Int)) rfl rfl rfl rfl ?_
  refine OA.p (some 4) (.int .u64 ((m : Nat) : Int)) rfl rfl rfl rfl ?_
  refine OA.nil ?_
  intro _
  refine RA.ret env_ok ?_
  refine ⟨.inr rfl, [(.int .u64 ((m : Nat) : Int))], (resL_cons rfl resL_nil), [(r, some ⟨[[(.string (s.extract k s.size)), (.int .i64 0)]], 2, 121, true⟩)], (Less.refl _ _ _), ⟨by rw [one, hm, show i = k from by omega, List.take_of_length_le (by rw [L_len]; omega), L_extract, List.drop_zero]; rfl, rfl⟩⟩

theorem rNumP {n : Nat} {σ : Store} (hd : Dom n σ) (r : Nat) (s : ByteArray) (p k : Nat) (hk : p + k ≤ s.size) (hk8 : k ≤ 8) (hs : s.size < 4294967296) (hr : σ r = some ⟨[[(.string (s.extract p s.size)), (.int .i64 0)]], 2, 121, true⟩) : CQ Try.prog noDen 93 [(.pointer (some ⟨r, 0, some 0⟩)), (.int .i64 ((k : Nat) : Int))] n σ (fun v n' d => v = .int .u64 ((at_ s p k : Nat) : Int) ∧ d = [(r, some ⟨[[(.string (s.extract (p + k) s.size)), (.int .i64 0)]], 2, 121, true⟩)]) := by
  refine (rNum hd r (s.extract p s.size) k (by rw [size_cut _ _ _ (Nat.le_refl _)]; omega) hk8 (by rw [size_cut _ _ _ (Nat.le_refl _)]; omega) hr).imp fun v n' d h => ?_
  obtain ⟨h1, h2⟩ := h
  rw [h1, h2, beN_pos s p k hk, ext_pos s p k hk]
  exact ⟨rfl, rfl⟩
theorem rTakeP {n : Nat} {σ : Store} (hd : Dom n σ) (r : Nat) (s : ByteArray) (p k : Nat) (hk : p + k ≤ s.size) (hs : s.size < 4294967296) (hr : σ r = some ⟨[[(.string (s.extract p s.size)), (.int .i64 0)]], 2, 121, true⟩) : CQ Try.prog noDen 88 [(.pointer (some ⟨r, 0, some 0⟩)), (.int .i64 ((k : Nat) : Int))] n σ (fun v n' d => v = .string (s.extract p (p + k)) ∧ d = [(r, some ⟨[[(.string (s.extract (p + k) s.size)), (.int .i64 0)]], 2, 121, true⟩)]) := by
  refine (rTake hd r (s.extract p s.size) k (by rw [size_cut _ _ _ (Nat.le_refl _)]; omega) (by rw [size_cut _ _ _ (Nat.le_refl _)]; omega) hr).imp fun v n' d h => ?_
  obtain ⟨h1, h2⟩ := h
  rw [h1, h2, ext_cut s p k hk, ext_pos s p k hk]
  exact ⟨rfl, rfl⟩

theorem rNumS {n : Nat} {σ : Store} (hd : Dom n σ) (r : Nat) (s : ByteArray) (k : Nat) (hk : ¬ k ≤ s.size) (hr : σ r = some ⟨[[(.string s), (.int .i64 0)]], 2, 121, true⟩)  : CQ Try.prog noDen 93 [(.pointer (some ⟨r, 0, some 0⟩)), (.int .i64 ((k : Nat) : Int))] n σ (fun v n' d => v = .int .u64 0 ∧ d = [(r, some ⟨[[(.string s), (.int .i64 2)]], 2, 121, true⟩)]) := by
 have lhr := hd.lt hr
 refine CQ.body (E := env) env_ok hd rfl rfl (by show _ ≤ _; exact of_decide_eq_true (by kernel_rfl)) ?_
 refine RA.seq hd ?_
 refine RA.region env_ok ?_
 refine OA.p (some 4) (.int .u64 0) rfl rfl rfl rfl ?_
 refine OA.nil ?_
 intro _
 refine RA.seq hd ?_
 refine RA.region env_ok ?_
 refine OA.p (some 5) (.int .u64 0) rfl rfl rfl rfl ?_
 refine OA.nil ?_
 intro _
 refine RA.seq hd ?_
 refine RA.region env_ok ?_
 refine OA.p (some 8) (.pointer (some ⟨r, 0, some 0⟩)) rfl rfl rfl rfl ?_
 refine OA.p (some 9) (.int .i64 ((k : Nat) : Int)) rfl rfl rfl rfl ?_
 refine OA.call (dst := (some 10)) (all := [(.pointer (some ⟨r, 0, some 0⟩)), (.int .i64 ((k : Nat) : Int))]) rfl rfl rfl rfl rfl rfl rfl rfl (CQ.imp (rTakeS (hd.up (by omega)) r s k hk hr) ?_)
 rintro _ n1 _ ⟨rfl, rfl⟩ hn1
 refine OA.app1 ?_
 refine OA.p (some 6) (.string (ByteArray.mk #[])) rfl rfl rfl rfl ?_
 refine OA.nil ?_
 intro _
 refine RA.seq hd ?_
 refine RA.seq hd ?_
 refine RA.region env_ok ?_
 refine OA.p (some 11) (.string (ByteArray.mk #[])) rfl rfl rfl rfl ?_
 refine OA.p (some 12) (.int .i64 0) rfl rfl rfl (Eq.trans (show _ = some (Value.int .i64 (((ByteArray.mk #[]).size : Nat) : Int), _, []) from rfl) (by rw [show (ByteArray.mk #[]).size = 0 from rfl] <;> rfl)) ?_
 refine OA.p (some 13) (.int .i64 0) rfl rfl rfl rfl ?_
 refine OA.nil ?_
 intro _
 refine RA.block ?_
 refine RA.unroll hd ?_
 refine RA.seq hd ?_
 refine RA.region env_ok ?_
 refine OA.p (some 14) (.bool false) rfl rfl rfl (r_bin rfl rfl rfl (b_lss rfl)) ?_
 refine OA.nil ?_
 intro _
 refine RA.seq hd ?_
 refine RA.condF rfl ?_
 refine RA.exit env_ok ?_
 intro _
 refine RA.seq hd ?_
 refine RA.region env_ok ?_
 refine OA.p (some 24) (.int .u64 0) rfl rfl rfl rfl ?_
 refine OA.p (some 4) (.int .u64 0) rfl rfl rfl rfl ?_
 refine OA.nil ?_
 intro _
 refine RA.ret env_ok ?_
 refine ⟨.inr rfl, [(.int .u64 0)], (resL_cons rfl resL_nil), [(r, some ⟨[[(.string s), (.int .i64 2)]], 2, 121, true⟩)], (Less.refl _ _ _), ⟨rfl, rfl⟩⟩

theorem rNumD {n : Nat} {σ : Store} (hd : Dom n σ) (r : Nat) (s : ByteArray) (k : Nat)  (hr : σ r = some ⟨[[(.string s), (.int .i64 2)]], 2, 121, true⟩)  : CQ Try.prog noDen 93 [(.pointer (some ⟨r, 0, some 0⟩)), (.int .i64 ((k : Nat) : Int))] n σ (fun v n' d => v = .int .u64 0 ∧ d = []) := by
 have lhr := hd.lt hr
 refine CQ.body (E := env) env_ok hd rfl rfl (by show _ ≤ _; exact of_decide_eq_true (by kernel_rfl)) ?_
 refine RA.seq hd ?_
 refine RA.region env_ok ?_
 refine OA.p (some 4) (.int .u64 0) rfl rfl rfl rfl ?_
 refine OA.nil ?_
 intro _
 refine RA.seq hd ?_
 refine RA.region env_ok ?_
 refine OA.p (some 5) (.int .u64 0) rfl rfl rfl rfl ?_
 refine OA.nil ?_
 intro _
 refine RA.seq hd ?_
 refine RA.region env_ok ?_
 refine OA.p (some 8) (.pointer (some ⟨r, 0, some 0⟩)) rfl rfl rfl rfl ?_
 refine OA.p (some 9) (.int .i64 ((k : Nat) : Int)) rfl rfl rfl rfl ?_
 refine OA.call (dst := (some 10)) (all := [(.pointer (some ⟨r, 0, some 0⟩)), (.int .i64 ((k : Nat) : Int))]) rfl rfl rfl rfl rfl rfl rfl rfl (CQ.imp (rTakeD (hd.up (by omega)) r s k hr) ?_)
 rintro _ n1 _ ⟨rfl, rfl⟩ hn1
 refine OA.app0 ?_
 refine OA.p (some 6) (.string (ByteArray.mk #[])) rfl rfl rfl rfl ?_
 refine OA.nil ?_
 intro _
 refine RA.seq hd ?_
 refine RA.seq hd ?_
 refine RA.region env_ok ?_
 refine OA.p (some 11) (.string (ByteArray.mk #[])) rfl rfl rfl rfl ?_
 refine OA.p (some 12) (.int .i64 0) rfl rfl rfl (Eq.trans (show _ = some (Value.int .i64 (((ByteArray.mk #[]).size : Nat) : Int), _, []) from rfl) (by rw [show (ByteArray.mk #[]).size = 0 from rfl] <;> rfl)) ?_
 refine OA.p (some 13) (.int .i64 0) rfl rfl rfl rfl ?_
 refine OA.nil ?_
 intro _
 refine RA.block ?_
 refine RA.unroll hd ?_
 refine RA.seq hd ?_
 refine RA.region env_ok ?_
 refine OA.p (some 14) (.bool false) rfl rfl rfl (r_bin rfl rfl rfl (b_lss rfl)) ?_
 refine OA.nil ?_
 intro _
 refine RA.seq hd ?_
 refine RA.condF rfl ?_
 refine RA.exit env_ok ?_
 intro _
 refine RA.seq hd ?_
 refine RA.region env_ok ?_
 refine OA.p (some 24) (.int .u64 0) rfl rfl rfl rfl ?_
 refine OA.p (some 4) (.int .u64 0) rfl rfl rfl rfl ?_
 refine OA.nil ?_
 intro _
 refine RA.ret env_ok ?_
 refine ⟨.inr rfl, [(.int .u64 0)], (resL_cons rfl resL_nil), [], (Less.refl _ _ _), ⟨rfl, rfl⟩⟩

theorem rU16 {n : Nat} {σ : Store} (hd : Dom n σ) (r : Nat) (s : ByteArray) (p : Nat) (hk : p + 2 ≤ s.size) (hs : s.size < 4294967296) (hr : σ r = some ⟨[[(.string (s.extract p s.size)), (.int .i64 0)]], 2, 121, true⟩)  : CQ Try.prog noDen 61 [(.pointer (some ⟨r, 0, some 0⟩))] n σ (fun v n' d => v = .int .i64 ((at_ s p 2 : Nat) : Int) ∧ d = [(r, some ⟨[[(.string (s.extract (p + 2) s.size)), (.int .i64 0)]], 2, 121, true⟩)]) := by
 have lhr := hd.lt hr
 refine CQ.body (E := env) env_ok hd rfl rfl (by show _ ≤ _; exact of_decide_eq_true (by kernel_rfl)) ?_
 refine RA.seq hd ?_
 refine RA.region env_ok ?_
 refine OA.p (some 2) (.int .i64 0) rfl rfl rfl rfl ?_
 refine OA.nil ?_
 intro _
 refine RA.seq hd ?_
 refine RA.region env_ok ?_
 refine OA.p (some 3) (.pointer (some ⟨r, 0, some 0⟩)) rfl rfl rfl rfl ?_
 refine OA.call (dst := (some 4)) (all := [(.pointer (some ⟨r, 0, some 0⟩)), (.int .i64 2)]) rfl rfl rfl rfl rfl rfl rfl rfl (CQ.imp (rNumP (hd.up (by omega)) r s p 2 hk (by decide) hs hr) ?_)
 rintro _ n1 _ ⟨rfl, rfl⟩ hn1
 refine OA.app1 ?_
 refine OA.p (some 5) (.int .i64 (((at_ s p 2) : Nat) : Int)) rfl rfl rfl (r_cvt rfl rfl rfl rfl rfl ⟨_, rfl⟩ (i64_eq (by have := at_lt s p 2; omega))) ?_
 refine OA.p (some 2) (.int .i64 (((at_ s p 2) : Nat) : Int)) rfl rfl rfl rfl ?_
 refine OA.nil ?_
 intro _
 refine RA.ret env_ok ?_
 refine ⟨.inr rfl, [(.int .i64 (((at_ s p 2) : Nat) : Int))], (resL_cons rfl resL_nil), [(r, some ⟨[[(.string (s.extract (p + 2) s.size)), (.int .i64 0)]], 2, 121, true⟩)], (Less.refl _ _ _), ⟨rfl, rfl⟩⟩

theorem rU16S {n : Nat} {σ : Store} (hd : Dom n σ) (r : Nat) (s : ByteArray) (p : Nat) (hp : p ≤ s.size) (hk : ¬ p + 2 ≤ s.size) (hr : σ r = some ⟨[[(.string (s.extract p s.size)), (.int .i64 0)]], 2, 121, true⟩)  : CQ Try.prog noDen 61 [(.pointer (some ⟨r, 0, some 0⟩))] n σ (fun v n' d => v = .int .i64 0 ∧ d = [(r, some ⟨[[(.string (s.extract p s.size)), (.int .i64 2)]], 2, 121, true⟩)]) := by
 have lhr := hd.lt hr
 refine CQ.body (E := env) env_ok hd rfl rfl (by show _ ≤ _; exact of_decide_eq_true (by kernel_rfl)) ?_
 refine RA.seq hd ?_
 refine RA.region env_ok ?_
 refine OA.p (some 2) (.int .i64 0) rfl rfl rfl rfl ?_
 refine OA.nil ?_
 intro _
 refine RA.seq hd ?_
 refine RA.region env_ok ?_
 refine OA.p (some 3) (.pointer (some ⟨r, 0, some 0⟩)) rfl rfl rfl rfl ?_
 refine OA.call (dst := (some 4)) (all := [(.pointer (some ⟨r, 0, some 0⟩)), (.int .i64 2)]) rfl rfl rfl rfl rfl rfl rfl rfl (CQ.imp (rNumS (hd.up (by omega)) r (s.extract p s.size) 2 (by rw [size_cut _ _ _ (Nat.le_refl _)]; omega) hr) ?_)
 rintro _ n1 _ ⟨rfl, rfl⟩ hn1
 refine OA.app1 ?_
 refine OA.p (some 5) (.int .i64 0) rfl rfl rfl rfl ?_
 refine OA.p (some 2) (.int .i64 0) rfl rfl rfl rfl ?_
 refine OA.nil ?_
 intro _
 refine RA.ret env_ok ?_
 refine ⟨.inr rfl, [(.int .i64 0)], (resL_cons rfl resL_nil), [(r, some ⟨[[(.string (s.extract p s.size)), (.int .i64 2)]], 2, 121, true⟩)], (Less.refl _ _ _), ⟨rfl, rfl⟩⟩

theorem rU16D {n : Nat} {σ : Store} (hd : Dom n σ) (r : Nat) (s : ByteArray) (p : Nat)  (hr : σ r = some ⟨[[(.string s), (.int .i64 2)]], 2, 121, true⟩)  : CQ Try.prog noDen 61 [(.pointer (some ⟨r, 0, some 0⟩))] n σ (fun v n' d => v = .int .i64 0 ∧ d = []) := by
 have lhr := hd.lt hr
 refine CQ.body (E := env) env_ok hd rfl rfl (by show _ ≤ _; exact of_decide_eq_true (by kernel_rfl)) ?_
 refine RA.seq hd ?_
 refine RA.region env_ok ?_
 refine OA.p (some 2) (.int .i64 0) rfl rfl rfl rfl ?_
 refine OA.nil ?_
 intro _
 refine RA.seq hd ?_
 refine RA.region env_ok ?_
 refine OA.p (some 3) (.pointer (some ⟨r, 0, some 0⟩)) rfl rfl rfl rfl ?_
 refine OA.call (dst := (some 4)) (all := [(.pointer (some ⟨r, 0, some 0⟩)), (.int .i64 2)]) rfl rfl rfl rfl rfl rfl rfl rfl (CQ.imp (rNumD (hd.up (by omega)) r s 2 hr) ?_)
 rintro _ n1 _ ⟨rfl, rfl⟩ hn1
 refine OA.app0 ?_
 refine OA.p (some 5) (.int .i64 0) rfl rfl rfl rfl ?_
 refine OA.p (some 2) (.int .i64 0) rfl rfl rfl rfl ?_
 refine OA.nil ?_
 intro _
 refine RA.ret env_ok ?_
 refine ⟨.inr rfl, [(.int .i64 0)], (resL_cons rfl resL_nil), [], (Less.refl _ _ _), ⟨rfl, rfl⟩⟩

theorem rU32 {n : Nat} {σ : Store} (hd : Dom n σ) (r : Nat) (s : ByteArray) (p : Nat) (hk : p + 4 ≤ s.size) (hs : s.size < 4294967296) (hr : σ r = some ⟨[[(.string (s.extract p s.size)), (.int .i64 0)]], 2, 121, true⟩)  : CQ Try.prog noDen 60 [(.pointer (some ⟨r, 0, some 0⟩))] n σ (fun v n' d => v = W (w32 s p) ∧ d = [(r, some ⟨[[(.string (s.extract (p + 4) s.size)), (.int .i64 0)]], 2, 121, true⟩)]) := by
 have lhr := hd.lt hr
 refine CQ.body (E := env) env_ok hd rfl rfl (by show _ ≤ _; exact of_decide_eq_true (by kernel_rfl)) ?_
 refine RA.seq hd ?_
 refine RA.region env_ok ?_
 refine OA.p (some 2) (.int .u32 0) rfl rfl rfl rfl ?_
 refine OA.nil ?_
 intro _
 refine RA.seq hd ?_
 refine RA.region env_ok ?_
 refine OA.p (some 3) (.pointer (some ⟨r, 0, some 0⟩)) rfl rfl rfl rfl ?_
 refine OA.call (dst := (some 4)) (all := [(.pointer (some ⟨r, 0, some 0⟩)), (.int .i64 4)]) rfl rfl rfl rfl rfl rfl rfl rfl (CQ.imp (rNumP (hd.up (by omega)) r s p 4 hk (by decide) hs hr) ?_)
 rintro _ n1 _ ⟨rfl, rfl⟩ hn1
 refine OA.app1 ?_
 refine OA.p (some 5) (W (BitVec.ofNat 32 (at_ s p 4))) rfl rfl rfl (r_cvt rfl rfl rfl rfl rfl ⟨_, rfl⟩ (wrap_ofNat32 _)) ?_
 refine OA.p (some 2) (W (BitVec.ofNat 32 (at_ s p 4))) rfl rfl rfl rfl ?_
 refine OA.nil ?_
 intro _
 refine RA.ret env_ok ?_
 refine ⟨.inr rfl, [(W (BitVec.ofNat 32 (at_ s p 4)))], (resL_cons rfl resL_nil), [(r, some ⟨[[(.string (s.extract (p + 4) s.size)), (.int .i64 0)]], 2, 121, true⟩)], (Less.refl _ _ _), ⟨rfl, rfl⟩⟩

theorem rU32S {n : Nat} {σ : Store} (hd : Dom n σ) (r : Nat) (s : ByteArray) (p : Nat) (hp : p ≤ s.size) (hk : ¬ p + 4 ≤ s.size) (hr : σ r = some ⟨[[(.string (s.extract p s.size)), (.int .i64 0)]], 2, 121, true⟩)  : CQ Try.prog noDen 60 [(.pointer (some ⟨r, 0, some 0⟩))] n σ (fun v n' d => v = W 0#32 ∧ d = [(r, some ⟨[[(.string (s.extract p s.size)), (.int .i64 2)]], 2, 121, true⟩)]) := by
 have lhr := hd.lt hr
 refine CQ.body (E := env) env_ok hd rfl rfl (by show _ ≤ _; exact of_decide_eq_true (by kernel_rfl)) ?_
 refine RA.seq hd ?_
 refine RA.region env_ok ?_
 refine OA.p (some 2) (.int .u32 0) rfl rfl rfl rfl ?_
 refine OA.nil ?_
 intro _
 refine RA.seq hd ?_
 refine RA.region env_ok ?_
 refine OA.p (some 3) (.pointer (some ⟨r, 0, some 0⟩)) rfl rfl rfl rfl ?_
 refine OA.call (dst := (some 4)) (all := [(.pointer (some ⟨r, 0, some 0⟩)), (.int .i64 4)]) rfl rfl rfl rfl rfl rfl rfl rfl (CQ.imp (rNumS (hd.up (by omega)) r (s.extract p s.size) 4 (by rw [size_cut _ _ _ (Nat.le_refl _)]; omega) hr) ?_)
 rintro _ n1 _ ⟨rfl, rfl⟩ hn1
 refine OA.app1 ?_
 refine OA.p (some 5) (.int .u32 0) rfl rfl rfl rfl ?_
 refine OA.p (some 2) (.int .u32 0) rfl rfl rfl rfl ?_
 refine OA.nil ?_
 intro _
 refine RA.ret env_ok ?_
 refine ⟨.inr rfl, [(.int .u32 0)], (resL_cons rfl resL_nil), [(r, some ⟨[[(.string (s.extract p s.size)), (.int .i64 2)]], 2, 121, true⟩)], (Less.refl _ _ _), ⟨rfl, rfl⟩⟩

theorem rU32D {n : Nat} {σ : Store} (hd : Dom n σ) (r : Nat) (s : ByteArray) (p : Nat)  (hr : σ r = some ⟨[[(.string s), (.int .i64 2)]], 2, 121, true⟩)  : CQ Try.prog noDen 60 [(.pointer (some ⟨r, 0, some 0⟩))] n σ (fun v n' d => v = W 0#32 ∧ d = []) := by
 have lhr := hd.lt hr
 refine CQ.body (E := env) env_ok hd rfl rfl (by show _ ≤ _; exact of_decide_eq_true (by kernel_rfl)) ?_
 refine RA.seq hd ?_
 refine RA.region env_ok ?_
 refine OA.p (some 2) (.int .u32 0) rfl rfl rfl rfl ?_
 refine OA.nil ?_
 intro _
 refine RA.seq hd ?_
 refine RA.region env_ok ?_
 refine OA.p (some 3) (.pointer (some ⟨r, 0, some 0⟩)) rfl rfl rfl rfl ?_
 refine OA.call (dst := (some 4)) (all := [(.pointer (some ⟨r, 0, some 0⟩)), (.int .i64 4)]) rfl rfl rfl rfl rfl rfl rfl rfl (CQ.imp (rNumD (hd.up (by omega)) r s 4 hr) ?_)
 rintro _ n1 _ ⟨rfl, rfl⟩ hn1
 refine OA.app0 ?_
 refine OA.p (some 5) (.int .u32 0) rfl rfl rfl rfl ?_
 refine OA.p (some 2) (.int .u32 0) rfl rfl rfl rfl ?_
 refine OA.nil ?_
 intro _
 refine RA.ret env_ok ?_
 refine ⟨.inr rfl, [(.int .u32 0)], (resL_cons rfl resL_nil), [], (Less.refl _ _ _), ⟨rfl, rfl⟩⟩

theorem rEnd {n : Nat} {σ : Store} (hd : Dom n σ) (r : Nat) (s : ByteArray) (hz : s.size = 0) (hr : σ r = some ⟨[[(.string s), (.int .i64 0)]], 2, 121, true⟩)  : CQ Try.prog noDen 51 [(.pointer (some ⟨r, 0, some 0⟩))] n σ (fun v n' d => v = .int .i64 0 ∧ d = []) := by
 have lhr := hd.lt hr
 refine CQ.body (E := env) env_ok hd rfl rfl (by show _ ≤ _; exact of_decide_eq_true (by kernel_rfl)) ?_
 refine RA.seq hd ?_
 refine RA.region env_ok ?_
 refine OA.p (some 2) (.int .i64 0) rfl rfl rfl rfl ?_
 refine OA.nil ?_
 intro _
 refine RA.seq hd ?_
 refine RA.seq hd ?_
 refine RA.region env_ok ?_
 refine OA.p (some 3) (.pointer (some ⟨r, 0, some 0⟩)) rfl rfl rfl rfl ?_
 refine OA.callP (dst := (some 4)) (all := [(.pointer (some ⟨r, 0, some 0⟩))]) (v := (.int .i64 0)) (hd.up (by omega)) rfl rfl rfl rfl rfl rfl rfl rfl (rErr r _ 0 hr) ?_
 intro n1 hn1
 refine OA.p (some 5) (.bool true) rfl rfl rfl (r_bin rfl rfl rfl (b_eql rfl)) ?_
 refine OA.p (some 6) (.bool true) rfl rfl rfl rfl ?_
 refine OA.p (some 7) (.pointer (some ⟨r, 0, some 0⟩)) rfl rfl rfl rfl ?_
 refine OA.p (some 8) (.pointer (some ⟨r, 0, some 0⟩)) rfl rfl rfl rfl ?_
 refine OA.p (some 9) (.pointer (some ⟨r, 0, some 0⟩)) rfl rfl rfl rfl ?_
 refine OA.p (some 10) (.string s) rfl rfl rfl (r_load1 rfl rfl rfl rfl rfl hr rfl rfl) ?_
 refine OA.p (some 11) (.int .i64 ((s.size : Nat) : Int)) rfl rfl rfl rfl ?_
 have hc1 : ¬ (0 < ((s.size : Nat) : Int)) := fun hdd => by exfalso; omega
 refine OA.p (some 12) (.bool false) rfl rfl rfl (Eq.trans (r_bin rfl rfl rfl (b_gtr rfl)) (dF hc1)) ?_
 refine OA.p (some 13) (.bool false) rfl rfl rfl rfl ?_
 refine OA.nil ?_
 intro _
 refine RA.condF rfl ?_
 refine RA.skip env_ok ?_
 intro _
 refine RA.seq hd ?_
 refine RA.region env_ok ?_
 refine OA.p (some 16) (.pointer (some ⟨r, 0, some 0⟩)) rfl rfl rfl rfl ?_
 refine OA.callP (dst := (some 17)) (all := [(.pointer (some ⟨r, 0, some 0⟩))]) (v := (.int .i64 0)) (hd.up (by omega)) rfl rfl rfl rfl rfl rfl rfl rfl (rErr r _ 0 hr) ?_
 intro n2 hn2
 refine OA.p (some 2) (.int .i64 0) rfl rfl rfl rfl ?_
 refine OA.nil ?_
 intro _
 refine RA.ret env_ok ?_
 refine ⟨.inr rfl, [(.int .i64 0)], (resL_cons rfl resL_nil), [], (Less.refl _ _ _), ⟨rfl, rfl⟩⟩

theorem rEndM {n : Nat} {σ : Store} (hd : Dom n σ) (r : Nat) (s : ByteArray) (hz : ¬ s.size = 0) (hr : σ r = some ⟨[[(.string s), (.int .i64 0)]], 2, 121, true⟩)  : CQ Try.prog noDen 51 [(.pointer (some ⟨r, 0, some 0⟩))] n σ (fun v n' d => v = .int .i64 3 ∧ d = [(r, some ⟨[[(.string s), (.int .i64 3)]], 2, 121, true⟩)]) := by
 have lhr := hd.lt hr
 refine CQ.body (E := env) env_ok hd rfl rfl (by show _ ≤ _; exact of_decide_eq_true (by kernel_rfl)) ?_
 refine RA.seq hd ?_
 refine RA.region env_ok ?_
 refine OA.p (some 2) (.int .i64 0) rfl rfl rfl rfl ?_
 refine OA.nil ?_
 intro _
 refine RA.seq hd ?_
 refine RA.seq hd ?_
 refine RA.region env_ok ?_
 refine OA.p (some 3) (.pointer (some ⟨r, 0, some 0⟩)) rfl rfl rfl rfl ?_
 refine OA.callP (dst := (some 4)) (all := [(.pointer (some ⟨r, 0, some 0⟩))]) (v := (.int .i64 0)) (hd.up (by omega)) rfl rfl rfl rfl rfl rfl rfl rfl (rErr r _ 0 hr) ?_
 intro n1 hn1
 refine OA.p (some 5) (.bool true) rfl rfl rfl (r_bin rfl rfl rfl (b_eql rfl)) ?_
 refine OA.p (some 6) (.bool true) rfl rfl rfl rfl ?_
 refine OA.p (some 7) (.pointer (some ⟨r, 0, some 0⟩)) rfl rfl rfl rfl ?_
 refine OA.p (some 8) (.pointer (some ⟨r, 0, some 0⟩)) rfl rfl rfl rfl ?_
 refine OA.p (some 9) (.pointer (some ⟨r, 0, some 0⟩)) rfl rfl rfl rfl ?_
 refine OA.p (some 10) (.string s) rfl rfl rfl (r_load1 rfl rfl rfl rfl rfl hr rfl rfl) ?_
 refine OA.p (some 11) (.int .i64 ((s.size : Nat) : Int)) rfl rfl rfl rfl ?_
 have hc1 : 0 < ((s.size : Nat) : Int) := Classical.byContradiction (fun hdd => by exfalso; omega)
 refine OA.p (some 12) (.bool true) rfl rfl rfl (Eq.trans (r_bin rfl rfl rfl (b_gtr rfl)) (dT hc1)) ?_
 refine OA.p (some 13) (.bool true) rfl rfl rfl rfl ?_
 refine OA.nil ?_
 intro _
 refine RA.condT rfl ?_
 refine RA.region env_ok ?_
 refine OA.p (some 14) (.pointer (some ⟨r, 0, some 0⟩)) rfl rfl rfl rfl ?_
 refine OA.call (dst := (some 15)) (all := [(.pointer (some ⟨r, 0, some 0⟩)), (.int .i64 3)]) rfl rfl rfl rfl rfl rfl rfl rfl (CQ.imp (rFail (hd.up (by omega)) r _ 3 hr) ?_)
 rintro _ n2 _ ⟨rfl, rfl⟩ hn2
 refine OA.app1 ?_
 refine OA.nil ?_
 intro _
 refine RA.seq hd ?_
 refine RA.region env_ok ?_
 refine OA.p (some 16) (.pointer (some ⟨r, 0, some 0⟩)) rfl rfl rfl rfl ?_
 refine OA.callP (dst := (some 17)) (all := [(.pointer (some ⟨r, 0, some 0⟩))]) (v := (.int .i64 3)) (hd.of (by omega) (kb1 (by omega))) rfl rfl rfl rfl rfl rfl rfl rfl (rErr r _ 3 get_here) ?_
 intro n3 hn3
 refine OA.p (some 2) (.int .i64 3) rfl rfl rfl rfl ?_
 refine OA.nil ?_
 intro _
 refine RA.ret env_ok ?_
 refine ⟨.inr rfl, [(.int .i64 3)], (resL_cons rfl resL_nil), [(r, some ⟨[[(.string s), (.int .i64 3)]], 2, 121, true⟩)], (Less.refl _ _ _), ⟨rfl, rfl⟩⟩

theorem rEndD {n : Nat} {σ : Store} (hd : Dom n σ) (r : Nat) (s : ByteArray) (hr : σ r = some ⟨[[(.string s), (.int .i64 2)]], 2, 121, true⟩)  : CQ Try.prog noDen 51 [(.pointer (some ⟨r, 0, some 0⟩))] n σ (fun v n' d => v = .int .i64 2 ∧ d = []) := by
 have lhr := hd.lt hr
 refine CQ.body (E := env) env_ok hd rfl rfl (by show _ ≤ _; exact of_decide_eq_true (by kernel_rfl)) ?_
 refine RA.seq hd ?_
 refine RA.region env_ok ?_
 refine OA.p (some 2) (.int .i64 0) rfl rfl rfl rfl ?_
 refine OA.nil ?_
 intro _
 refine RA.seq hd ?_
 refine RA.seq hd ?_
 refine RA.region env_ok ?_
 refine OA.p (some 3) (.pointer (some ⟨r, 0, some 0⟩)) rfl rfl rfl rfl ?_
 refine OA.callP (dst := (some 4)) (all := [(.pointer (some ⟨r, 0, some 0⟩))]) (v := (.int .i64 2)) (hd.up (by omega)) rfl rfl rfl rfl rfl rfl rfl rfl (rErr r _ 2 hr) ?_
 intro n1 hn1
 refine OA.p (some 5) (.bool false) rfl rfl rfl (r_bin rfl rfl rfl (b_eql rfl)) ?_
 refine OA.p (some 6) (.bool false) rfl rfl rfl rfl ?_
 refine OA.off (dst := (some 7)) rfl rfl rfl ?_
 refine OA.off (dst := (some 8)) rfl rfl rfl ?_
 refine OA.off (dst := (some 9)) rfl rfl rfl ?_
 refine OA.off (dst := (some 10)) rfl rfl rfl ?_
 refine OA.off (dst := (some 11)) rfl rfl rfl ?_
 refine OA.off (dst := (some 12)) rfl rfl rfl ?_
 refine OA.p (some 13) (.bool false) rfl rfl rfl rfl ?_
 refine OA.nil ?_
 intro _
 refine RA.condF rfl ?_
 refine RA.skip env_ok ?_
 intro _
 refine RA.seq hd ?_
 refine RA.region env_ok ?_
 refine OA.p (some 16) (.pointer (some ⟨r, 0, some 0⟩)) rfl rfl rfl rfl ?_
 refine OA.callP (dst := (some 17)) (all := [(.pointer (some ⟨r, 0, some 0⟩))]) (v := (.int .i64 2)) (hd.up (by omega)) rfl rfl rfl rfl rfl rfl rfl rfl (rErr r _ 2 hr) ?_
 intro n2 hn2
 refine OA.p (some 2) (.int .i64 2) rfl rfl rfl rfl ?_
 refine OA.nil ?_
 intro _
 refine RA.ret env_ok ?_
 refine ⟨.inr rfl, [(.int .i64 2)], (resL_cons rfl resL_nil), [], (Less.refl _ _ _), ⟨rfl, rfl⟩⟩
end Go.Proofs.Ytgajcmanompmcaa.Vt
