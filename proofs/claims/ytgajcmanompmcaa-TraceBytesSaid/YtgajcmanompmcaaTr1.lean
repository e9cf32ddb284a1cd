/- Tr1: walks through functions of the program, by the calculus; written by a program of this workplace. -/
import Derived.Test.YtgajcmanompmcaaRt
import Derived.Test.YtgajcmanompmcaaVm5
namespace Go.Proofs.Ytgajcmanompmcaa.Vt
open Go Go.Proofs Go.Proofs.YtgajcmanompmcaaV
set_option maxRecDepth 100000
set_option linter.unusedVariables false
set_option linter.unusedSimpArgs false
structure Act where
  what : Int
  host : Int
  a : Int
  b : Int
  c : Int
  d : Int
  e : Int
  f : Int
  s : ByteArray
deriving DecidableEq
def dAct : Act := ⟨0, 0, 0, 0, 0, 0, 0, 0, ByteArray.empty⟩
abbrev cAct (e : Act) : List Value := [(.int .i64 e.what), (.int .i64 e.host), (.int .i64 e.a), (.int .i64 e.b), (.int .i64 e.c), (.int .i64 e.d), (.int .i64 e.e), (.int .i64 e.f), (.string e.s)]
abbrev oAct (l : List Act) : AObj := ⟨l.map cAct, 9, 24, true⟩
def be4 (x : BitVec 32) : List UInt8 := [UInt8.ofNat (x >>> 24).toNat, UInt8.ofNat (x >>> 16).toNat, UInt8.ofNat (x >>> 8).toNat, UInt8.ofNat x.toNat]
theorem be4_len (x : BitVec 32) : (be4 x).length = 4 := rfl
theorem beN_be4 (x : BitVec 32) : beN (be4 x) = x.toNat := by
  have h := x.isLt
  simp only [beN, be4, List.foldl, BitVec.toNat_ushiftRight, Nat.shiftRight_eq_div_pow, UInt8.toNat_ofNat']
  omega
def be2 (m : Nat) : List UInt8 := [UInt8.ofNat (m / 256), UInt8.ofNat m]
theorem be2_len (m : Nat) : (be2 m).length = 2 := rfl
theorem beN_be2 (m : Nat) (h : m < 65536) : beN (be2 m) = m := by
  simp only [beN, be2, List.foldl, UInt8.toNat_ofNat']
  omega
theorem wrap_i32s (z : Int) : IntKind.wrap .i32 z = (BitVec.ofInt 32 z).toInt := by
  rw [IntKind.wrap_i32, BitVec.toInt_ofInt, Int.bmod_def]
  split <;> omega
theorem wrap_i32W (x : BitVec 32) : IntKind.wrap .i32 (x.toNat : Int) = x.toInt := by
  rw [wrap_i32s]; congr 1; simp
theorem wrap_u32s (x : BitVec 32) : IntKind.wrap .u32 x.toInt = (x.toNat : Int) := by rw [wrap_ofInt32, BitVec.ofInt_toInt]
theorem wrap_i64s (x : BitVec 32) : IntKind.wrap .i64 x.toInt = x.toInt := by
  have h1 := BitVec.toInt_lt (x := x)
  have h2 := BitVec.le_toInt (x := x)
  exact i64_eq ⟨rfl, by omega, by omega⟩
def sm (x : Int) : Prop := x = (BitVec.ofInt 32 x).toInt
instance (x : Int) : Decidable (sm x) := by unfold sm; infer_instance
def MayA (x : Act) : Prop := sm x.host ∧ sm x.a ∧ sm x.b ∧ sm x.c ∧ sm x.d ∧ sm x.e ∧ sm x.f ∧ 0 ≤ x.what ∧ x.what < 256 ∧ ((x.s.size : Nat) : Int) < 65536
instance (x : Act) : Decidable (MayA x) := by unfold MayA; infer_instance
def actL (x : Act) : List UInt8 := [UInt8.ofNat x.what.toNat] ++ be4 (BitVec.ofInt 32 x.host) ++ be4 (BitVec.ofInt 32 x.a) ++ be4 (BitVec.ofInt 32 x.b) ++ be4 (BitVec.ofInt 32 x.c) ++ be4 (BitVec.ofInt 32 x.d) ++ be4 (BitVec.ofInt 32 x.e) ++ be4 (BitVec.ofInt 32 x.f) ++ be2 x.s.size ++ L x.s
def actF (x : Act) : ByteArray := if MayA x then bstr (actL x) else ByteArray.mk #[]
theorem actF_t {x : Act} (h : MayA x) : actF x = bstr (actL x) := if_pos h
theorem actF_f {x : Act} (h : ¬ MayA x) : actF x = ByteArray.mk #[] := if_neg h
theorem actL_len (x : Act) : (actL x).length = 31 + x.s.size := by simp only [actL, List.length_append, be4_len, be2_len, L_len, List.length_cons, List.length_nil]
theorem actF_le (x : Act) : (actF x).size ≤ 65566 := by
  by_cases h : MayA x
  · rw [actF_t h, bstr_size, actL_len]
    have := h.2.2.2.2.2.2.2.2.2
    omega
  · rw [actF_f h]; exact Nat.zero_le _
def putsL (l : List Act) : List UInt8 := l.flatMap fun x => L (actF x)
theorem puts_snoc {l : List Act} {i : Nat} (h : i < l.length) : putsL (l.take (i + 1)) = putsL (l.take i) ++ L (actF (l.getD i dAct)) := by
  unfold putsL
  rw [← take_snoc (d0 := dAct) h, List.flatMap_append]; simp
theorem puts_step {l : List Act} {i : Nat} (h : i < l.length) : bstr (putsL (l.take i)) ++ actF (l.getD i dAct) = bstr (putsL (l.take (i + 1))) := by
  apply L_ext; rw [L_append, L_bstr, L_bstr, puts_snoc h]
theorem puts_len {l : List Act} {i : Nat} (h : i < l.length) (hb : (putsL (l.take i)).length ≤ i * 65566) : (putsL (l.take (i + 1))).length ≤ (i + 1) * 65566 := by
  rw [puts_snoc h, List.length_append, L_len]
  have := actF_le (l.getD i dAct)
  omega
abbrev xTr11 (x : Act) : List Value := [(.int .i64 x.what), (.int .i64 x.host), (.int .i64 x.a), (.int .i64 x.b), (.int .i64 x.c), (.int .i64 x.d), (.int .i64 x.e), (.int .i64 x.f), (.string x.s)]
theorem tU8n {σ : Store} (m : Nat) (hm : m < 256)   : PS Try.prog noDen 53 [(.int .i64 ((m : Nat) : Int))] σ (.string (bstr [UInt8.ofNat m])) := by
 refine PS.body (E := env) env_ok rfl rfl (by show _ ≤ _; exact of_decide_eq_true (by kernel_rfl)) (fun n hd => ?_)
 refine RA.seq hd ?_
 refine RA.region env_ok ?_
 refine OA.p (some 2) (.string (ByteArray.mk #[])) rfl rfl rfl rfl ?_
 refine OA.nil ?_
 intro _
 refine RA.seq hd ?_
 refine RA.region env_ok ?_
 refine OA.p (some 3) (.int .i64 ((m : Nat) : Int)) rfl rfl rfl rfl ?_
 refine OA.p (some 4) (.int .u8 (((UInt8.ofNat m).toNat : Nat) : Int)) rfl rfl rfl (r_cvt rfl rfl rfl rfl rfl ⟨_, rfl⟩ (wrap_u8n _)) ?_
 refine OA.op1 (dst := (some 5)) (v := (.slice (some ⟨n, 0, none⟩) 1 0)) (n1 := (n + 1)) (w := (n, some ⟨(bc [(UInt8.ofNat m)]), 1, 5, true⟩)) rfl rfl rfl (by kernel_rfl) (by omega) ?_
 refine OA.p (some 6) (.string (bstr (([(UInt8.ofNat m)].drop 0).take 1))) rfl rfl rfl (r_b2s rfl rfl rfl rfl rfl rfl rfl rfl get_here (by rw [show ([(UInt8.ofNat m)] : List UInt8).length = 1 from rfl]; omega)) ?_
 refine OA.p (some 2) (.string (bstr (([(UInt8.ofNat m)].drop 0).take 1))) rfl rfl rfl rfl ?_
 refine OA.nil ?_
 intro _
 refine RA.ret env_ok ?_
 refine ⟨.inr rfl, [(.string (bstr (([(UInt8.ofNat m)].drop 0).take 1)))], (resL_cons rfl resL_nil), rfl, (kc1 (by omega))⟩

theorem tU8 {σ : Store} (x : Int) (h1 : 0 ≤ x) (h2 : x < 256) : PS Try.prog noDen 53 [(.int .i64 x)] σ (.string (bstr [UInt8.ofNat x.toNat])) := by
  have h := tU8n (σ := σ) x.toNat (by omega)
  rw [Int.toNat_of_nonneg h1] at h
  exact h

theorem tU16 {σ : Store} (m : Nat) (hm : m < 65536)   : PS Try.prog noDen 55 [(.int .i64 ((m : Nat) : Int))] σ (.string (bstr (be2 m))) := by
 refine PS.body (E := env) env_ok rfl rfl (by show _ ≤ _; exact of_decide_eq_true (by kernel_rfl)) (fun n hd => ?_)
 refine RA.seq hd ?_
 refine RA.region env_ok ?_
 refine OA.p (some 2) (.string (ByteArray.mk #[])) rfl rfl rfl rfl ?_
 refine OA.nil ?_
 intro _
 refine RA.seq hd ?_
 refine RA.region env_ok ?_
 refine OA.p (some 3) (.int .i64 ((m : Nat) : Int)) rfl rfl rfl rfl ?_
 refine OA.p (some 4) (.int .i64 (((m / 256) : Nat) : Int)) rfl rfl rfl (r_bin rfl rfl rfl (b_shrN (a := m) (c := 8) (D := 256) (by decide))) ?_
 refine OA.p (some 5) (.int .u8 (((UInt8.ofNat (m / 256)).toNat : Nat) : Int)) rfl rfl rfl (r_cvt rfl rfl rfl rfl rfl ⟨_, rfl⟩ (wrap_u8n _)) ?_
 refine OA.p (some 6) (.int .i64 ((m : Nat) : Int)) rfl rfl rfl rfl ?_
 refine OA.p (some 7) (.int .u8 (((UInt8.ofNat m).toNat : Nat) : Int)) rfl rfl rfl (r_cvt rfl rfl rfl rfl rfl ⟨_, rfl⟩ (wrap_u8n _)) ?_
 refine OA.op1 (dst := (some 8)) (v := (.slice (some ⟨n, 0, none⟩) 2 0)) (n1 := (n + 1)) (w := (n, some ⟨(bc [(UInt8.ofNat (m / 256)), (UInt8.ofNat m)]), 1, 5, true⟩)) rfl rfl rfl (by kernel_rfl) (by omega) ?_
 refine OA.p (some 9) (.string (bstr (([(UInt8.ofNat (m / 256)), (UInt8.ofNat m)].drop 0).take 2))) rfl rfl rfl (r_b2s rfl rfl rfl rfl rfl rfl rfl rfl get_here (by rw [show ([(UInt8.ofNat (m / 256)), (UInt8.ofNat m)] : List UInt8).length = 2 from rfl]; omega)) ?_
 refine OA.p (some 2) (.string (bstr (([(UInt8.ofNat (m / 256)), (UInt8.ofNat m)].drop 0).take 2))) rfl rfl rfl rfl ?_
 refine OA.nil ?_
 intro _
 refine RA.ret env_ok ?_
 refine ⟨.inr rfl, [(.string (bstr (([(UInt8.ofNat (m / 256)), (UInt8.ofNat m)].drop 0).take 2)))], (resL_cons rfl resL_nil), rfl, (kc1 (by omega))⟩

theorem tU32 {σ : Store} (x : BitVec 32)   : PS Try.prog noDen 62 [(W x)] σ (.string (bstr (be4 x))) := by
 refine PS.body (E := env) env_ok rfl rfl (by show _ ≤ _; exact of_decide_eq_true (by kernel_rfl)) (fun n hd => ?_)
 refine RA.seq hd ?_
 refine RA.region env_ok ?_
 refine OA.p (some 2) (.string (ByteArray.mk #[])) rfl rfl rfl rfl ?_
 refine OA.nil ?_
 intro _
 refine RA.seq hd ?_
 refine RA.region env_ok ?_
 refine OA.p (some 3) (W x) rfl rfl rfl rfl ?_
 refine OA.p (some 4) (W (x >>> 24)) rfl rfl rfl (r_bin rfl rfl rfl (b_shrW _ (s := 24) (by omega))) ?_
 refine OA.p (some 5) (.int .u8 (((UInt8.ofNat ((x >>> 24)).toNat).toNat : Nat) : Int)) rfl rfl rfl (r_cvt rfl rfl rfl rfl rfl ⟨_, rfl⟩ (wrap_u8n _)) ?_
 refine OA.p (some 6) (W x) rfl rfl rfl rfl ?_
 refine OA.p (some 7) (W (x >>> 16)) rfl rfl rfl (r_bin rfl rfl rfl (b_shrW _ (s := 16) (by omega))) ?_
 refine OA.p (some 8) (.int .u8 (((UInt8.ofNat ((x >>> 16)).toNat).toNat : Nat) : Int)) rfl rfl rfl (r_cvt rfl rfl rfl rfl rfl ⟨_, rfl⟩ (wrap_u8n _)) ?_
 refine OA.p (some 9) (W x) rfl rfl rfl rfl ?_
 refine OA.p (some 10) (W (x >>> 8)) rfl rfl rfl (r_bin rfl rfl rfl (b_shrW _ (s := 8) (by omega))) ?_
 refine OA.p (some 11) (.int .u8 (((UInt8.ofNat ((x >>> 8)).toNat).toNat : Nat) : Int)) rfl rfl rfl (r_cvt rfl rfl rfl rfl rfl ⟨_, rfl⟩ (wrap_u8n _)) ?_
 refine OA.p (some 12) (W x) rfl rfl rfl rfl ?_
 refine OA.p (some 13) (.int .u8 (((UInt8.ofNat (x).toNat).toNat : Nat) : Int)) rfl rfl rfl (r_cvt rfl rfl rfl rfl rfl ⟨_, rfl⟩ (wrap_u8n _)) ?_
 refine OA.op1 (dst := (some 14)) (v := (.slice (some ⟨n, 0, none⟩) 4 0)) (n1 := (n + 1)) (w := (n, some ⟨(bc [(UInt8.ofNat ((x >>> 24)).toNat), (UInt8.ofNat ((x >>> 16)).toNat), (UInt8.ofNat ((x >>> 8)).toNat), (UInt8.ofNat (x).toNat)]), 1, 5, true⟩)) rfl rfl rfl (by kernel_rfl) (by omega) ?_
 refine OA.p (some 15) (.string (bstr (([(UInt8.ofNat ((x >>> 24)).toNat), (UInt8.ofNat ((x >>> 16)).toNat), (UInt8.ofNat ((x >>> 8)).toNat), (UInt8.ofNat (x).toNat)].drop 0).take 4))) rfl rfl rfl (r_b2s rfl rfl rfl rfl rfl rfl rfl rfl get_here (by rw [show ([(UInt8.ofNat ((x >>> 24)).toNat), (UInt8.ofNat ((x >>> 16)).toNat), (UInt8.ofNat ((x >>> 8)).toNat), (UInt8.ofNat (x).toNat)] : List UInt8).length = 4 from rfl]; omega)) ?_
 refine OA.p (some 2) (.string (bstr (([(UInt8.ofNat ((x >>> 24)).toNat), (UInt8.ofNat ((x >>> 16)).toNat), (UInt8.ofNat ((x >>> 8)).toNat), (UInt8.ofNat (x).toNat)].drop 0).take 4))) rfl rfl rfl rfl ?_
 refine OA.nil ?_
 intro _
 refine RA.ret env_ok ?_
 refine ⟨.inr rfl, [(.string (bstr (([(UInt8.ofNat ((x >>> 24)).toNat), (UInt8.ofNat ((x >>> 16)).toNat), (UInt8.ofNat ((x >>> 8)).toNat), (UInt8.ofNat (x).toNat)].drop 0).take 4)))], (resL_cons rfl resL_nil), rfl, (kc1 (by omega))⟩

theorem tSmall {σ : Store} (x : Int)   : PS Try.prog noDen 56 [(.int .i64 x)] σ (.bool (decide (sm x))) := by
 refine PS.body (E := env) env_ok rfl rfl (by show _ ≤ _; exact of_decide_eq_true (by kernel_rfl)) (fun n hd => ?_)
 refine RA.seq hd ?_
 refine RA.region env_ok ?_
 refine OA.p (some 2) (.bool false) rfl rfl rfl rfl ?_
 refine OA.nil ?_
 intro _
 refine RA.seq hd ?_
 refine RA.region env_ok ?_
 refine OA.p (some 3) (.int .i64 x) rfl rfl rfl rfl ?_
 refine OA.p (some 4) (.int .i64 x) rfl rfl rfl rfl ?_
 refine OA.p (some 5) (.int .i32 (BitVec.ofInt 32 x).toInt) rfl rfl rfl (r_cvt rfl rfl rfl rfl rfl ⟨_, rfl⟩ (wrap_i32s _)) ?_
 refine OA.p (some 6) (.int .i64 (BitVec.ofInt 32 x).toInt) rfl rfl rfl (r_cvt rfl rfl rfl rfl rfl ⟨_, rfl⟩ (wrap_i64s _)) ?_
 refine OA.p (some 7) (.bool (decide (x = (BitVec.ofInt 32 x).toInt))) rfl rfl rfl (r_bin rfl rfl rfl (b_eql rfl)) ?_
 refine OA.p (some 2) (.bool (decide (x = (BitVec.ofInt 32 x).toInt))) rfl rfl rfl rfl ?_
 refine OA.nil ?_
 intro _
 refine RA.ret env_ok ?_
 refine ⟨.inr rfl, [(.bool (decide (x = (BitVec.ofInt 32 x).toInt)))], (resL_cons rfl resL_nil), rfl, (fun i hi => by cases hi)⟩

theorem tSign {σ : Store} (x : Int)   : PS Try.prog noDen 54 [(.int .i64 x)] σ (.string (bstr (be4 (BitVec.ofInt 32 x)))) := by
 refine PS.body (E := env) env_ok rfl rfl (by show _ ≤ _; exact of_decide_eq_true (by kernel_rfl)) (fun n hd => ?_)
 refine RA.seq hd ?_
 refine RA.region env_ok ?_
 refine OA.p (some 2) (.string (ByteArray.mk #[])) rfl rfl rfl rfl ?_
 refine OA.nil ?_
 intro _
 refine RA.seq hd ?_
 refine RA.region env_ok ?_
 refine OA.p (some 3) (.int .i64 x) rfl rfl rfl rfl ?_
 refine OA.p (some 4) (.int .i32 (BitVec.ofInt 32 x).toInt) rfl rfl rfl (r_cvt rfl rfl rfl rfl rfl ⟨_, rfl⟩ (wrap_i32s _)) ?_
 refine OA.p (some 5) (W (BitVec.ofInt 32 x)) rfl rfl rfl (r_cvt rfl rfl rfl rfl rfl ⟨_, rfl⟩ (wrap_u32s _)) ?_
 refine OA.callP (dst := (some 6)) (all := [(W (BitVec.ofInt 32 x))]) (v := (.string (bstr (be4 (BitVec.ofInt 32 x))))) (hd.up (by omega)) rfl rfl rfl rfl rfl rfl rfl rfl (tU32 _) ?_
 intro n1 hn1
 refine OA.p (some 2) (.string (bstr (be4 (BitVec.ofInt 32 x)))) rfl rfl rfl rfl ?_
 refine OA.nil ?_
 intro _
 refine RA.ret env_ok ?_
 refine ⟨.inr rfl, [(.string (bstr (be4 (BitVec.ofInt 32 x))))], (resL_cons rfl resL_nil), rfl, (fun i hi => by cases hi)⟩

theorem tMay {σ : Store} (x : Act)   : PS Try.prog noDen 13 [(.agg ⟨(cAct x)⟩)] σ (.bool (decide (MayA x))) := by
 refine PS.body (E := env) env_ok rfl rfl (by show _ ≤ _; exact of_decide_eq_true (by kernel_rfl)) (fun n hd => ?_)
 refine RA.seq hd ?_
 refine RA.region env_ok ?_
 refine OA.op1 (dst := (some 1)) (v := (Pt n 0 0)) (n1 := (n + 1)) (w := (n, some ⟨[(cAct x)], 9, 24, true⟩)) rfl rfl rfl rfl (by omega) ?_
 refine OA.p (some 2) (.bool false) rfl rfl rfl rfl ?_
 refine OA.nil ?_
 intro _
 refine RA.seq hd ?_
 refine RA.seq hd ?_
 refine RA.region env_ok ?_
 refine OA.p (some 5) (Pt n 0 1) rfl rfl rfl rfl ?_
 refine OA.p (some 6) (.int .i64 x.host) rfl rfl rfl (r_load1 rfl rfl rfl rfl rfl get_here rfl rfl) ?_
 refine OA.p (some 7) (Pt n 0 2) rfl rfl rfl rfl ?_
 refine OA.p (some 8) (.int .i64 x.a) rfl rfl rfl (r_load1 rfl rfl rfl rfl rfl get_here rfl rfl) ?_
 refine OA.p (some 9) (Pt n 0 3) rfl rfl rfl rfl ?_
 refine OA.p (some 10) (.int .i64 x.b) rfl rfl rfl (r_load1 rfl rfl rfl rfl rfl get_here rfl rfl) ?_
 refine OA.p (some 11) (Pt n 0 4) rfl rfl rfl rfl ?_
 refine OA.p (some 12) (.int .i64 x.c) rfl rfl rfl (r_load1 rfl rfl rfl rfl rfl get_here rfl rfl) ?_
 refine OA.p (some 13) (Pt n 0 5) rfl rfl rfl rfl ?_
 refine OA.p (some 14) (.int .i64 x.d) rfl rfl rfl (r_load1 rfl rfl rfl rfl rfl get_here rfl rfl) ?_
 refine OA.p (some 15) (Pt n 0 6) rfl rfl rfl rfl ?_
 refine OA.p (some 16) (.int .i64 x.e) rfl rfl rfl (r_load1 rfl rfl rfl rfl rfl get_here rfl rfl) ?_
 refine OA.p (some 17) (Pt n 0 7) rfl rfl rfl rfl ?_
 refine OA.p (some 18) (.int .i64 x.f) rfl rfl rfl (r_load1 rfl rfl rfl rfl rfl get_here rfl rfl) ?_
 refine OA.op1 (dst := (some 19)) (v := (.slice (some ⟨(n + 1), 0, none⟩) 7 0)) (n1 := (n + 2)) (w := ((n + 1), some ⟨[[(.int .i64 x.host)], [(.int .i64 x.a)], [(.int .i64 x.b)], [(.int .i64 x.c)], [(.int .i64 x.d)], [(.int .i64 x.e)], [(.int .i64 x.f)]], 1, 3, true⟩)) rfl rfl rfl (by kernel_rfl) (by omega) ?_
 refine OA.p (some 20) (.int .i64 7) rfl rfl rfl rfl ?_
 refine OA.p (some 21) (.int .i64 0) rfl rfl rfl rfl ?_
 refine OA.nil ?_
 intro _
 refine RA.block ?_
 refine RA.unroll hd ?_
 refine RA.seq hd ?_
 refine RA.region env_ok ?_
 refine OA.p (some 22) (.bool true) rfl rfl rfl (r_bin rfl rfl rfl (b_lss rfl)) ?_
 refine OA.nil ?_
 intro _
 refine RA.seq hd ?_
 refine RA.condT rfl ?_
 refine RA.skip env_ok ?_
 intro _
 refine RA.seq hd ?_
 refine RA.block ?_
 refine RA.seq hd ?_
 refine RA.region env_ok ?_
 refine OA.p (some 23) (.pointer (some ⟨(n + 1), 0, some 0⟩)) rfl rfl rfl (r_iaS (l := 0) rfl rfl rfl rfl rfl rfl (by omega) (by omega) get_here rfl (by omega)) ?_
 refine OA.p (some 24) (.int .i64 x.host) rfl rfl rfl (r_load1 rfl rfl rfl rfl rfl get_here rfl rfl) ?_
 refine OA.p (some 4) (.int .i64 x.host) rfl rfl rfl rfl ?_
 refine OA.nil ?_
 intro _
 refine RA.seq hd ?_
 refine RA.region env_ok ?_
 refine OA.p (some 25) (.int .i64 x.host) rfl rfl rfl rfl ?_
 by_cases hc1 : sm x.host
 ·
  refine OA.callP (dst := (some 26)) (all := [(.int .i64 x.host)]) (v := (.bool true)) (hd.of (by omega) (kb2 (by omega))) rfl rfl rfl rfl rfl rfl rfl rfl (PS.to (tSmall _) (show (.bool (decide (sm x.host))) = ((.bool true) : Value) from (by first | (rw [decide_eq_true hc1]; done) | (rw [decide_eq_true hc1]; rfl)))) ?_
  intro n1 hn1
  refine OA.p (some 27) (.bool false) rfl rfl rfl rfl ?_
  refine OA.nil ?_
  intro _
  refine RA.rebase [(0, (.agg ⟨(cAct x)⟩)), (1, (Pt n 0 0)), (2, (.bool false)), (4, (.int .i64 x.host)), (19, (.slice (some ⟨(n + 1), 0, none⟩) 7 0)), (20, (.int .i64 7)), (21, (.int .i64 0)), (22, (.bool true)), (27, (.bool false))] ⟨rfl, rfl, rfl, rfl, rfl, rfl, rfl, rfl, rfl, trivial⟩ (fun τr2 => ?_)
  refine RA.condF rfl ?_
  refine RA.skip env_ok ?_
  intro _
  refine RA.region env_ok ?_
  refine OA.p (some 28) (.int .i64 1) rfl rfl rfl (r_bin rfl rfl rfl (b_add (i64_eq (by omega)))) ?_
  refine OA.p (some 21) (.int .i64 1) rfl rfl rfl rfl ?_
  refine OA.nil ?_
  intro _
  refine RA.unroll hd ?_
  refine RA.seq hd ?_
  refine RA.region env_ok ?_
  refine OA.p (some 22) (.bool true) rfl rfl rfl (r_bin rfl rfl rfl (b_lss rfl)) ?_
  refine OA.nil ?_
  intro _
  refine RA.seq hd ?_
  refine RA.condT rfl ?_
  refine RA.skip env_ok ?_
  intro _
  refine RA.seq hd ?_
  refine RA.block ?_
  refine RA.seq hd ?_
  refine RA.region env_ok ?_
  refine OA.p (some 23) (.pointer (some ⟨(n + 1), 1, some 0⟩)) rfl rfl rfl (r_iaS (l := 1) rfl rfl rfl rfl rfl rfl (by omega) (by omega) get_here rfl (by omega)) ?_
  refine OA.p (some 24) (.int .i64 x.a) rfl rfl rfl (r_load1 rfl rfl rfl rfl rfl get_here rfl rfl) ?_
  refine OA.p (some 4) (.int .i64 x.a) rfl rfl rfl rfl ?_
  refine OA.nil ?_
  intro _
  refine RA.seq hd ?_
  refine RA.region env_ok ?_
  refine OA.p (some 25) (.int .i64 x.a) rfl rfl rfl rfl ?_
  by_cases hc2 : sm x.a
  ·
   refine OA.callP (dst := (some 26)) (all := [(.int .i64 x.a)]) (v := (.bool true)) (hd.of (by omega) (kb2 (by omega))) rfl rfl rfl rfl rfl rfl rfl rfl (PS.to (tSmall _) (show (.bool (decide (sm x.a))) = ((.bool true) : Value) from (by first | (rw [decide_eq_true hc2]; done) | (rw [decide_eq_true hc2]; rfl)))) ?_
   intro n3 hn3
   refine OA.p (some 27) (.bool false) rfl rfl rfl rfl ?_
   refine OA.nil ?_
   intro _
   refine RA.condF rfl ?_
   refine RA.skip env_ok ?_
   intro _
   refine RA.region env_ok ?_
   refine OA.p (some 28) (.int .i64 2) rfl rfl rfl (r_bin rfl rfl rfl (b_add (i64_eq (by omega)))) ?_
   refine OA.p (some 21) (.int .i64 2) rfl rfl rfl rfl ?_
   refine OA.nil ?_
   intro _
   refine RA.unroll hd ?_
   refine RA.seq hd ?_
   refine RA.region env_ok ?_
   refine OA.p (some 22) (.bool true) rfl rfl rfl (r_bin rfl rfl rfl (b_lss rfl)) ?_
   refine OA.nil ?_
   intro _
   refine RA.seq hd ?_
   refine RA.condT rfl ?_
   refine RA.skip env_ok ?_
   intro _
   refine RA.seq hd ?_
   refine RA.block ?_
   refine RA.seq hd ?_
   refine RA.region env_ok ?_
   refine OA.p (some 23) (.pointer (some ⟨(n + 1), 2, some 0⟩)) rfl rfl rfl (r_iaS (l := 2) rfl rfl rfl rfl rfl rfl (by omega) (by omega) get_here rfl (by omega)) ?_
   refine OA.p (some 24) (.int .i64 x.b) rfl rfl rfl (r_load1 rfl rfl rfl rfl rfl get_here rfl rfl) ?_
   refine OA.p (some 4) (.int .i64 x.b) rfl rfl rfl rfl ?_
   refine OA.nil ?_
   intro _
   refine RA.seq hd ?_
   refine RA.region env_ok ?_
   refine OA.p (some 25) (.int .i64 x.b) rfl rfl rfl rfl ?_
   by_cases hc3 : sm x.b
   ·
    refine OA.callP (dst := (some 26)) (all := [(.int .i64 x.b)]) (v := (.bool true)) (hd.of (by omega) (kb2 (by omega))) rfl rfl rfl rfl rfl rfl rfl rfl (PS.to (tSmall _) (show (.bool (decide (sm x.b))) = ((.bool true) : Value) from (by first | (rw [decide_eq_true hc3]; done) | (rw [decide_eq_true hc3]; rfl)))) ?_
    intro n4 hn4
    refine OA.p (some 27) (.bool false) rfl rfl rfl rfl ?_
    refine OA.nil ?_
    intro _
    refine RA.condF rfl ?_
    refine RA.skip env_ok ?_
    intro _
    refine RA.region env_ok ?_
    refine OA.p (some 28) (.int .i64 3) rfl rfl rfl (r_bin rfl rfl rfl (b_add (i64_eq (by omega)))) ?_
    refine OA.p (some 21) (.int .i64 3) rfl rfl rfl rfl ?_
    refine OA.nil ?_
    intro _
    refine RA.unroll hd ?_
    refine RA.seq hd ?_
    refine RA.region env_ok ?_
    refine OA.p (some 22) (.bool true) rfl rfl rfl (r_bin rfl rfl rfl (b_lss rfl)) ?_
    refine OA.nil ?_
    intro _
    refine RA.seq hd ?_
    refine RA.condT rfl ?_
    refine RA.skip env_ok ?_
    intro _
    refine RA.seq hd ?_
    refine RA.block ?_
    refine RA.seq hd ?_
    refine RA.region env_ok ?_
    refine OA.p (some 23) (.pointer (some ⟨(n + 1), 3, some 0⟩)) rfl rfl rfl (r_iaS (l := 3) rfl rfl rfl rfl rfl rfl (by omega) (by omega) get_here rfl (by omega)) ?_
    refine OA.p (some 24) (.int .i64 x.c) rfl rfl rfl (r_load1 rfl rfl rfl rfl rfl get_here rfl rfl) ?_
    refine OA.p (some 4) (.int .i64 x.c) rfl rfl rfl rfl ?_
    refine OA.nil ?_
    intro _
    refine RA.seq hd ?_
    refine RA.region env_ok ?_
    refine OA.p (some 25) (.int .i64 x.c) rfl rfl rfl rfl ?_
    by_cases hc4 : sm x.c
    ·
     refine OA.callP (dst := (some 26)) (all := [(.int .i64 x.c)]) (v := (.bool true)) (hd.of (by omega) (kb2 (by omega))) rfl rfl rfl rfl rfl rfl rfl rfl (PS.to (tSmall _) (show (.bool (decide (sm x.c))) = ((.bool true) : Value) from (by first | (rw [decide_eq_true hc4]; done) | (rw [decide_eq_true hc4]; rfl)))) ?_
     intro n5 hn5
     refine OA.p (some 27) (.bool false) rfl rfl rfl rfl ?_
     refine OA.nil ?_
     intro _
     refine RA.rebase [(0, (.agg ⟨(cAct x)⟩)), (1, (Pt n 0 0)), (2, (.bool false)), (4, (.int .i64 x.c)), (19, (.slice (some ⟨(n + 1), 0, none⟩) 7 0)), (20, (.int .i64 7)), (21, (.int .i64 3)), (22, (.bool true)), (27, (.bool false))] ⟨rfl, rfl, rfl, rfl, rfl, rfl, rfl, rfl, rfl, trivial⟩ (fun τr6 => ?_)
     refine RA.condF rfl ?_
     refine RA.skip env_ok ?_
     intro _
     refine RA.region env_ok ?_
     refine OA.p (some 28) (.int .i64 4) rfl rfl rfl (r_bin rfl rfl rfl (b_add (i64_eq (by omega)))) ?_
     refine OA.p (some 21) (.int .i64 4) rfl rfl rfl rfl ?_
     refine OA.nil ?_
     intro _
     refine RA.unroll hd ?_
     refine RA.seq hd ?_
     refine RA.region env_ok ?_
     refine OA.p (some 22) (.bool true) rfl rfl rfl (r_bin rfl rfl rfl (b_lss rfl)) ?_
     refine OA.nil ?_
     intro _
     refine RA.seq hd ?_
     refine RA.condT rfl ?_
     refine RA.skip env_ok ?_
     intro _
     refine RA.seq hd ?_
     refine RA.block ?_
     refine RA.seq hd ?_
     refine RA.region env_ok ?_
     refine OA.p (some 23) (.pointer (some ⟨(n + 1), 4, some 0⟩)) rfl rfl rfl (r_iaS (l := 4) rfl rfl rfl rfl rfl rfl (by omega) (by omega) get_here rfl (by omega)) ?_
     refine OA.p (some 24) (.int .i64 x.d) rfl rfl rfl (r_load1 rfl rfl rfl rfl rfl get_here rfl rfl) ?_
     refine OA.p (some 4) (.int .i64 x.d) rfl rfl rfl rfl ?_
     refine OA.nil ?_
     intro _
     refine RA.seq hd ?_
     refine RA.region env_ok ?_
     refine OA.p (some 25) (.int .i64 x.d) rfl rfl rfl rfl ?_
     by_cases hc5 : sm x.d
     ·
      refine OA.callP (dst := (some 26)) (all := [(.int .i64 x.d)]) (v := (.bool true)) (hd.of (by omega) (kb2 (by omega))) rfl rfl rfl rfl rfl rfl rfl rfl (PS.to (tSmall _) (show (.bool (decide (sm x.d))) = ((.bool true) : Value) from (by first | (rw [decide_eq_true hc5]; done) | (rw [decide_eq_true hc5]; rfl)))) ?_
      intro n7 hn7
      refine OA.p (some 27) (.bool false) rfl rfl rfl rfl ?_
      refine OA.nil ?_
      intro _
      refine RA.condF rfl ?_
      refine RA.skip env_ok ?_
      intro _
      refine RA.region env_ok ?_
      refine OA.p (some 28) (.int .i64 5) rfl rfl rfl (r_bin rfl rfl rfl (b_add (i64_eq (by omega)))) ?_
      refine OA.p (some 21) (.int .i64 5) rfl rfl rfl rfl ?_
      refine OA.nil ?_
      intro _
      refine RA.unroll hd ?_
      refine RA.seq hd ?_
      refine RA.region env_ok ?_
      refine OA.p (some 22) (.bool true) rfl rfl rfl (r_bin rfl rfl rfl (b_lss rfl)) ?_
      refine OA.nil ?_
      intro _
      refine RA.seq hd ?_
      refine RA.condT rfl ?_
      refine RA.skip env_ok ?_
      intro _
      refine RA.seq hd ?_
      refine RA.block ?_
      refine RA.seq hd ?_
      refine RA.region env_ok ?_
      refine OA.p (some 23) (.pointer (some ⟨(n + 1), 5, some 0⟩)) rfl rfl rfl (r_iaS (l := 5) rfl rfl rfl rfl rfl rfl (by omega) (by omega) get_here rfl (by omega)) ?_
      refine OA.p (some 24) (.int .i64 x.e) rfl rfl rfl (r_load1 rfl rfl rfl rfl rfl get_here rfl rfl) ?_
      refine OA.p (some 4) (.int .i64 x.e) rfl rfl rfl rfl ?_
      refine OA.nil ?_
      intro _
      refine RA.seq hd ?_
      refine RA.region env_ok ?_
      refine OA.p (some 25) (.int .i64 x.e) rfl rfl rfl rfl ?_
      by_cases hc6 : sm x.e
      ·
       refine OA.callP (dst := (some 26)) (all := [(.int .i64 x.e)]) (v := (.bool true)) (hd.of (by omega) (kb2 (by omega))) rfl rfl rfl rfl rfl rfl rfl rfl (PS.to (tSmall _) (show (.bool (decide (sm x.e))) = ((.bool true) : Value) from (by first | (rw [decide_eq_true hc6]; done) | (rw [decide_eq_true hc6]; rfl)))) ?_
       intro n8 hn8
       refine OA.p (some 27) (.bool false) rfl rfl rfl rfl ?_
       refine OA.nil ?_
       intro _
       refine RA.condF rfl ?_
       refine RA.skip env_ok ?_
       intro _
       refine RA.region env_ok ?_
       refine OA.p (some 28) (.int .i64 6) rfl rfl rfl (r_bin rfl rfl rfl (b_add (i64_eq (by omega)))) ?_
       refine OA.p (some 21) (.int .i64 6) rfl rfl rfl rfl ?_
       refine OA.nil ?_
       intro _
       refine RA.unroll hd ?_
       refine RA.seq hd ?_
       refine RA.region env_ok ?_
       refine OA.p (some 22) (.bool true) rfl rfl rfl (r_bin rfl rfl rfl (b_lss rfl)) ?_
       refine OA.nil ?_
       intro _
       refine RA.seq hd ?_
       refine RA.condT rfl ?_
       refine RA.skip env_ok ?_
       intro _
       refine RA.seq hd ?_
       refine RA.block ?_
       refine RA.seq hd ?_
       refine RA.region env_ok ?_
       refine OA.p (some 23) (.pointer (some ⟨(n + 1), 6, some 0⟩)) rfl rfl rfl (r_iaS (l := 6) rfl rfl rfl rfl rfl rfl (by omega) (by omega) get_here rfl (by omega)) ?_
       refine OA.p (some 24) (.int .i64 x.f) rfl rfl rfl (r_load1 rfl rfl rfl rfl rfl get_here rfl rfl) ?_
       refine OA.p (some 4) (.int .i64 x.f) rfl rfl rfl rfl ?_
       refine OA.nil ?_
       intro _
       refine RA.seq hd ?_
       refine RA.region env_ok ?_
       refine OA.p (some 25) (.int .i64 x.f) rfl rfl rfl rfl ?_
       by_cases hc7 : sm x.f
       ·
        refine OA.callP (dst := (some 26)) (all := [(.int .i64 x.f)]) (v := (.bool true)) (hd.of (by omega) (kb2 (by omega))) rfl rfl rfl rfl rfl rfl rfl rfl (PS.to (tSmall _) (show (.bool (decide (sm x.f))) = ((.bool true) : Value) from (by first | (rw [decide_eq_true hc7]; done) | (rw [decide_eq_true hc7]; rfl)))) ?_
        intro n9 hn9
        refine OA.p (some 27) (.bool false) rfl rfl rfl rfl ?_
        refine OA.nil ?_
        intro _
        refine RA.rebase [(0, (.agg ⟨(cAct x)⟩)), (1, (Pt n 0 0)), (2, (.bool false)), (4, (.int .i64 x.f)), (19, (.slice (some ⟨(n + 1), 0, none⟩) 7 0)), (20, (.int .i64 7)), (21, (.int .i64 6)), (22, (.bool true)), (27, (.bool false))] ⟨rfl, rfl, rfl, rfl, rfl, rfl, rfl, rfl, rfl, trivial⟩ (fun τr10 => ?_)
        refine RA.condF rfl ?_
        refine RA.skip env_ok ?_
        intro _
        refine RA.region env_ok ?_
        refine OA.p (some 28) (.int .i64 7) rfl rfl rfl (r_bin rfl rfl rfl (b_add (i64_eq (by omega)))) ?_
        refine OA.p (some 21) (.int .i64 7) rfl rfl rfl rfl ?_
        refine OA.nil ?_
        intro _
        refine RA.unroll hd ?_
        refine RA.seq hd ?_
        refine RA.region env_ok ?_
        refine OA.p (some 22) (.bool false) rfl rfl rfl (r_bin rfl rfl rfl (b_lss rfl)) ?_
        refine OA.nil ?_
        intro _
        refine RA.seq hd ?_
        refine RA.condF rfl ?_
        refine RA.exit env_ok ?_
        intro _
        refine RA.seq hd ?_
        refine RA.region env_ok ?_
        refine OA.p (some 29) (Pt n 0 0) rfl rfl rfl rfl ?_
        refine OA.p (some 30) (.int .i64 x.what) rfl rfl rfl (r_load1 rfl rfl rfl rfl rfl (get_there (by omega) get_here) rfl rfl) ?_
        by_cases hc8 : 0 ≤ x.what
        ·
         refine OA.p (some 31) (.bool true) rfl rfl rfl (Eq.trans (r_bin rfl rfl rfl (b_geq rfl)) (dT hc8)) ?_
         refine OA.p (some 32) (.bool true) rfl rfl rfl rfl ?_
         refine OA.p (some 33) (Pt n 0 0) rfl rfl rfl rfl ?_
         refine OA.p (some 34) (.int .i64 x.what) rfl rfl rfl (r_load1 rfl rfl rfl rfl rfl (get_there (by omega) get_here) rfl rfl) ?_
         by_cases hc9 : x.what < 256
         ·
          refine OA.p (some 35) (.bool true) rfl rfl rfl (Eq.trans (r_bin rfl rfl rfl (b_lss rfl)) (dT hc9)) ?_
          refine OA.p (some 36) (.bool true) rfl rfl rfl rfl ?_
          refine OA.p (some 37) (.bool true) rfl rfl rfl rfl ?_
          refine OA.p (some 38) (Pt n 0 8) rfl rfl rfl rfl ?_
          refine OA.p (some 39) (.string x.s) rfl rfl rfl (r_load1 rfl rfl rfl rfl rfl (get_there (by omega) get_here) rfl rfl) ?_
          refine OA.p (some 40) (.int .i64 ((x.s.size : Nat) : Int)) rfl rfl rfl rfl ?_
          refine OA.p (some 41) (.bool (decide (((x.s.size : Nat) : Int) < 65536))) rfl rfl rfl (r_bin rfl rfl rfl (b_lss rfl)) ?_
          refine OA.p (some 42) (.bool (decide (((x.s.size : Nat) : Int) < 65536))) rfl rfl rfl rfl ?_
          refine OA.p (some 2) (.bool (decide (((x.s.size : Nat) : Int) < 65536))) rfl rfl rfl rfl ?_
          refine OA.nil ?_
          intro _
          refine RA.ret env_ok ?_
          refine ⟨.inr rfl, [(.bool (decide (((x.s.size : Nat) : Int) < 65536)))], (resL_cons rfl resL_nil), (congrArg Value.bool (decide_eq_decide.2 ⟨fun hh => (⟨hc1, hc2, hc3, hc4, hc5, hc6, hc7, hc8, hc9, hh⟩ : MayA x), fun hh : MayA x => hh.2.2.2.2.2.2.2.2.2⟩)), (kc2 (by omega))⟩
         ·
          refine OA.p (some 35) (.bool false) rfl rfl rfl (Eq.trans (r_bin rfl rfl rfl (b_lss rfl)) (dF hc9)) ?_
          refine OA.p (some 36) (.bool false) rfl rfl rfl rfl ?_
          refine OA.p (some 37) (.bool false) rfl rfl rfl rfl ?_
          refine OA.off (dst := (some 38)) rfl rfl rfl ?_
          refine OA.off (dst := (some 39)) rfl rfl rfl ?_
          refine OA.off (dst := (some 40)) rfl rfl rfl ?_
          refine OA.off (dst := (some 41)) rfl rfl rfl ?_
          refine OA.p (some 42) (.bool false) rfl rfl rfl rfl ?_
          refine OA.p (some 2) (.bool false) rfl rfl rfl rfl ?_
          refine OA.nil ?_
          intro _
          refine RA.ret env_ok ?_
          refine ⟨.inr rfl, [(.bool false)], (resL_cons rfl resL_nil), (congrArg Value.bool (decide_eq_false (fun hh : MayA x => hc9 (hh.2.2.2.2.2.2.2.2.1))).symm), (kc2 (by omega))⟩
        ·
         refine OA.p (some 31) (.bool false) rfl rfl rfl (Eq.trans (r_bin rfl rfl rfl (b_geq rfl)) (dF hc8)) ?_
         refine OA.p (some 32) (.bool false) rfl rfl rfl rfl ?_
         refine OA.off (dst := (some 33)) rfl rfl rfl ?_
         refine OA.off (dst := (some 34)) rfl rfl rfl ?_
         refine OA.off (dst := (some 35)) rfl rfl rfl ?_
         refine OA.p (some 36) (.bool false) rfl rfl rfl rfl ?_
         refine OA.p (some 37) (.bool false) rfl rfl rfl rfl ?_
         refine OA.off (dst := (some 38)) rfl rfl rfl ?_
         refine OA.off (dst := (some 39)) rfl rfl rfl ?_
         refine OA.off (dst := (some 40)) rfl rfl rfl ?_
         refine OA.off (dst := (some 41)) rfl rfl rfl ?_
         refine OA.p (some 42) (.bool false) rfl rfl rfl rfl ?_
         refine OA.p (some 2) (.bool false) rfl rfl rfl rfl ?_
         refine OA.nil ?_
         intro _
         refine RA.ret env_ok ?_
         refine ⟨.inr rfl, [(.bool false)], (resL_cons rfl resL_nil), (congrArg Value.bool (decide_eq_false (fun hh : MayA x => hc8 (hh.2.2.2.2.2.2.2.1))).symm), (kc2 (by omega))⟩
       ·
        refine OA.callP (dst := (some 26)) (all := [(.int .i64 x.f)]) (v := (.bool false)) (hd.of (by omega) (kb2 (by omega))) rfl rfl rfl rfl rfl rfl rfl rfl (PS.to (tSmall _) (show (.bool (decide (sm x.f))) = ((.bool false) : Value) from (by first | (rw [decide_eq_false hc7]; done) | (rw [decide_eq_false hc7]; rfl)))) ?_
        intro n11 hn11
        refine OA.p (some 27) (.bool true) rfl rfl rfl rfl ?_
        refine OA.nil ?_
        intro _
        refine RA.rebase [(0, (.agg ⟨(cAct x)⟩)), (1, (Pt n 0 0)), (2, (.bool false)), (4, (.int .i64 x.f)), (19, (.slice (some ⟨(n + 1), 0, none⟩) 7 0)), (20, (.int .i64 7)), (21, (.int .i64 6)), (22, (.bool true)), (27, (.bool true))] ⟨rfl, rfl, rfl, rfl, rfl, rfl, rfl, rfl, rfl, trivial⟩ (fun τr12 => ?_)
        refine RA.condT rfl ?_
        refine RA.seq hd ?_
        refine RA.region env_ok ?_
        refine OA.p (some 2) (.bool false) rfl rfl rfl rfl ?_
        refine OA.nil ?_
        intro _
        refine RA.ret env_ok ?_
        refine ⟨.inr rfl, [(.bool false)], (resL_cons rfl resL_nil), (congrArg Value.bool (decide_eq_false (fun hh : MayA x => hc7 (hh.2.2.2.2.2.2.1))).symm), (kc2 (by omega))⟩
      ·
       refine OA.callP (dst := (some 26)) (all := [(.int .i64 x.e)]) (v := (.bool false)) (hd.of (by omega) (kb2 (by omega))) rfl rfl rfl rfl rfl rfl rfl rfl (PS.to (tSmall _) (show (.bool (decide (sm x.e))) = ((.bool false) : Value) from (by first | (rw [decide_eq_false hc6]; done) | (rw [decide_eq_false hc6]; rfl)))) ?_
       intro n13 hn13
       refine OA.p (some 27) (.bool true) rfl rfl rfl rfl ?_
       refine OA.nil ?_
       intro _
       refine RA.condT rfl ?_
       refine RA.seq hd ?_
       refine RA.region env_ok ?_
       refine OA.p (some 2) (.bool false) rfl rfl rfl rfl ?_
       refine OA.nil ?_
       intro _
       refine RA.ret env_ok ?_
       refine ⟨.inr rfl, [(.bool false)], (resL_cons rfl resL_nil), (congrArg Value.bool (decide_eq_false (fun hh : MayA x => hc6 (hh.2.2.2.2.2.1))).symm), (kc2 (by omega))⟩
     ·
      refine OA.callP (dst := (some 26)) (all := [(.int .i64 x.d)]) (v := (.bool false)) (hd.of (by omega) (kb2 (by omega))) rfl rfl rfl rfl rfl rfl rfl rfl (PS.to (tSmall _) (show (.bool (decide (sm x.d))) = ((.bool false) : Value) from (by first | (rw [decide_eq_false hc5]; done) | (rw [decide_eq_false hc5]; rfl)))) ?_
      intro n14 hn14
      refine OA.p (some 27) (.bool true) rfl rfl rfl rfl ?_
      refine OA.nil ?_
      intro _
      refine RA.condT rfl ?_
      refine RA.seq hd ?_
      refine RA.region env_ok ?_
      refine OA.p (some 2) (.bool false) rfl rfl rfl rfl ?_
      refine OA.nil ?_
      intro _
      refine RA.ret env_ok ?_
      refine ⟨.inr rfl, [(.bool false)], (resL_cons rfl resL_nil), (congrArg Value.bool (decide_eq_false (fun hh : MayA x => hc5 (hh.2.2.2.2.1))).symm), (kc2 (by omega))⟩
    ·
     refine OA.callP (dst := (some 26)) (all := [(.int .i64 x.c)]) (v := (.bool false)) (hd.of (by omega) (kb2 (by omega))) rfl rfl rfl rfl rfl rfl rfl rfl (PS.to (tSmall _) (show (.bool (decide (sm x.c))) = ((.bool false) : Value) from (by first | (rw [decide_eq_false hc4]; done) | (rw [decide_eq_false hc4]; rfl)))) ?_
     intro n15 hn15
     refine OA.p (some 27) (.bool true) rfl rfl rfl rfl ?_
     refine OA.nil ?_
     intro _
     refine RA.rebase [(0, (.agg ⟨(cAct x)⟩)), (1, (Pt n 0 0)), (2, (.bool false)), (4, (.int .i64 x.c)), (19, (.slice (some ⟨(n + 1), 0, none⟩) 7 0)), (20, (.int .i64 7)), (21, (.int .i64 3)), (22, (.bool true)), (27, (.bool true))] ⟨rfl, rfl, rfl, rfl, rfl, rfl, rfl, rfl, rfl, trivial⟩ (fun τr16 => ?_)
     refine RA.condT rfl ?_
     refine RA.seq hd ?_
     refine RA.region env_ok ?_
     refine OA.p (some 2) (.bool false) rfl rfl rfl rfl ?_
     refine OA.nil ?_
     intro _
     refine RA.ret env_ok ?_
     refine ⟨.inr rfl, [(.bool false)], (resL_cons rfl resL_nil), (congrArg Value.bool (decide_eq_false (fun hh : MayA x => hc4 (hh.2.2.2.1))).symm), (kc2 (by omega))⟩
   ·
    refine OA.callP (dst := (some 26)) (all := [(.int .i64 x.b)]) (v := (.bool false)) (hd.of (by omega) (kb2 (by omega))) rfl rfl rfl rfl rfl rfl rfl rfl (PS.to (tSmall _) (show (.bool (decide (sm x.b))) = ((.bool false) : Value) from (by first | (rw [decide_eq_false hc3]; done) | (rw [decide_eq_false hc3]; rfl)))) ?_
    intro n17 hn17
    refine OA.p (some 27) (.bool true) rfl rfl rfl rfl ?_
    refine OA.nil ?_
    intro _
    refine RA.condT rfl ?_
    refine RA.seq hd ?_
    refine RA.region env_ok ?_
    refine OA.p (some 2) (.bool false) rfl rfl rfl rfl ?_
    refine OA.nil ?_
    intro _
    refine RA.ret env_ok ?_
    refine ⟨.inr rfl, [(.bool false)], (resL_cons rfl resL_nil), (congrArg Value.bool (decide_eq_false (fun hh : MayA x => hc3 (hh.2.2.1))).symm), (kc2 (by omega))⟩
  ·
   refine OA.callP (dst := (some 26)) (all := [(.int .i64 x.a)]) (v := (.bool false)) (hd.of (by omega) (kb2 (by omega))) rfl rfl rfl rfl rfl rfl rfl rfl (PS.to (tSmall _) (show (.bool (decide (sm x.a))) = ((.bool false) : Value) from (by first | (rw [decide_eq_false hc2]; done) | (rw [decide_eq_false hc2]; rfl)))) ?_
   intro n18 hn18
   refine OA.p (some 27) (.bool true) rfl rfl rfl rfl ?_
   refine OA.nil ?_
   intro _
   refine RA.condT rfl ?_
   refine RA.seq hd ?_
   refine RA.region env_ok ?_
   refine OA.p (some 2) (.bool false) rfl rfl rfl rfl ?_
   refine OA.nil ?_
   intro _
   refine RA.ret env_ok ?_
   refine ⟨.inr rfl, [(.bool false)], (resL_cons rfl resL_nil), (congrArg Value.bool (decide_eq_false (fun hh : MayA x => hc2 (hh.2.1))).symm), (kc2 (by omega))⟩
 ·
  refine OA.callP (dst := (some 26)) (all := [(.int .i64 x.host)]) (v := (.bool false)) (hd.of (by omega) (kb2 (by omega))) rfl rfl rfl rfl rfl rfl rfl rfl (PS.to (tSmall _) (show (.bool (decide (sm x.host))) = ((.bool false) : Value) from (by first | (rw [decide_eq_false hc1]; done) | (rw [decide_eq_false hc1]; rfl)))) ?_
  intro n19 hn19
  refine OA.p (some 27) (.bool true) rfl rfl rfl rfl ?_
  refine OA.nil ?_
  intro _
  refine RA.rebase [(0, (.agg ⟨(cAct x)⟩)), (1, (Pt n 0 0)), (2, (.bool false)), (4, (.int .i64 x.host)), (19, (.slice (some ⟨(n + 1), 0, none⟩) 7 0)), (20, (.int .i64 7)), (21, (.int .i64 0)), (22, (.bool true)), (27, (.bool true))] ⟨rfl, rfl, rfl, rfl, rfl, rfl, rfl, rfl, rfl, trivial⟩ (fun τr20 => ?_)
  refine RA.condT rfl ?_
  refine RA.seq hd ?_
  refine RA.region env_ok ?_
  refine OA.p (some 2) (.bool false) rfl rfl rfl rfl ?_
  refine OA.nil ?_
  intro _
  refine RA.ret env_ok ?_
  refine ⟨.inr rfl, [(.bool false)], (resL_cons rfl resL_nil), (congrArg Value.bool (decide_eq_false (fun hh : MayA x => hc1 (hh.1))).symm), (kc2 (by omega))⟩

theorem tAct {σ : Store} (x : Act)   : PS Try.prog noDen 12 [(.agg ⟨(cAct x)⟩)] σ (.string (actF x)) := by
 refine PS.body (E := env) env_ok rfl rfl (by show _ ≤ _; exact of_decide_eq_true (by kernel_rfl)) (fun n hd => ?_)
 refine RA.seq hd ?_
 refine RA.region env_ok ?_
 refine OA.op1 (dst := (some 1)) (v := (Pt n 0 0)) (n1 := (n + 1)) (w := (n, some ⟨[(cAct x)], 9, 24, true⟩)) rfl rfl rfl rfl (by omega) ?_
 refine OA.p (some 2) (.string (ByteArray.mk #[])) rfl rfl rfl rfl ?_
 refine OA.nil ?_
 intro _
 refine RA.seq hd ?_
 refine RA.seq hd ?_
 refine RA.region env_ok ?_
 refine OA.p (some 6) (.agg ⟨(xTr11 x)⟩) rfl rfl rfl (r_loadA rfl rfl rfl rfl get_here rfl rfl rfl) ?_
 by_cases hc1 : MayA x
 ·
  obtain ⟨_, _, _, _, _, _, _, hw1, hw2, hw3⟩ := id hc1
  refine OA.callP (dst := (some 7)) (all := [(.agg ⟨(xTr11 x)⟩)]) (v := (.bool true)) (hd.of (by omega) (kb1 (by omega))) rfl rfl rfl rfl rfl rfl rfl rfl (PS.to (tMay x) (show (.bool (decide (MayA x))) = ((.bool true) : Value) from (by first | (rw [decide_eq_true hc1]; done) | (rw [decide_eq_true hc1]; rfl)))) ?_
  intro n1 hn1
  refine OA.p (some 8) (.bool false) rfl rfl rfl rfl ?_
  refine OA.nil ?_
  intro _
  refine RA.condF rfl ?_
  refine RA.skip env_ok ?_
  intro _
  refine RA.seq hd ?_
  refine RA.region env_ok ?_
  refine OA.p (some 9) (Pt n 0 0) rfl rfl rfl rfl ?_
  refine OA.p (some 10) (.int .i64 x.what) rfl rfl rfl (r_load1 rfl rfl rfl rfl rfl get_here rfl rfl) ?_
  refine OA.callP (dst := (some 11)) (all := [(.int .i64 x.what)]) (v := (.string (bstr [UInt8.ofNat x.what.toNat]))) (hd.of (by omega) (kb1 (by omega))) rfl rfl rfl rfl rfl rfl rfl rfl (tU8 x.what hw1 hw2) ?_
  intro n2 hn2
  refine OA.p (some 3) (.string (bstr [UInt8.ofNat x.what.toNat])) rfl rfl rfl rfl ?_
  refine OA.nil ?_
  intro _
  refine RA.seq hd ?_
  refine RA.seq hd ?_
  refine RA.region env_ok ?_
  refine OA.p (some 12) (Pt n 0 1) rfl rfl rfl rfl ?_
  refine OA.p (some 13) (.int .i64 x.host) rfl rfl rfl (r_load1 rfl rfl rfl rfl rfl get_here rfl rfl) ?_
  refine OA.p (some 14) (Pt n 0 2) rfl rfl rfl rfl ?_
  refine OA.p (some 15) (.int .i64 x.a) rfl rfl rfl (r_load1 rfl rfl rfl rfl rfl get_here rfl rfl) ?_
  refine OA.p (some 16) (Pt n 0 3) rfl rfl rfl rfl ?_
  refine OA.p (some 17) (.int .i64 x.b) rfl rfl rfl (r_load1 rfl rfl rfl rfl rfl get_here rfl rfl) ?_
  refine OA.p (some 18) (Pt n 0 4) rfl rfl rfl rfl ?_
  refine OA.p (some 19) (.int .i64 x.c) rfl rfl rfl (r_load1 rfl rfl rfl rfl rfl get_here rfl rfl) ?_
  refine OA.p (some 20) (Pt n 0 5) rfl rfl rfl rfl ?_
  refine OA.p (some 21) (.int .i64 x.d) rfl rfl rfl (r_load1 rfl rfl rfl rfl rfl get_here rfl rfl) ?_
  refine OA.p (some 22) (Pt n 0 6) rfl rfl rfl rfl ?_
  refine OA.p (some 23) (.int .i64 x.e) rfl rfl rfl (r_load1 rfl rfl rfl rfl rfl get_here rfl rfl) ?_
  refine OA.p (some 24) (Pt n 0 7) rfl rfl rfl rfl ?_
  refine OA.p (some 25) (.int .i64 x.f) rfl rfl rfl (r_load1 rfl rfl rfl rfl rfl get_here rfl rfl) ?_
  refine OA.op1 (dst := (some 26)) (v := (.slice (some ⟨n2, 0, none⟩) 7 0)) (n1 := (n2 + 1)) (w := (n2, some ⟨[[(.int .i64 x.host)], [(.int .i64 x.a)], [(.int .i64 x.b)], [(.int .i64 x.c)], [(.int .i64 x.d)], [(.int .i64 x.e)], [(.int .i64 x.f)]], 1, 3, true⟩)) rfl rfl rfl (by kernel_rfl) (by omega) ?_
  refine OA.p (some 27) (.int .i64 7) rfl rfl rfl rfl ?_
  refine OA.p (some 28) (.int .i64 0) rfl rfl rfl rfl ?_
  refine OA.nil ?_
  intro _
  refine RA.rebase [(0, (.agg ⟨(cAct x)⟩)), (1, (Pt n 0 0)), (2, (.string (ByteArray.mk #[]))), (3, (.string (bstr [UInt8.ofNat x.what.toNat]))), (8, (.bool false)), (26, (.slice (some ⟨n2, 0, none⟩) 7 0)), (27, (.int .i64 7)), (28, (.int .i64 0))] ⟨rfl, rfl, rfl, rfl, rfl, rfl, rfl, rfl, trivial⟩ (fun τr3 => ?_)
  refine RA.block ?_
  refine RA.unroll hd ?_
  refine RA.seq hd ?_
  refine RA.region env_ok ?_
  refine OA.p (some 29) (.bool true) rfl rfl rfl (r_bin rfl rfl rfl (b_lss rfl)) ?_
  refine OA.nil ?_
  intro _
  refine RA.seq hd ?_
  refine RA.condT rfl ?_
  refine RA.skip env_ok ?_
  intro _
  refine RA.seq hd ?_
  refine RA.block ?_
  refine RA.seq hd ?_
  refine RA.region env_ok ?_
  refine OA.p (some 30) (Pt n2 0 0) rfl rfl rfl (r_iaS (l := 0) rfl rfl rfl rfl rfl rfl (by omega) (by omega) get_here rfl (by omega)) ?_
  refine OA.p (some 31) (.int .i64 x.host) rfl rfl rfl (r_load1 rfl rfl rfl rfl rfl get_here rfl rfl) ?_
  refine OA.p (some 5) (.int .i64 x.host) rfl rfl rfl rfl ?_
  refine OA.nil ?_
  intro _
  refine RA.region env_ok ?_
  refine OA.p (some 32) (.string (bstr [UInt8.ofNat x.what.toNat])) rfl rfl rfl rfl ?_
  refine OA.p (some 33) (.int .i64 x.host) rfl rfl rfl rfl ?_
  refine OA.callP (dst := (some 34)) (all := [(.int .i64 x.host)]) (v := (.string (bstr (be4 (BitVec.ofInt 32 x.host))))) (hd.of (by omega) (kb2 (by omega))) rfl rfl rfl rfl rfl rfl rfl rfl (tSign _) ?_
  intro n4 hn4
  refine OA.p (some 35) (.string ((bstr [UInt8.ofNat x.what.toNat]) ++ (bstr (be4 (BitVec.ofInt 32 x.host))))) rfl rfl rfl (r_cat rfl rfl rfl (by (try simp only [ByteArray.size_append, bstr_size, size_lit, List.size_toArray, List.length_cons, List.length_nil, List.length_take, List.length_drop, List.length_replicate, be4_len, be2_len]); try omega)) ?_
  refine OA.p (some 3) (.string ((bstr [UInt8.ofNat x.what.toNat]) ++ (bstr (be4 (BitVec.ofInt 32 x.host))))) rfl rfl rfl rfl ?_
  refine OA.nil ?_
  intro _
  refine RA.region env_ok ?_
  refine OA.p (some 36) (.int .i64 1) rfl rfl rfl (r_bin rfl rfl rfl (b_add (i64_eq (by omega)))) ?_
  refine OA.p (some 28) (.int .i64 1) rfl rfl rfl rfl ?_
  refine OA.nil ?_
  intro _
  refine RA.unroll hd ?_
  refine RA.seq hd ?_
  refine RA.region env_ok ?_
  refine OA.p (some 29) (.bool true) rfl rfl rfl (r_bin rfl rfl rfl (b_lss rfl)) ?_
  refine OA.nil ?_
  intro _
  refine RA.seq hd ?_
  refine RA.condT rfl ?_
  refine RA.skip env_ok ?_
  intro _
  refine RA.seq hd ?_
  refine RA.block ?_
  refine RA.seq hd ?_
  refine RA.region env_ok ?_
  refine OA.p (some 30) (Pt n2 1 0) rfl rfl rfl (r_iaS (l := 1) rfl rfl rfl rfl rfl rfl (by omega) (by omega) get_here rfl (by omega)) ?_
  refine OA.p (some 31) (.int .i64 x.a) rfl rfl rfl (r_load1 rfl rfl rfl rfl rfl get_here rfl rfl) ?_
  refine OA.p (some 5) (.int .i64 x.a) rfl rfl rfl rfl ?_
  refine OA.nil ?_
  intro _
  refine RA.region env_ok ?_
  refine OA.p (some 32) (.string ((bstr [UInt8.ofNat x.what.toNat]) ++ (bstr (be4 (BitVec.ofInt 32 x.host))))) rfl rfl rfl rfl ?_
  refine OA.p (some 33) (.int .i64 x.a) rfl rfl rfl rfl ?_
  refine OA.callP (dst := (some 34)) (all := [(.int .i64 x.a)]) (v := (.string (bstr (be4 (BitVec.ofInt 32 x.a))))) (hd.of (by omega) (kb2 (by omega))) rfl rfl rfl rfl rfl rfl rfl rfl (tSign _) ?_
  intro n5 hn5
  refine OA.p (some 35) (.string (((bstr [UInt8.ofNat x.what.toNat]) ++ (bstr (be4 (BitVec.ofInt 32 x.host)))) ++ (bstr (be4 (BitVec.ofInt 32 x.a))))) rfl rfl rfl (r_cat rfl rfl rfl (by (try simp only [ByteArray.size_append, bstr_size, size_lit, List.size_toArray, List.length_cons, List.length_nil, List.length_take, List.length_drop, List.length_replicate, be4_len, be2_len]); try omega)) ?_
  refine OA.p (some 3) (.string (((bstr [UInt8.ofNat x.what.toNat]) ++ (bstr (be4 (BitVec.ofInt 32 x.host)))) ++ (bstr (be4 (BitVec.ofInt 32 x.a))))) rfl rfl rfl rfl ?_
  refine OA.nil ?_
  intro _
  refine RA.region env_ok ?_
  refine OA.p (some 36) (.int .i64 2) rfl rfl rfl (r_bin rfl rfl rfl (b_add (i64_eq (by omega)))) ?_
  refine OA.p (some 28) (.int .i64 2) rfl rfl rfl rfl ?_
  refine OA.nil ?_
  intro _
  refine RA.unroll hd ?_
  refine RA.seq hd ?_
  refine RA.region env_ok ?_
  refine OA.p (some 29) (.bool true) rfl rfl rfl (r_bin rfl rfl rfl (b_lss rfl)) ?_
  refine OA.nil ?_
  intro _
  refine RA.seq hd ?_
  refine RA.condT rfl ?_
  refine RA.skip env_ok ?_
  intro _
  refine RA.seq hd ?_
  refine RA.block ?_
  refine RA.seq hd ?_
  refine RA.region env_ok ?_
  refine OA.p (some 30) (Pt n2 2 0) rfl rfl rfl (r_iaS (l := 2) rfl rfl rfl rfl rfl rfl (by omega) (by omega) get_here rfl (by omega)) ?_
  refine OA.p (some 31) (.int .i64 x.b) rfl rfl rfl (r_load1 rfl rfl rfl rfl rfl get_here rfl rfl) ?_
  refine OA.p (some 5) (.int .i64 x.b) rfl rfl rfl rfl ?_
  refine OA.nil ?_
  intro _
  refine RA.rebase [(0, (.agg ⟨(cAct x)⟩)), (1, (Pt n 0 0)), (2, (.string (ByteArray.mk #[]))), (3, (.string (((bstr [UInt8.ofNat x.what.toNat]) ++ (bstr (be4 (BitVec.ofInt 32 x.host)))) ++ (bstr (be4 (BitVec.ofInt 32 x.a)))))), (5, (.int .i64 x.b)), (8, (.bool false)), (26, (.slice (some ⟨n2, 0, none⟩) 7 0)), (27, (.int .i64 7)), (28, (.int .i64 2)), (29, (.bool true))] ⟨rfl, rfl, rfl, rfl, rfl, rfl, rfl, rfl, rfl, rfl, trivial⟩ (fun τr6 => ?_)
  refine RA.region env_ok ?_
  refine OA.p (some 32) (.string (((bstr [UInt8.ofNat x.what.toNat]) ++ (bstr (be4 (BitVec.ofInt 32 x.host)))) ++ (bstr (be4 (BitVec.ofInt 32 x.a))))) rfl rfl rfl rfl ?_
  refine OA.p (some 33) (.int .i64 x.b) rfl rfl rfl rfl ?_
  refine OA.callP (dst := (some 34)) (all := [(.int .i64 x.b)]) (v := (.string (bstr (be4 (BitVec.ofInt 32 x.b))))) (hd.of (by omega) (kb2 (by omega))) rfl rfl rfl rfl rfl rfl rfl rfl (tSign _) ?_
  intro n7 hn7
  refine OA.p (some 35) (.string ((((bstr [UInt8.ofNat x.what.toNat]) ++ (bstr (be4 (BitVec.ofInt 32 x.host)))) ++ (bstr (be4 (BitVec.ofInt 32 x.a)))) ++ (bstr (be4 (BitVec.ofInt 32 x.b))))) rfl rfl rfl (r_cat rfl rfl rfl (by (try simp only [ByteArray.size_append, bstr_size, size_lit, List.size_toArray, List.length_cons, List.length_nil, List.length_take, List.length_drop, List.length_replicate, be4_len, be2_len]); try omega)) ?_
  refine OA.p (some 3) (.string ((((bstr [UInt8.ofNat x.what.toNat]) ++ (bstr (be4 (BitVec.ofInt 32 x.host)))) ++ (bstr (be4 (BitVec.ofInt 32 x.a)))) ++ (bstr (be4 (BitVec.ofInt 32 x.b))))) rfl rfl rfl rfl ?_
  refine OA.nil ?_
  intro _
  refine RA.region env_ok ?_
  refine OA.p (some 36) (.int .i64 3) rfl rfl rfl (r_bin rfl rfl rfl (b_add (i64_eq (by omega)))) ?_
  refine OA.p (some 28) (.int .i64 3) rfl rfl rfl rfl ?_
  refine OA.nil ?_
  intro _
  refine RA.unroll hd ?_
  refine RA.seq hd ?_
  refine RA.region env_ok ?_
  refine OA.p (some 29) (.bool true) rfl rfl rfl (r_bin rfl rfl rfl (b_lss rfl)) ?_
  refine OA.nil ?_
  intro _
  refine RA.seq hd ?_
  refine RA.condT rfl ?_
  refine RA.skip env_ok ?_
  intro _
  refine RA.seq hd ?_
  refine RA.block ?_
  refine RA.seq hd ?_
  refine RA.region env_ok ?_
  refine OA.p (some 30) (Pt n2 3 0) rfl rfl rfl (r_iaS (l := 3) rfl rfl rfl rfl rfl rfl (by omega) (by omega) get_here rfl (by omega)) ?_
  refine OA.p (some 31) (.int .i64 x.c) rfl rfl rfl (r_load1 rfl rfl rfl rfl rfl get_here rfl rfl) ?_
  refine OA.p (some 5) (.int .i64 x.c) rfl rfl rfl rfl ?_
  refine OA.nil ?_
  intro _
  refine RA.region env_ok ?_
  refine OA.p (some 32) (.string ((((bstr [UInt8.ofNat x.what.toNat]) ++ (bstr (be4 (BitVec.ofInt 32 x.host)))) ++ (bstr (be4 (BitVec.ofInt 32 x.a)))) ++ (bstr (be4 (BitVec.ofInt 32 x.b))))) rfl rfl rfl rfl ?_
  refine OA.p (some 33) (.int .i64 x.c) rfl rfl rfl rfl ?_
  refine OA.callP (dst := (some 34)) (all := [(.int .i64 x.c)]) (v := (.string (bstr (be4 (BitVec.ofInt 32 x.c))))) (hd.of (by omega) (kb2 (by omega))) rfl rfl rfl rfl rfl rfl rfl rfl (tSign _) ?_
  intro n8 hn8
  refine OA.p (some 35) (.string (((((bstr [UInt8.ofNat x.what.toNat]) ++ (bstr (be4 (BitVec.ofInt 32 x.host)))) ++ (bstr (be4 (BitVec.ofInt 32 x.a)))) ++ (bstr (be4 (BitVec.ofInt 32 x.b)))) ++ (bstr (be4 (BitVec.ofInt 32 x.c))))) rfl rfl rfl (r_cat rfl rfl rfl (by (try simp only [ByteArray.size_append, bstr_size, size_lit, List.size_toArray, List.length_cons, List.length_nil, List.length_take, List.length_drop, List.length_replicate, be4_len, be2_len]); try omega)) ?_
  refine OA.p (some 3) (.string (((((bstr [UInt8.ofNat x.what.toNat]) ++ (bstr (be4 (BitVec.ofInt 32 x.host)))) ++ (bstr (be4 (BitVec.ofInt 32 x.a)))) ++ (bstr (be4 (BitVec.ofInt 32 x.b)))) ++ (bstr (be4 (BitVec.ofInt 32 x.c))))) rfl rfl rfl rfl ?_
  refine OA.nil ?_
  intro _
  refine RA.region env_ok ?_
  refine OA.p (some 36) (.int .i64 4) rfl rfl rfl (r_bin rfl rfl rfl (b_add (i64_eq (by omega)))) ?_
  refine OA.p (some 28) (.int .i64 4) rfl rfl rfl rfl ?_
  refine OA.nil ?_
  intro _
  refine RA.unroll hd ?_
  refine RA.seq hd ?_
  refine RA.region env_ok ?_
  refine OA.p (some 29) (.bool true) rfl rfl rfl (r_bin rfl rfl rfl (b_lss rfl)) ?_
  refine OA.nil ?_
  intro _
  refine RA.seq hd ?_
  refine RA.condT rfl ?_
  refine RA.skip env_ok ?_
  intro _
  refine RA.seq hd ?_
  refine RA.block ?_
  refine RA.seq hd ?_
  refine RA.region env_ok ?_
  refine OA.p (some 30) (Pt n2 4 0) rfl rfl rfl (r_iaS (l := 4) rfl rfl rfl rfl rfl rfl (by omega) (by omega) get_here rfl (by omega)) ?_
  refine OA.p (some 31) (.int .i64 x.d) rfl rfl rfl (r_load1 rfl rfl rfl rfl rfl get_here rfl rfl) ?_
  refine OA.p (some 5) (.int .i64 x.d) rfl rfl rfl rfl ?_
  refine OA.nil ?_
  intro _
  refine RA.region env_ok ?_
  refine OA.p (some 32) (.string (((((bstr [UInt8.ofNat x.what.toNat]) ++ (bstr (be4 (BitVec.ofInt 32 x.host)))) ++ (bstr (be4 (BitVec.ofInt 32 x.a)))) ++ (bstr (be4 (BitVec.ofInt 32 x.b)))) ++ (bstr (be4 (BitVec.ofInt 32 x.c))))) rfl rfl rfl rfl ?_
  refine OA.p (some 33) (.int .i64 x.d) rfl rfl rfl rfl ?_
  refine OA.callP (dst := (some 34)) (all := [(.int .i64 x.d)]) (v := (.string (bstr (be4 (BitVec.ofInt 32 x.d))))) (hd.of (by omega) (kb2 (by omega))) rfl rfl rfl rfl rfl rfl rfl rfl (tSign _) ?_
  intro n9 hn9
  refine OA.p (some 35) (.string ((((((bstr [UInt8.ofNat x.what.toNat]) ++ (bstr (be4 (BitVec.ofInt 32 x.host)))) ++ (bstr (be4 (BitVec.ofInt 32 x.a)))) ++ (bstr (be4 (BitVec.ofInt 32 x.b)))) ++ (bstr (be4 (BitVec.ofInt 32 x.c)))) ++ (bstr (be4 (BitVec.ofInt 32 x.d))))) rfl rfl rfl (r_cat rfl rfl rfl (by (try simp only [ByteArray.size_append, bstr_size, size_lit, List.size_toArray, List.length_cons, List.length_nil, List.length_take, List.length_drop, List.length_replicate, be4_len, be2_len]); try omega)) ?_
  refine OA.p (some 3) (.string ((((((bstr [UInt8.ofNat x.what.toNat]) ++ (bstr (be4 (BitVec.ofInt 32 x.host)))) ++ (bstr (be4 (BitVec.ofInt 32 x.a)))) ++ (bstr (be4 (BitVec.ofInt 32 x.b)))) ++ (bstr (be4 (BitVec.ofInt 32 x.c)))) ++ (bstr (be4 (BitVec.ofInt 32 x.d))))) rfl rfl rfl rfl ?_
  refine OA.nil ?_
  intro _
  refine RA.rebase [(0, (.agg ⟨(cAct x)⟩)), (1, (Pt n 0 0)), (2, (.string (ByteArray.mk #[]))), (3, (.string ((((((bstr [UInt8.ofNat x.what.toNat]) ++ (bstr (be4 (BitVec.ofInt 32 x.host)))) ++ (bstr (be4 (BitVec.ofInt 32 x.a)))) ++ (bstr (be4 (BitVec.ofInt 32 x.b)))) ++ (bstr (be4 (BitVec.ofInt 32 x.c)))) ++ (bstr (be4 (BitVec.ofInt 32 x.d)))))), (5, (.int .i64 x.d)), (8, (.bool false)), (26, (.slice (some ⟨n2, 0, none⟩) 7 0)), (27, (.int .i64 7)), (28, (.int .i64 4)), (29, (.bool true))] ⟨rfl, rfl, rfl, rfl, rfl, rfl, rfl, rfl, rfl, rfl, trivial⟩ (fun τr10 => ?_)
  refine RA.region env_ok ?_
  refine OA.p (some 36) (.int .i64 5) rfl rfl rfl (r_bin rfl rfl rfl (b_add (i64_eq (by omega)))) ?_
  refine OA.p (some 28) (.int .i64 5) rfl rfl rfl rfl ?_
  refine OA.nil ?_
  intro _
  refine RA.unroll hd ?_
  refine RA.seq hd ?_
  refine RA.region env_ok ?_
  refine OA.p (some 29) (.bool true) rfl rfl rfl (r_bin rfl rfl rfl (b_lss rfl)) ?_
  refine OA.nil ?_
  intro _
  refine RA.seq hd ?_
  refine RA.condT rfl ?_
  refine RA.skip env_ok ?_
  intro _
  refine RA.seq hd ?_
  refine RA.block ?_
  refine RA.seq hd ?_
  refine RA.region env_ok ?_
  refine OA.p (some 30) (Pt n2 5 0) rfl rfl rfl (r_iaS (l := 5) rfl rfl rfl rfl rfl rfl (by omega) (by omega) get_here rfl (by omega)) ?_
  refine OA.p (some 31) (.int .i64 x.e) rfl rfl rfl (r_load1 rfl rfl rfl rfl rfl get_here rfl rfl) ?_
  refine OA.p (some 5) (.int .i64 x.e) rfl rfl rfl rfl ?_
  refine OA.nil ?_
  intro _
  refine RA.region env_ok ?_
  refine OA.p (some 32) (.string ((((((bstr [UInt8.ofNat x.what.toNat]) ++ (bstr (be4 (BitVec.ofInt 32 x.host)))) ++ (bstr (be4 (BitVec.ofInt 32 x.a)))) ++ (bstr (be4 (BitVec.ofInt 32 x.b)))) ++ (bstr (be4 (BitVec.ofInt 32 x.c)))) ++ (bstr (be4 (BitVec.ofInt 32 x.d))))) rfl rfl rfl rfl ?_
  refine OA.p (some 33) (.int .i64 x.e) rfl rfl rfl rfl ?_
  refine OA.callP (dst := (some 34)) (all := [(.int .i64 x.e)]) (v := (.string (bstr (be4 (BitVec.ofInt 32 x.e))))) (hd.of (by omega) (kb2 (by omega))) rfl rfl rfl rfl rfl rfl rfl rfl (tSign _) ?_
  intro n11 hn11
  refine OA.p (some 35) (.string (((((((bstr [UInt8.ofNat x.what.toNat]) ++ (bstr (be4 (BitVec.ofInt 32 x.host)))) ++ (bstr (be4 (BitVec.ofInt 32 x.a)))) ++ (bstr (be4 (BitVec.ofInt 32 x.b)))) ++ (bstr (be4 (BitVec.ofInt 32 x.c)))) ++ (bstr (be4 (BitVec.ofInt 32 x.d)))) ++ (bstr (be4 (BitVec.ofInt 32 x.e))))) rfl rfl rfl (r_cat rfl rfl rfl (by (try simp only [ByteArray.size_append, bstr_size, size_lit, List.size_toArray, List.length_cons, List.length_nil, List.length_take, List.length_drop, List.length_replicate, be4_len, be2_len]); try omega)) ?_
  refine OA.p (some 3) (.string (((((((bstr [UInt8.ofNat x.what.toNat]) ++ (bstr (be4 (BitVec.ofInt 32 x.host)))) ++ (bstr (be4 (BitVec.ofInt 32 x.a)))) ++ (bstr (be4 (BitVec.ofInt 32 x.b)))) ++ (bstr (be4 (BitVec.ofInt 32 x.c)))) ++ (bstr (be4 (BitVec.ofInt 32 x.d)))) ++ (bstr (be4 (BitVec.ofInt 32 x.e))))) rfl rfl rfl rfl ?_
  refine OA.nil ?_
  intro _
  refine RA.region env_ok ?_
  refine OA.p (some 36) (.int .i64 6) rfl rfl rfl (r_bin rfl rfl rfl (b_add (i64_eq (by omega)))) ?_
  refine OA.p (some 28) (.int .i64 6) rfl rfl rfl rfl ?_
  refine OA.nil ?_
  intro _
  refine RA.unroll hd ?_
  refine RA.seq hd ?_
  refine RA.region env_ok ?_
  refine OA.p (some 29) (.bool true) rfl rfl rfl (r_bin rfl rfl rfl (b_lss rfl)) ?_
  refine OA.nil ?_
  intro _
  refine RA.seq hd ?_
  refine RA.condT rfl ?_
  refine RA.skip env_ok ?_
  intro _
  refine RA.seq hd ?_
  refine RA.block ?_
  refine RA.seq hd ?_
  refine RA.region env_ok ?_
  refine OA.p (some 30) (Pt n2 6 0) rfl rfl rfl (r_iaS (l := 6) rfl rfl rfl rfl rfl rfl (by omega) (by omega) get_here rfl (by omega)) ?_
  refine OA.p (some 31) (.int .i64 x.f) rfl rfl rfl (r_load1 rfl rfl rfl rfl rfl get_here rfl rfl) ?_
  refine OA.p (some 5) (.int .i64 x.f) rfl rfl rfl rfl ?_
  refine OA.nil ?_
  intro _
  refine RA.region env_ok ?_
  refine OA.p (some 32) (.string (((((((bstr [UInt8.ofNat x.what.toNat]) ++ (bstr (be4 (BitVec.ofInt 32 x.host)))) ++ (bstr (be4 (BitVec.ofInt 32 x.a)))) ++ (bstr (be4 (BitVec.ofInt 32 x.b)))) ++ (bstr (be4 (BitVec.ofInt 32 x.c)))) ++ (bstr (be4 (BitVec.ofInt 32 x.d)))) ++ (bstr (be4 (BitVec.ofInt 32 x.e))))) rfl rfl rfl rfl ?_
  refine OA.p (some 33) (.int .i64 x.f) rfl rfl rfl rfl ?_
  refine OA.callP (dst := (some 34)) (all := [(.int .i64 x.f)]) (v := (.string (bstr (be4 (BitVec.ofInt 32 x.f))))) (hd.of (by omega) (kb2 (by omega))) rfl rfl rfl rfl rfl rfl rfl rfl (tSign _) ?_
  intro n12 hn12
  refine OA.p (some 35) (.string ((((((((bstr [UInt8.ofNat x.what.toNat]) ++ (bstr (be4 (BitVec.ofInt 32 x.host)))) ++ (bstr (be4 (BitVec.ofInt 32 x.a)))) ++ (bstr (be4 (BitVec.ofInt 32 x.b)))) ++ (bstr (be4 (BitVec.ofInt 32 x.c)))) ++ (bstr (be4 (BitVec.ofInt 32 x.d)))) ++ (bstr (be4 (BitVec.ofInt 32 x.e)))) ++ (bstr (be4 (BitVec.ofInt 32 x.f))))) rfl rfl rfl (r_cat rfl rfl rfl (by (try simp only [ByteArray.size_append, bstr_size, size_lit, List.size_toArray, List.length_cons, List.length_nil, List.length_take, List.length_drop, List.length_replicate, be4_len, be2_len]); try omega)) ?_
  refine OA.p (some 3) (.string ((((((((bstr [UInt8.ofNat x.what.toNat]) ++ (bstr (be4 (BitVec.ofInt 32 x.host)))) ++ (bstr (be4 (BitVec.ofInt 32 x.a)))) ++ (bstr (be4 (BitVec.ofInt 32 x.b)))) ++ (bstr (be4 (BitVec.ofInt 32 x.c)))) ++ (bstr (be4 (BitVec.ofInt 32 x.d)))) ++ (bstr (be4 (BitVec.ofInt 32 x.e)))) ++ (bstr (be4 (BitVec.ofInt 32 x.f))))) rfl rfl rfl rfl ?_
  refine OA.nil ?_
  intro _
  refine RA.region env_ok ?_
  refine OA.p (some 36) (.int .i64 7) rfl rfl rfl (r_bin rfl rfl rfl (b_add (i64_eq (by omega)))) ?_
  refine OA.p (some 28) (.int .i64 7) rfl rfl rfl rfl ?_
  refine OA.nil ?_
  intro _
  refine RA.unroll hd ?_
  refine RA.seq hd ?_
  refine RA.region env_ok ?_
  refine OA.p (some 29) (.bool false) rfl rfl rfl (r_bin rfl rfl rfl (b_lss rfl)) ?_
  refine OA.nil ?_
  intro _
  refine RA.rebase [(0, (.agg ⟨(cAct x)⟩)), (1, (Pt n 0 0)), (2, (.string (ByteArray.mk #[]))), (3, (.string ((((((((bstr [UInt8.ofNat x.what.toNat]) ++ (bstr (be4 (BitVec.ofInt 32 x.host)))) ++ (bstr (be4 (BitVec.ofInt 32 x.a)))) ++ (bstr (be4 (BitVec.ofInt 32 x.b)))) ++ (bstr (be4 (BitVec.ofInt 32 x.c)))) ++ (bstr (be4 (BitVec.ofInt 32 x.d)))) ++ (bstr (be4 (BitVec.ofInt 32 x.e)))) ++ (bstr (be4 (BitVec.ofInt 32 x.f)))))), (5, (.int .i64 x.f)), (8, (.bool false)), (26, (.slice (some ⟨n2, 0, none⟩) 7 0)), (27, (.int .i64 7)), (28, (.int .i64 7)), (29, (.bool false))] ⟨rfl, rfl, rfl, rfl, rfl, rfl, rfl, rfl, rfl, rfl, trivial⟩ (fun τr13 => ?_)
  refine RA.seq hd ?_
  refine RA.condF rfl ?_
  refine RA.exit env_ok ?_
  intro _
  refine RA.seq hd ?_
  refine RA.par (md := [some [], some [], some [n], some [], some [], some [], some [], some [n], some [], some []]) env_ok (hd.of (by omega) (kb2 (by omega))) (by kernel_rfl) ?_
  refine PQ.pure (dst := (some 37)) (v := (.string ((((((((bstr [UInt8.ofNat x.what.toNat]) ++ (bstr (be4 (BitVec.ofInt 32 x.host)))) ++ (bstr (be4 (BitVec.ofInt 32 x.a)))) ++ (bstr (be4 (BitVec.ofInt 32 x.b)))) ++ (bstr (be4 (BitVec.ofInt 32 x.c)))) ++ (bstr (be4 (BitVec.ofInt 32 x.d)))) ++ (bstr (be4 (BitVec.ofInt 32 x.e)))) ++ (bstr (be4 (BitVec.ofInt 32 x.f)))))) rfl rfl rfl noStore (none_ok _ _) rfl ?_
  refine PQ.pure (dst := (some 38)) (v := (Pt n 0 8)) rfl rfl rfl noStore (none_ok _ _) rfl ?_
  refine PQ.pure (dst := (some 39)) (v := (.string x.s)) rfl rfl rfl (app [(n, some ⟨[(cAct x)], 9, 24, true⟩)] noStore) (seen_one (V := []) (D := [(n2, some ⟨[[(.int .i64 x.host)], [(.int .i64 x.a)], [(.int .i64 x.b)], [(.int .i64 x.c)], [(.int .i64 x.d)], [(.int .i64 x.e)], [(.int .i64 x.f)]], 1, 3, true⟩), (n, some ⟨[(cAct x)], 9, 24, true⟩)]) (by kernel_rfl) (get_there (by omega) get_here)) (r_load1 rfl rfl rfl rfl rfl get_here rfl rfl) ?_
  refine PQ.pure (dst := (some 40)) (v := (.int .i64 ((x.s.size : Nat) : Int))) rfl rfl rfl noStore (none_ok _ _) rfl ?_
  refine PQ.callP (dst := (some 41)) (all := [(.int .i64 ((x.s.size : Nat) : Int))]) (v := (.string (bstr (be2 x.s.size)))) noStore (dom_none _) rfl rfl rfl rfl rfl rfl rfl rfl (none_ok _ _) (tU16 _ (by omega)) ?_
  intro n14 hn14
  refine PQ.pure (dst := (some 42)) (v := (.string (((((((((bstr [UInt8.ofNat x.what.toNat]) ++ (bstr (be4 (BitVec.ofInt 32 x.host)))) ++ (bstr (be4 (BitVec.ofInt 32 x.a)))) ++ (bstr (be4 (BitVec.ofInt 32 x.b)))) ++ (bstr (be4 (BitVec.ofInt 32 x.c)))) ++ (bstr (be4 (BitVec.ofInt 32 x.d)))) ++ (bstr (be4 (BitVec.ofInt 32 x.e)))) ++ (bstr (be4 (BitVec.ofInt 32 x.f)))) ++ (bstr (be2 x.s.size))))) rfl rfl rfl noStore (none_ok _ _) (r_cat rfl rfl rfl (by (try simp only [ByteArray.size_append, bstr_size, size_lit, List.size_toArray, List.length_cons, List.length_nil, List.length_take, List.length_drop, List.length_replicate, be4_len, be2_len]); try omega)) ?_
  refine PQ.pure (dst := (some 43)) (v := (Pt n 0 8)) rfl rfl rfl noStore (none_ok _ _) rfl ?_
  refine PQ.pure (dst := (some 44)) (v := (.string x.s)) rfl rfl rfl (app [(n, some ⟨[(cAct x)], 9, 24, true⟩)] noStore) (seen_one (V := []) (D := [(n2, some ⟨[[(.int .i64 x.host)], [(.int .i64 x.a)], [(.int .i64 x.b)], [(.int .i64 x.c)], [(.int .i64 x.d)], [(.int .i64 x.e)], [(.int .i64 x.f)]], 1, 3, true⟩), (n, some ⟨[(cAct x)], 9, 24, true⟩)]) (by kernel_rfl) (get_there (by omega) get_here)) (r_load1 rfl rfl rfl rfl rfl get_here rfl rfl) ?_
  refine PQ.pure (dst := (some 45)) (v := (.string ((((((((((bstr [UInt8.ofNat x.what.toNat]) ++ (bstr (be4 (BitVec.ofInt 32 x.host)))) ++ (bstr (be4 (BitVec.ofInt 32 x.a)))) ++ (bstr (be4 (BitVec.ofInt 32 x.b)))) ++ (bstr (be4 (BitVec.ofInt 32 x.c)))) ++ (bstr (be4 (BitVec.ofInt 32 x.d)))) ++ (bstr (be4 (BitVec.ofInt 32 x.e)))) ++ (bstr (be4 (BitVec.ofInt 32 x.f)))) ++ (bstr (be2 x.s.size))) ++ x.s))) rfl rfl rfl noStore (none_ok _ _) (r_cat rfl rfl rfl (by (try simp only [ByteArray.size_append, bstr_size, size_lit, List.size_toArray, List.length_cons, List.length_nil, List.length_take, List.length_drop, List.length_replicate, be4_len, be2_len]); try omega)) ?_
  refine PQ.pure (dst := (some 2)) (v := (.string ((((((((((bstr [UInt8.ofNat x.what.toNat]) ++ (bstr (be4 (BitVec.ofInt 32 x.host)))) ++ (bstr (be4 (BitVec.ofInt 32 x.a)))) ++ (bstr (be4 (BitVec.ofInt 32 x.b)))) ++ (bstr (be4 (BitVec.ofInt 32 x.c)))) ++ (bstr (be4 (BitVec.ofInt 32 x.d)))) ++ (bstr (be4 (BitVec.ofInt 32 x.e)))) ++ (bstr (be4 (BitVec.ofInt 32 x.f)))) ++ (bstr (be2 x.s.size))) ++ x.s))) rfl rfl rfl noStore (none_ok _ _) rfl ?_
  refine PQ.done (d := []) (by kernel_rfl) ?_
  intro _
  refine RA.ret env_ok ?_
  refine ⟨.inr rfl, [(.string ((((((((((bstr [UInt8.ofNat x.what.toNat]) ++ (bstr (be4 (BitVec.ofInt 32 x.host)))) ++ (bstr (be4 (BitVec.ofInt 32 x.a)))) ++ (bstr (be4 (BitVec.ofInt 32 x.b)))) ++ (bstr (be4 (BitVec.ofInt 32 x.c)))) ++ (bstr (be4 (BitVec.ofInt 32 x.d)))) ++ (bstr (be4 (BitVec.ofInt 32 x.e)))) ++ (bstr (be4 (BitVec.ofInt 32 x.f)))) ++ (bstr (be2 x.s.size))) ++ x.s))], (resL_cons rfl resL_nil), (congrArg Value.string (by rw [actF_t hc1]; apply L_ext; simp only [L_append, L_bstr, actL, List.append_assoc])), (kc2 (by omega))⟩
 ·
  refine OA.callP (dst := (some 7)) (all := [(.agg ⟨(xTr11 x)⟩)]) (v := (.bool false)) (hd.of (by omega) (kb1 (by omega))) rfl rfl rfl rfl rfl rfl rfl rfl (PS.to (tMay x) (show (.bool (decide (MayA x))) = ((.bool false) : Value) from (by first | (rw [decide_eq_false hc1]; done) | (rw [decide_eq_false hc1]; rfl)))) ?_
  intro n15 hn15
  refine OA.p (some 8) (.bool true) rfl rfl rfl rfl ?_
  refine OA.nil ?_
  intro _
  refine RA.condT rfl ?_
  refine RA.seq hd ?_
  refine RA.region env_ok ?_
  refine OA.p (some 2) (.string (ByteArray.mk #[])) rfl rfl rfl rfl ?_
  refine OA.nil ?_
  intro _
  refine RA.ret env_ok ?_
  refine ⟨.inr rfl, [(.string (ByteArray.mk #[]))], (resL_cons rfl resL_nil), (congrArg Value.string (actF_f hc1).symm), (kc1 (by omega))⟩

theorem tPut {σ : Store} (j N : Nat) (l : List Act) (hl : l.length = N) (hN : N ≤ 100000) (hj : σ j = some (oAct l))  : PS Try.prog noDen 14 [(.slice (some ⟨j, 0, none⟩) N 0)] σ (.string (bstr (putsL l))) := by
 refine PS.body (E := env) env_ok rfl rfl (by show _ ≤ _; exact of_decide_eq_true (by kernel_rfl)) (fun n hd => ?_)
 have lhj := hd.lt hj
 refine RA.seq hd ?_
 refine RA.region env_ok ?_
 refine OA.p (some 2) (.string (ByteArray.mk #[])) rfl rfl rfl rfl ?_
 refine OA.nil ?_
 intro _
 refine RA.seq hd ?_
 refine RA.region env_ok ?_
 refine OA.p (some 3) (.string (ByteArray.mk #[])) rfl rfl rfl rfl ?_
 refine OA.nil ?_
 intro _
 refine RA.seq hd ?_
 refine RA.seq hd ?_
 refine RA.region env_ok ?_
 refine OA.p (some 6) (.slice (some ⟨j, 0, none⟩) N 0) rfl rfl rfl rfl ?_
 refine OA.p (some 7) (.int .i64 ((N : Nat) : Int)) rfl rfl rfl rfl ?_
 refine OA.p (some 8) (.int .i64 0) rfl rfl rfl rfl ?_
 refine OA.nil ?_
 intro _
 refine RA.block ?_
 refine RA.loop hd (fun kk_ τ n' D => ∃ i : Nat,  kk_ = (N - i) ∧ n ≤ n' ∧ Has τ [(3, (.string (bstr (putsL (l.take i))))), (6, (.slice (some ⟨j, 0, none⟩) N 0)), (7, (.int .i64 ((N : Nat) : Int))), (8, (.int .i64 ((i : Nat) : Int)))] ∧ D = [] ∧ (∀ i ∈ keys D, i < n') ∧ i ≤ N ∧ (putsL (l.take i)).length ≤ i * 65566) ((N - 0)) ⟨0, rfl, by omega, ⟨rfl, rfl, rfl, rfl, trivial⟩, rfl, (fun i hi => by cases hi), ⟨by omega, Nat.le_refl _⟩⟩ ?_
 rintro kn1 τ1 n1 _ ⟨i, rfl, hn1, hHn1, rfl, hKn1, hIn1⟩
 rw [Has.eq hHn1]
 simp only [keys, List.map, List.forall_mem_cons, List.mem_cons, List.not_mem_nil, false_imp_iff, implies_true, and_true] at hKn1
 obtain ⟨hi, hpl⟩ := hIn1
 refine RA.seq hd ?_
 refine RA.region env_ok ?_
 by_cases hc1 : ((i : Nat) : Int) < ((N : Nat) : Int)
 ·
  refine OA.p (some 9) (.bool true) rfl rfl rfl (Eq.trans (r_bin rfl rfl rfl (b_lss rfl)) (dT hc1)) ?_
  refine OA.nil ?_
  intro _
  refine RA.seq hd ?_
  refine RA.condT rfl ?_
  refine RA.skip env_ok ?_
  intro _
  refine RA.seq hd ?_
  refine RA.block ?_
  refine RA.seq hd ?_
  refine RA.region env_ok ?_
  refine OA.p (some 10) (Pt j i 0) rfl rfl rfl (r_iaS (l := i) rfl rfl rfl rfl rfl rfl (by omega) (by omega) hj rfl (by omega)) ?_
  refine OA.p (some 11) (.agg ⟨(cAct (l.getD i dAct))⟩) rfl rfl rfl (r_loadR (c := cAct) dAct rfl rfl rfl rfl hj (by rw [hl]; omega) rfl) ?_
  refine OA.op1 (dst := (some 5)) (v := (Pt n1 0 0)) (n1 := (n1 + 1)) (w := (n1, some ⟨[[(.int .i64 0), (.int .i64 0), (.int .i64 0), (.int .i64 0), (.int .i64 0), (.int .i64 0), (.int .i64 0), (.int .i64 0), (.string ByteArray.empty)]], 9, 24, true⟩)) rfl rfl rfl rfl (by omega) ?_
  refine OA.op1 (dst := none) (v := (.tuple #[])) (n1 := (n1 + 1)) (w := (n1, some ⟨[(cAct (l.getD i dAct))], 9, 24, true⟩)) rfl rfl rfl (r_store rfl rfl rfl rfl rfl rfl rfl get_here rfl rfl (Nat.le_of_ble_eq_true rfl) rfl) (by omega) ?_
  refine OA.nil ?_
  intro _
  refine RA.region env_ok ?_
  refine OA.p (some 12) (.string (bstr (putsL (l.take i)))) rfl rfl rfl rfl ?_
  refine OA.p (some 13) (.agg ⟨[(.int .i64 (l.getD i dAct).what), (.int .i64 (l.getD i dAct).host), (.int .i64 (l.getD i dAct).a), (.int .i64 (l.getD i dAct).b), (.int .i64 (l.getD i dAct).c), (.int .i64 (l.getD i dAct).d), (.int .i64 (l.getD i dAct).e), (.int .i64 (l.getD i dAct).f), (.string (l.getD i dAct).s)]⟩) rfl rfl rfl (r_loadA rfl rfl rfl rfl get_here rfl rfl rfl) ?_
  refine OA.callP (dst := (some 14)) (all := [(.agg ⟨[(.int .i64 (l.getD i dAct).what), (.int .i64 (l.getD i dAct).host), (.int .i64 (l.getD i dAct).a), (.int .i64 (l.getD i dAct).b), (.int .i64 (l.getD i dAct).c), (.int .i64 (l.getD i dAct).d), (.int .i64 (l.getD i dAct).e), (.int .i64 (l.getD i dAct).f), (.string (l.getD i dAct).s)]⟩)]) (v := (.string (actF (l.getD i dAct)))) (hd.of (by omega) (kb2 (by omega))) rfl rfl rfl rfl rfl rfl rfl rfl (tAct (l.getD i dAct)) ?_
  intro n2 hn2
  refine OA.p (some 15) (.string (bstr (putsL (l.take (i + 1))))) rfl rfl rfl (Eq.trans (r_cat rfl rfl rfl (by have h1 := actF_le (l.getD i dAct); rw [bstr_size]; omega)) (congrArg (fun z => some (Value.string z, _, [])) (puts_step (by omega)))) ?_
  refine OA.p (some 3) (.string (bstr (putsL (l.take (i + 1))))) rfl rfl rfl rfl ?_
  refine OA.nil ?_
  intro _
  refine RA.region env_ok ?_
  refine OA.p (some 16) (.int .i64 (((i + 1) : Nat) : Int)) rfl rfl rfl (r_bin rfl rfl rfl (b_add (i64_eq (by omega)))) ?_
  refine OA.p (some 8) (.int .i64 (((i + 1) : Nat) : Int)) rfl rfl rfl rfl ?_
  refine OA.nil ?_
  refine ⟨(N - (i + 1)), by omega, [], (Less.of (fun p hp => by simp at hp) (gone_of (by simp only [goneP, memP, List.cons_append, List.nil_append, true_or, or_true, true_and, and_true, or_false] <;> omega))), (i + 1), rfl, by omega, ⟨rfl, rfl, rfl, rfl, trivial⟩, rfl, (fun i hi => by cases hi), ⟨by omega, puts_len (by omega) hpl⟩⟩
 ·
  refine OA.p (some 9) (.bool false) rfl rfl rfl (Eq.trans (r_bin rfl rfl rfl (b_lss rfl)) (dF hc1)) ?_
  refine OA.nil ?_
  intro _
  refine RA.seq hd ?_
  refine RA.condF rfl ?_
  refine RA.exit env_ok ?_
  intro _
  refine RA.seq hd ?_
  refine RA.region env_ok ?_
  refine OA.p (some 17) (.string (bstr (putsL (l.take i)))) rfl rfl rfl rfl ?_
  refine OA.p (some 2) (.string (bstr (putsL (l.take i)))) rfl rfl rfl rfl ?_
  refine OA.nil ?_
  intro _
  refine RA.ret env_ok ?_
  refine ⟨.inr rfl, [(.string (bstr (putsL (l.take i))))], (resL_cons rfl resL_nil), (congrArg Value.string (by rw [List.take_of_length_le (by omega)])), (fun i hi => by cases hi)⟩

theorem tPut0 {σ : Store}    : PS Try.prog noDen 14 [(.slice none 0 0)] σ (.string (ByteArray.mk #[])) := by
 refine PS.body (E := env) env_ok rfl rfl (by show _ ≤ _; exact of_decide_eq_true (by kernel_rfl)) (fun n hd => ?_)
 refine RA.seq hd ?_
 refine RA.region env_ok ?_
 refine OA.p (some 2) (.string (ByteArray.mk #[])) rfl rfl rfl rfl ?_
 refine OA.nil ?_
 intro _
 refine RA.seq hd ?_
 refine RA.region env_ok ?_
 refine OA.p (some 3) (.string (ByteArray.mk #[])) rfl rfl rfl rfl ?_
 refine OA.nil ?_
 intro _
 refine RA.seq hd ?_
 refine RA.seq hd ?_
 refine RA.region env_ok ?_
 refine OA.p (some 6) (.slice none 0 0) rfl rfl rfl rfl ?_
 refine OA.p (some 7) (.int .i64 0) rfl rfl rfl rfl ?_
 refine OA.p (some 8) (.int .i64 0) rfl rfl rfl rfl ?_
 refine OA.nil ?_
 intro _
 refine RA.block ?_
 refine RA.unroll hd ?_
 refine RA.seq hd ?_
 refine RA.region env_ok ?_
 refine OA.p (some 9) (.bool false) rfl rfl rfl (r_bin rfl rfl rfl (b_lss rfl)) ?_
 refine OA.nil ?_
 intro _
 refine RA.seq hd ?_
 refine RA.condF rfl ?_
 refine RA.exit env_ok ?_
 intro _
 refine RA.seq hd ?_
 refine RA.region env_ok ?_
 refine OA.p (some 17) (.string (ByteArray.mk #[])) rfl rfl rfl rfl ?_
 refine OA.p (some 2) (.string (ByteArray.mk #[])) rfl rfl rfl rfl ?_
 refine OA.nil ?_
 intro _
 refine RA.ret env_ok ?_
 refine ⟨.inr rfl, [(.string (ByteArray.mk #[]))], (resL_cons rfl resL_nil), rfl, (fun i hi => by cases hi)⟩
end Go.Proofs.Ytgajcmanompmcaa.Vt
