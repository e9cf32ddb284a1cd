/- Rp: walks through functions of the program, by the calculus; written by a program of this workplace. -/
import Derived.Test.YtgajcmanompmcaaRd
import Derived.Test.YtgajcmanompmcaaVm6
namespace Go.Proofs.Ytgajcmanompmcaa.Vt
open Go Go.Proofs Go.Proofs.YtgajcmanompmcaaV
set_option maxRecDepth 100000
set_option linter.unusedVariables false
set_option linter.unusedSimpArgs false
def be4 (x : BitVec 32) : List UInt8 := [UInt8.ofNat (x >>> 24).toNat, UInt8.ofNat (x >>> 16).toNat, UInt8.ofNat (x >>> 8).toNat, UInt8.ofNat x.toNat]
theorem be4_len (x : BitVec 32) : (be4 x).length = 4 := rfl
theorem beN_be4 (x : BitVec 32) : beN (be4 x) = x.toNat := by
  have h := x.isLt
  simp only [beN, be4, List.foldl, BitVec.toNat_ushiftRight, Nat.shiftRight_eq_div_pow, UInt8.toNat_ofNat']
  omega
theorem ofNat_toNat32 (x : BitVec 32) : BitVec.ofNat 32 x.toNat = x := by simp
def be2 (m : Nat) : List UInt8 := [UInt8.ofNat (m / 256), UInt8.ofNat m]
theorem be2_len (m : Nat) : (be2 m).length = 2 := rfl
def moreOk (typ : Int) (v : ByteArray) : Prop := typ = 17 ∧ v.size = 8 ∧ at_ v 6 2 = 0 ∧ at_ v 4 2 ≠ 0
def resOk (typ : Int) (v : ByteArray) : Prop := typ = 16 ∧ v.size = 8 ∧ ((w32 v 4).toNat = 1 ∨ (w32 v 4).toNat = 2)
theorem awake {σ : Store} : PS Try.prog noDen 21 [] σ (.bool true) := PS.closed env_ok rfl (F := 100) (k := 30) (by kernel_rfl) rfl rfl
def moreV (a : BitVec 32) (m : Nat) : ByteArray := (bstr (be4 a) ++ bstr (be2 m)) ++ bstr (be2 0)
def resV (a b : BitVec 32) : ByteArray := bstr (be4 a) ++ bstr (be4 b)
theorem L_moreV (a : BitVec 32) (m : Nat) : L (moreV a m) = be4 a ++ (be2 m ++ be2 0) := by rw [moreV, L_append, L_append, L_bstr, L_bstr, L_bstr, List.append_assoc]
theorem L_resV (a b : BitVec 32) : L (resV a b) = be4 a ++ be4 b := by rw [resV, L_append, L_bstr, L_bstr]
theorem moreV_size (a : BitVec 32) (m : Nat) : (moreV a m).size = 8 := by rw [← L_len, L_moreV]; rfl
theorem resV_size (a b : BitVec 32) : (resV a b).size = 8 := by rw [← L_len, L_resV]; rfl
theorem beN_be2 (m : Nat) (h : m < 65536) : beN (be2 m) = m := by
  simp only [beN, be2, List.foldl, UInt8.toNat_ofNat']
  omega
theorem mv0 (a : BitVec 32) (m : Nat) : w32 (moreV a m) 0 = a := by rw [w32, at_, L_moreV]; exact (congrArg _ (beN_be4 a)).trans (ofNat_toNat32 a)
theorem mv4 (a : BitVec 32) (m : Nat) (h : m < 65536) : at_ (moreV a m) 4 2 = m := by rw [at_, L_moreV]; exact beN_be2 m h
theorem mv6 (a : BitVec 32) (m : Nat) : at_ (moreV a m) 6 2 = 0 := by rw [at_, L_moreV]; rfl
theorem rv0 (a b : BitVec 32) : w32 (resV a b) 0 = a := by rw [w32, at_, L_resV]; exact (congrArg _ (beN_be4 a)).trans (ofNat_toNat32 a)
theorem rv4 (a b : BitVec 32) : w32 (resV a b) 4 = b := by rw [w32, at_, L_resV]; exact (congrArg _ (beN_be4 b)).trans (ofNat_toNat32 b)
theorem beN_inj : ∀ (k : Nat) (l m : List UInt8), l.length = k → m.length = k → beN l = beN m → l = m := by
  intro k
  induction k with
  | zero => intro l m h1 h2 _; rw [List.length_eq_zero_iff.1 h1, List.length_eq_zero_iff.1 h2]
  | succ k ih =>
    intro l m h1 h2 h
    have hl : l ≠ [] := fun e => by rw [e] at h1; cases h1
    have hm : m ≠ [] := fun e => by rw [e] at h2; cases h2
    rw [← List.dropLast_concat_getLast hl, ← List.dropLast_concat_getLast hm] at h ⊢
    rw [beN_snoc, beN_snoc] at h
    have a1 := UInt8.toNat_lt (l.getLast hl)
    have a2 := UInt8.toNat_lt (m.getLast hm)
    have e1 : (l.getLast hl).toNat = (m.getLast hm).toNat := by omega
    have e2 : beN l.dropLast = beN m.dropLast := by omega
    rw [UInt8.toNat_inj.1 e1, ih _ _ (by rw [List.length_dropLast]; omega) (by rw [List.length_dropLast]; omega) e2]
theorem str_at {u : ByteArray} {p q k : Nat} (l : List UInt8) (hl : l.length = k) (h : p + k = q) (hq : q ≤ u.size) : u.extract p q = bstr l ↔ at_ u p k = beN l := by
  subst h
  have e1 : L (u.extract p (p + k)) = ((L u).drop p).take k := by rw [L_extract]; congr 1; omega
  constructor
  · intro h
    rw [at_, ← e1, h, L_bstr]
  · intro h
    apply L_ext
    rw [L_bstr, e1]
    exact beN_inj k _ _ (by rw [List.length_take, List.length_drop, L_len]; omega) hl h
theorem w32_toNat (u : ByteArray) (p : Nat) : (w32 u p).toNat = at_ u p 4 := by
  have := at_lt u p 4
  rw [w32, BitVec.toNat_ofNat]
  omega
def putL (m : Nat) : Nat → List UInt8
  | 0 => []
  | k + 1 => putL (m / 256) k ++ [UInt8.ofNat (m % 256)]
theorem putL_len : ∀ (k m : Nat), (putL m k).length = k
  | 0, _ => rfl
  | k + 1, m => by simp [putL, putL_len k]
theorem beN_putL : ∀ (k m : Nat), m < 256 ^ k → beN (putL m k) = m
  | 0, m, h => by simp at h; subst h; rfl
  | k + 1, m, h => by
    rw [putL, beN_snoc, beN_putL k (m / 256) (by rw [Nat.pow_succ] at h; omega), UInt8.toNat_ofNat']
    omega
theorem putL_at {u : ByteArray} {p q k : Nat} (h : p + k = q) (hq : q ≤ u.size) : bstr (putL (at_ u p k) k) = u.extract p q :=
  ((str_at (putL (at_ u p k) k) (putL_len k _) h hq).2 (beN_putL k _ (at_lt u p k)).symm).symm
theorem sU32 {σ : Store} (x : BitVec 32)   : PS Try.prog noDen 62 [(W x)] σ (.string (bstr (be4 x))) := by
 refine PS.body (E := env) env_ok rfl rfl (by show _ ≤ _; exact of_decide_eq_true (by kernel_rfl)) (fun n hd => ?_)
 refine RA.seq hd ?_
 refine RA.region env_ok ?_
 refine OA.p (some 2) (.string (ByteArray.mk #[])) rfl rfl rfl rfl ?_
 refine OA.nil ?_
 intro _
 refine RA.seq hd ?_
 refine RA.region env_ok ?_
 refine OA.p (some 3) (W x) rfl rfl rfl rfl ?_
 refine OA.p (some 4) (W (x >>> 24)) rfl rfl rfl (r_bin rfl rfl rfl (b_shrW _ (s := 24) (by omega))) ?_
 refine OA.p (some 5) (.int .u8 (((UInt8.ofNat ((x >>> 24)).toNat).toNat : Nat) : Int)) rfl rfl rfl (r_cvt rfl rfl rfl rfl rfl ⟨_, rfl⟩ (wrap_u8n _)) ?_
 refine OA.p (some 6) (W x) rfl rfl rfl rfl ?_
 refine OA.p (some 7) (W (x >>> 16)) rfl rfl rfl (r_bin rfl rfl rfl (b_shrW _ (s := 16) (by omega))) ?_
 refine OA.p (some 8) (.int .u8 (((UInt8.ofNat ((x >>> 16)).toNat).toNat : Nat) : Int)) rfl rfl rfl (r_cvt rfl rfl rfl rfl rfl ⟨_, rfl⟩ (wrap_u8n _)) ?_
 refine OA.p (some 9) (W x) rfl rfl rfl rfl ?_
 refine OA.p (some 10) (W (x >>> 8)) rfl rfl rfl (r_bin rfl rfl rfl (b_shrW _ (s := 8) (by omega))) ?_
 refine OA.p (some 11) (.int .u8 (((UInt8.ofNat ((x >>> 8)).toNat).toNat : Nat) : Int)) rfl rfl rfl (r_cvt rfl rfl rfl rfl rfl ⟨_, rfl⟩ (wrap_u8n _)) ?_
 refine OA.p (some 12) (W x) rfl rfl rfl rfl ?_
 refine OA.p (some 13) (.int .u8 (((UInt8.ofNat (x).toNat).toNat : Nat) : Int)) rfl rfl rfl (r_cvt rfl rfl rfl rfl rfl ⟨_, rfl⟩ (wrap_u8n _)) ?_
 refine OA.op1 (dst := (some 14)) (v := (.slice (some ⟨n, 0, none⟩) 4 0)) (n1 := (n + 1)) (w := (n, some ⟨(bc [(UInt8.ofNat ((x >>> 24)).toNat), (UInt8.ofNat ((x >>> 16)).toNat), (UInt8.ofNat ((x >>> 8)).toNat), (UInt8.ofNat (x).toNat)]), 1, 5, true⟩)) rfl rfl rfl (by kernel_rfl) (by omega) ?_
 refine OA.p (some 15) (.string (bstr (([(UInt8.ofNat ((x >>> 24)).toNat), (UInt8.ofNat ((x >>> 16)).toNat), (UInt8.ofNat ((x >>> 8)).toNat), (UInt8.ofNat (x).toNat)].drop 0).take 4))) rfl rfl rfl (r_b2s rfl rfl rfl rfl rfl rfl rfl rfl get_here (by rw [show ([(UInt8.ofNat ((x >>> 24)).toNat), (UInt8.ofNat ((x >>> 16)).toNat), (UInt8.ofNat ((x >>> 8)).toNat), (UInt8.ofNat (x).toNat)] : List UInt8).length = 4 from rfl]; omega)) ?_
 refine OA.p (some 2) (.string (bstr (([(UInt8.ofNat ((x >>> 24)).toNat), (UInt8.ofNat ((x >>> 16)).toNat), (UInt8.ofNat ((x >>> 8)).toNat), (UInt8.ofNat (x).toNat)].drop 0).take 4))) rfl rfl rfl rfl ?_
 refine OA.nil ?_
 intro _
 refine RA.ret env_ok ?_
 refine ⟨.inr rfl, [(.string (bstr (([(UInt8.ofNat ((x >>> 24)).toNat), (UInt8.ofNat ((x >>> 16)).toNat), (UInt8.ofNat ((x >>> 8)).toNat), (UInt8.ofNat (x).toNat)].drop 0).take 4)))], (resL_cons rfl resL_nil), rfl, (kc1 (by omega))⟩

theorem sU16 {σ : Store} (m : Nat) (hm : m < 65536)   : PS Try.prog noDen 55 [(.int .i64 ((m : Nat) : Int))] σ (.string (bstr (be2 m))) := by
 refine PS.body (E := env) env_ok rfl rfl (by show _ ≤ _; exact of_decide_eq_true (by kernel_rfl)) (fun n hd => ?_)
 refine RA.seq hd ?_
 refine RA.region env_ok ?_
 refine OA.p (some 2) (.string (ByteArray.mk #[])) rfl rfl rfl rfl ?_
 refine OA.nil ?_
 intro _
 refine RA.seq hd ?_
 refine RA.region env_ok ?_
 refine OA.p (some 3) (.int .i64 ((m : Nat) : Int)) rfl rfl rfl rfl ?_
 refine OA.p (some 4) (.int .i64 (((m / 256) : Nat) : Int)) rfl rfl rfl (r_bin rfl rfl rfl (b_shrN (a := m) (c := 8) (D := 256) (by decide))) ?_
 refine OA.p (some 5) (.int .u8 (((UInt8.ofNat (m / 256)).toNat : Nat) : Int)) rfl rfl rfl (r_cvt rfl rfl rfl rfl rfl ⟨_, rfl⟩ (wrap_u8n _)) ?_
 refine OA.p (some 6) (.int .i64 ((m : Nat) : Int)) rfl rfl rfl rfl ?_
 refine OA.p (some 7) (.int .u8 (((UInt8.ofNat m).toNat : Nat) : Int)) rfl rfl rfl (r_cvt rfl rfl rfl rfl rfl ⟨_, rfl⟩ (wrap_u8n _)) ?_
 refine OA.op1 (dst := (some 8)) (v := (.slice (some ⟨n, 0, none⟩) 2 0)) (n1 := (n + 1)) (w := (n, some ⟨(bc [(UInt8.ofNat (m / 256)), (UInt8.ofNat m)]), 1, 5, true⟩)) rfl rfl rfl (by kernel_rfl) (by omega) ?_
 refine OA.p (some 9) (.string (bstr (([(UInt8.ofNat (m / 256)), (UInt8.ofNat m)].drop 0).take 2))) rfl rfl rfl (r_b2s rfl rfl rfl rfl rfl rfl rfl rfl get_here (by rw [show ([(UInt8.ofNat (m / 256)), (UInt8.ofNat m)] : List UInt8).length = 2 from rfl]; omega)) ?_
 refine OA.p (some 2) (.string (bstr (([(UInt8.ofNat (m / 256)), (UInt8.ofNat m)].drop 0).take 2))) rfl rfl rfl rfl ?_
 refine OA.nil ?_
 intro _
 refine RA.ret env_ok ?_
 refine ⟨.inr rfl, [(.string (bstr (([(UInt8.ofNat (m / 256)), (UInt8.ofNat m)].drop 0).take 2)))], (resL_cons rfl resL_nil), rfl, (kc1 (by omega))⟩

theorem sPutz {σ : Store} (m : Nat)   : PS Try.prog noDen 22 [(.int .u64 ((m : Nat) : Int)), (.int .i64 0)] σ (.string (bstr (putL m 0))) := by
 refine PS.body (E := env) env_ok rfl rfl (by show _ ≤ _; exact of_decide_eq_true (by kernel_rfl)) (fun n hd => ?_)
 refine RA.seq hd ?_
 refine RA.region env_ok ?_
 refine OA.p (some 4) (.string (ByteArray.mk #[])) rfl rfl rfl rfl ?_
 refine OA.nil ?_
 intro _
 refine RA.seq hd ?_
 refine RA.seq hd ?_
 refine RA.region env_ok ?_
 refine OA.p (some 5) (.int .i64 0) rfl rfl rfl rfl ?_
 refine OA.p (some 6) (.bool true) rfl rfl rfl (r_bin rfl rfl rfl (b_leq rfl)) ?_
 refine OA.nil ?_
 intro _
 refine RA.condT rfl ?_
 refine RA.seq hd ?_
 refine RA.region env_ok ?_
 refine OA.p (some 4) (.string (ByteArray.mk #[])) rfl rfl rfl rfl ?_
 refine OA.nil ?_
 intro _
 refine RA.ret env_ok ?_
 refine ⟨.inr rfl, [(.string (ByteArray.mk #[]))], (resL_cons rfl resL_nil), rfl, (fun i hi => by cases hi)⟩

theorem sPut : ∀ (k m : Nat) (hm : m < 18446744073709551616) (hk : k ≤ 8) {σ : Store}, PS Try.prog noDen 22 [(.int .u64 ((m : Nat) : Int)), (.int .i64 ((k : Nat) : Int))] σ (.string (bstr (putL m k))) := by
  intro k
  induction k with
  | zero => intro m _ _ σ; exact sPutz m
  | succ k ih =>
    intro m hm hk σ
    refine PS.body (E := env) env_ok rfl rfl (by show _ ≤ _; exact of_decide_eq_true (by kernel_rfl)) (fun n hd => ?_)
    refine RA.seq hd ?_
    refine RA.region env_ok ?_
    refine OA.p (some 4) (.string (ByteArray.mk #[])) rfl rfl rfl rfl ?_
    refine OA.nil ?_
    intro _
    refine RA.seq hd ?_
    refine RA.seq hd ?_
    refine RA.region env_ok ?_
    refine OA.p (some 5) (.int .i64 (((k + 1) : Nat) : Int)) rfl rfl rfl rfl ?_
    have hc1 : ¬ ((((k + 1) : Nat) : Int) ≤ 0) := fun hdd => by exfalso; omega
    refine OA.p (some 6) (.bool false) rfl rfl rfl (Eq.trans (r_bin rfl rfl rfl (b_leq rfl)) (dF hc1)) ?_
    refine OA.nil ?_
    intro _
    refine RA.condF rfl ?_
    refine RA.skip env_ok ?_
    intro _
    refine RA.seq hd ?_
    refine RA.par (md := [some [], some [], some [], some [], some [], some [], some [], some [], some [], none, some [], some []]) env_ok (hd.up (by omega)) (by kernel_rfl) ?_
    refine PQ.pure (dst := (some 7)) (v := (.int .u64 ((m : Nat) : Int))) rfl rfl rfl noStore (none_ok _ _) rfl ?_
    refine PQ.pure (dst := (some 8)) (v := (.int .u64 (((m / 256) : Nat) : Int))) rfl rfl rfl noStore (none_ok _ _) (r_bin rfl rfl rfl (b_quoN (a := m) (c := 256) (by decide) (u64_eq (by omega)))) ?_
    refine PQ.pure (dst := (some 9)) (v := (.int .i64 (((k + 1) : Nat) : Int))) rfl rfl rfl noStore (none_ok _ _) rfl ?_
    refine PQ.pure (dst := (some 10)) (v := (.int .i64 ((((k + 1) - 1) : Nat) : Int))) rfl rfl rfl noStore (none_ok _ _) (r_bin rfl rfl rfl (b_sub (i64_eq (by omega)))) ?_
    refine PQ.callP (dst := (some 11)) (all := [(.int .u64 (((m / 256) : Nat) : Int)), (.int .i64 ((((k + 1) - 1) : Nat) : Int))]) (v := (.string (bstr (putL (m / 256) k)))) noStore (dom_none _) rfl rfl rfl rfl rfl rfl rfl rfl (none_ok _ _) (ih (m / 256) (by omega) (by omega)) ?_
    intro n1 hn1
    refine PQ.pure (dst := (some 12)) (v := (.int .u64 ((m : Nat) : Int))) rfl rfl rfl noStore (none_ok _ _) rfl ?_
    refine PQ.pure (dst := (some 13)) (v := (.int .u64 (((m % 256) : Nat) : Int))) rfl rfl rfl noStore (none_ok _ _) (r_bin rfl rfl rfl (b_remN (a := m) (c := 256) (by decide))) ?_
    refine PQ.pure (dst := (some 14)) (v := (.int .u8 (((UInt8.ofNat (m % 256)).toNat : Nat) : Int))) rfl rfl rfl noStore (none_ok _ _) (r_cvt rfl rfl rfl rfl rfl ⟨_, rfl⟩ (wrap_u8n _)) ?_
    refine PQ.op (dst := (some 15)) (v := (.slice (some ⟨n1, 0, none⟩) 1 0)) (n1 := (n1 + 1)) (d1 := [(n1, some ⟨(bc [(UInt8.ofNat (m % 256))]), 1, 5, true⟩)]) rfl rfl rfl noStore (none_ok _ _) (by kernel_rfl) (by omega) (kp1 (wr_new (by omega) (by omega))) ?_
    refine PQ.pure (dst := (some 16)) (v := (.string (bstr (([(UInt8.ofNat (m % 256))].drop 0).take 1)))) rfl rfl rfl _ (seen_any (V := [(n1, some ⟨(bc [(UInt8.ofNat (m % 256))]), 1, 5, true⟩)]) (D := []) (by kernel_rfl)) (r_b2s rfl rfl rfl rfl rfl rfl rfl rfl get_here (by rw [show ([(UInt8.ofNat (m % 256))] : List UInt8).length = 1 from rfl]; omega)) ?_
    refine PQ.pure (dst := (some 17)) (v := (.string ((bstr (putL (m / 256) k)) ++ (bstr (([(UInt8.ofNat (m % 256))].drop 0).take 1))))) rfl rfl rfl noStore (none_ok _ _) (r_cat rfl rfl rfl (by (try simp only [ByteArray.size_append, bstr_size, size_lit, List.size_toArray, List.length_cons, List.length_nil, List.length_take, List.length_drop, List.length_replicate, putL_len]); try omega)) ?_
    refine PQ.pure (dst := (some 4)) (v := (.string ((bstr (putL (m / 256) k)) ++ (bstr (([(UInt8.ofNat (m % 256))].drop 0).take 1))))) rfl rfl rfl noStore (none_ok _ _) rfl ?_
    refine PQ.done (d := [(n1, some ⟨(bc [(UInt8.ofNat (m % 256))]), 1, 5, true⟩)]) (by kernel_rfl) ?_
    intro _
    refine RA.ret env_ok ?_
    refine ⟨.inr rfl, [(.string ((bstr (putL (m / 256) k)) ++ (bstr (([(UInt8.ofNat (m % 256))].drop 0).take 1))))], (resL_cons rfl resL_nil), (by rw [one]; exact congrArg Value.string (L_ext (by rw [L_append, L_bstr, L_bstr, L_bstr]; rfl))), (kc1 (by omega))⟩
   
theorem sFour {σ : Store} (x : BitVec 32)   : PS Try.prog noDen 23 [(W x)] σ (.string (bstr (putL x.toNat 4))) := by
 refine PS.body (E := env) env_ok rfl rfl (by show _ ≤ _; exact of_decide_eq_true (by kernel_rfl)) (fun n hd => ?_)
 refine RA.seq hd ?_
 refine RA.region env_ok ?_
 refine OA.p (some 2) (.string (ByteArray.mk #[])) rfl rfl rfl rfl ?_
 refine OA.nil ?_
 intro _
 refine RA.seq hd ?_
 refine RA.region env_ok ?_
 refine OA.p (some 3) (W x) rfl rfl rfl rfl ?_
 refine OA.p (some 4) (.int .u64 ((x.toNat : Nat) : Int)) rfl rfl rfl (r_cvt rfl rfl rfl rfl rfl ⟨_, rfl⟩ (u64_eq (by have := (x).isLt; omega))) ?_
 refine OA.callP (dst := (some 5)) (all := [(.int .u64 ((x.toNat : Nat) : Int)), (.int .i64 4)]) (v := (.string (bstr (putL x.toNat 4)))) (hd.up (by omega)) rfl rfl rfl rfl rfl rfl rfl rfl (sPut 4 x.toNat (by have := x.isLt; omega) (by decide)) ?_
 intro n1 hn1
 refine OA.p (some 2) (.string (bstr (putL x.toNat 4))) rfl rfl rfl rfl ?_
 refine OA.nil ?_
 intro _
 refine RA.ret env_ok ?_
 refine ⟨.inr rfl, [(.string (bstr (putL x.toNat 4)))], (resL_cons rfl resL_nil), rfl, (fun i hi => by cases hi)⟩

theorem sMore {σ : Store} (a : BitVec 32) (m : Nat) (hm : m < 65536)   : PS Try.prog noDen 18 [(W a), (.int .i64 ((m : Nat) : Int))] σ (.agg ⟨[.int .i64 17, .string (moreV a m)]⟩) := by
 refine PS.body (E := env) env_ok rfl rfl (by show _ ≤ _; exact of_decide_eq_true (by kernel_rfl)) (fun n hd => ?_)
 refine RA.seq hd ?_
 refine RA.region env_ok ?_
 refine OA.op1 (dst := (some 4)) (v := (.pointer (some ⟨n, 0, some 0⟩))) (n1 := (n + 1)) (w := (n, some ⟨[[(.int .i64 0), (.string ByteArray.empty)]], 2, 35, true⟩)) rfl rfl rfl rfl (by omega) ?_
 refine OA.nil ?_
 intro _
 refine RA.seq hd ?_
 refine RA.region env_ok ?_
 refine OA.p (some 5) (W a) rfl rfl rfl rfl ?_
 refine OA.callP (dst := (some 6)) (all := [(W a)]) (v := (.string (bstr (be4 a)))) (hd.of (by omega) (kb1 (by omega))) rfl rfl rfl rfl rfl rfl rfl rfl (sU32 _) ?_
 intro n1 hn1
 refine OA.p (some 7) (.int .i64 ((m : Nat) : Int)) rfl rfl rfl rfl ?_
 refine OA.callP (dst := (some 8)) (all := [(.int .i64 ((m : Nat) : Int))]) (v := (.string (bstr (be2 m)))) (hd.of (by omega) (kb1 (by omega))) rfl rfl rfl rfl rfl rfl rfl rfl (sU16 m (by omega)) ?_
 intro n2 hn2
 refine OA.p (some 9) (.string ((bstr (be4 a)) ++ (bstr (be2 m)))) rfl rfl rfl (r_cat rfl rfl rfl (by (try simp only [ByteArray.size_append, bstr_size, size_lit, List.size_toArray, List.length_cons, List.length_nil, List.length_take, List.length_drop, List.length_replicate, be4_len, be2_len]); try omega)) ?_
 refine OA.callP (dst := (some 10)) (all := [(.int .i64 0)]) (v := (.string (bstr (be2 0)))) (hd.of (by omega) (kb1 (by omega))) rfl rfl rfl rfl rfl rfl rfl rfl (sU16 0 (by omega)) ?_
 intro n3 hn3
 refine OA.p (some 11) (.string (((bstr (be4 a)) ++ (bstr (be2 m))) ++ (bstr (be2 0)))) rfl rfl rfl (r_cat rfl rfl rfl (by (try simp only [ByteArray.size_append, bstr_size, size_lit, List.size_toArray, List.length_cons, List.length_nil, List.length_take, List.length_drop, List.length_replicate, be4_len, be2_len]); try omega)) ?_
 refine OA.p (some 12) (.agg ⟨[(.int .i64 17), (.string (((bstr (be4 a)) ++ (bstr (be2 m))) ++ (bstr (be2 0))))]⟩) rfl rfl rfl (by kernel_rfl) ?_
 refine OA.op1 (dst := none) (v := (.tuple #[])) (n1 := n3) (w := (n, some ⟨[[(.int .i64 17), (.string (((bstr (be4 a)) ++ (bstr (be2 m))) ++ (bstr (be2 0))))]], 2, 35, true⟩)) rfl rfl rfl (r_store rfl rfl rfl rfl rfl rfl rfl get_here rfl rfl (Nat.le_of_ble_eq_true rfl) rfl) (by omega) ?_
 refine OA.nil ?_
 intro _
 refine RA.ret env_ok ?_
 refine ⟨.inr rfl, [(.agg ⟨[(.int .i64 17), (.string (((bstr (be4 a)) ++ (bstr (be2 m))) ++ (bstr (be2 0))))]⟩)], (resL_cons (res_cellA rfl rfl rfl get_here rfl rfl rfl) resL_nil), rfl, (kc2 (by omega))⟩

theorem sRes {σ : Store} (a : BitVec 32) (m : Nat) (hm : m < 4294967296)   : PS Try.prog noDen 20 [(W a), (.int .i64 ((m : Nat) : Int))] σ (.agg ⟨[.int .i64 16, .string (resV a (BitVec.ofNat 32 m))]⟩) := by
 refine PS.body (E := env) env_ok rfl rfl (by show _ ≤ _; exact of_decide_eq_true (by kernel_rfl)) (fun n hd => ?_)
 refine RA.seq hd ?_
 refine RA.region env_ok ?_
 refine OA.op1 (dst := (some 4)) (v := (.pointer (some ⟨n, 0, some 0⟩))) (n1 := (n + 1)) (w := (n, some ⟨[[(.int .i64 0), (.string ByteArray.empty)]], 2, 35, true⟩)) rfl rfl rfl rfl (by omega) ?_
 refine OA.nil ?_
 intro _
 refine RA.seq hd ?_
 refine RA.region env_ok ?_
 refine OA.p (some 5) (W a) rfl rfl rfl rfl ?_
 refine OA.callP (dst := (some 6)) (all := [(W a)]) (v := (.string (bstr (be4 a)))) (hd.of (by omega) (kb1 (by omega))) rfl rfl rfl rfl rfl rfl rfl rfl (sU32 _) ?_
 intro n1 hn1
 refine OA.p (some 7) (.int .i64 ((m : Nat) : Int)) rfl rfl rfl rfl ?_
 refine OA.p (some 8) (W (BitVec.ofNat 32 m)) rfl rfl rfl (r_cvt rfl rfl rfl rfl rfl ⟨_, rfl⟩ (wrap_ofNat32 _)) ?_
 refine OA.callP (dst := (some 9)) (all := [(W (BitVec.ofNat 32 m))]) (v := (.string (bstr (be4 (BitVec.ofNat 32 m))))) (hd.of (by omega) (kb1 (by omega))) rfl rfl rfl rfl rfl rfl rfl rfl (sU32 _) ?_
 intro n2 hn2
 refine OA.p (some 10) (.string ((bstr (be4 a)) ++ (bstr (be4 (BitVec.ofNat 32 m))))) rfl rfl rfl (r_cat rfl rfl rfl (by (try simp only [ByteArray.size_append, bstr_size, size_lit, List.size_toArray, List.length_cons, List.length_nil, List.length_take, List.length_drop, List.length_replicate, be4_len]); try omega)) ?_
 refine OA.p (some 11) (.agg ⟨[(.int .i64 16), (.string ((bstr (be4 a)) ++ (bstr (be4 (BitVec.ofNat 32 m)))))]⟩) rfl rfl rfl (by kernel_rfl) ?_
 refine OA.op1 (dst := none) (v := (.tuple #[])) (n1 := n2) (w := (n, some ⟨[[(.int .i64 16), (.string ((bstr (be4 a)) ++ (bstr (be4 (BitVec.ofNat 32 m)))))]], 2, 35, true⟩)) rfl rfl rfl (r_store rfl rfl rfl rfl rfl rfl rfl get_here rfl rfl (Nat.le_of_ble_eq_true rfl) rfl) (by omega) ?_
 refine OA.nil ?_
 intro _
 refine RA.ret env_ok ?_
 refine ⟨.inr rfl, [(.agg ⟨[(.int .i64 16), (.string ((bstr (be4 a)) ++ (bstr (be4 (BitVec.ofNat 32 m)))))]⟩)], (resL_cons (res_cellA rfl rfl rfl get_here rfl rfl rfl) resL_nil), rfl, (kc2 (by omega))⟩

theorem sAsM {σ : Store} (typ : Int) (v : ByteArray) (hs : v.size < 4294967296) [Decidable (moreOk typ v)]   : PS Try.prog noDen 17 [(.agg ⟨[(.int .i64 typ), (.string v)]⟩)] σ (if moreOk typ v then (.tuple #[W (w32 v 0), .int .i64 ((at_ v 4 2 : Nat) : Int), .bool true]) else (.tuple #[W 0#32, .int .i64 0, .bool false])) := by
 refine PS.body (E := env) env_ok rfl rfl (by show _ ≤ _; exact of_decide_eq_true (by kernel_rfl)) (fun n hd => ?_)
 refine RA.seq hd ?_
 refine RA.region env_ok ?_
 refine OA.op1 (dst := (some 1)) (v := (.pointer (some ⟨n, 0, some 0⟩))) (n1 := (n + 1)) (w := (n, some ⟨[[(.int .i64 typ), (.string v)]], 2, 35, true⟩)) rfl rfl rfl rfl (by omega) ?_
 refine OA.p (some 2) (.int .u32 0) rfl rfl rfl rfl ?_
 refine OA.p (some 3) (.int .i64 0) rfl rfl rfl rfl ?_
 refine OA.p (some 4) (.bool false) rfl rfl rfl rfl ?_
 refine OA.nil ?_
 intro _
 refine RA.seq hd ?_
 refine RA.region env_ok ?_
 refine OA.p (some 9) (.pointer (some ⟨n, 0, some 1⟩)) rfl rfl rfl rfl ?_
 refine OA.p (some 10) (.string v) rfl rfl rfl (r_load1 rfl rfl rfl rfl rfl get_here rfl rfl) ?_
 refine OA.call (dst := (some 11)) (all := [(.string v)]) rfl rfl rfl rfl rfl rfl rfl rfl (CQ.imp (rNew (hd.of (by omega) (kb1 (by omega))) v) ?_)
 rintro _ n2 _ ⟨q1, hq1a, hq1b, rfl, rfl⟩ hn2
 refine OA.app1 ?_
 refine OA.p (some 5) (.pointer (some ⟨q1, 0, some 0⟩)) rfl rfl rfl rfl ?_
 refine OA.nil ?_
 intro _
 refine RA.seq hd ?_
 refine RA.region env_ok ?_
 refine OA.p (some 12) (.pointer (some ⟨q1, 0, some 0⟩)) rfl rfl rfl rfl ?_
 by_cases hc1 : 4 ≤ v.size
 ·
  refine OA.call (dst := (some 13)) (all := [(.pointer (some ⟨q1, 0, some 0⟩))]) rfl rfl rfl rfl rfl rfl rfl rfl (CQ.imp (rU32 (hd.of (by omega) (kb2 (by omega))) q1 v 0 (by omega) hs get_here) ?_)
  rintro _ n3 _ ⟨rfl, rfl⟩ hn3
  refine OA.app1 ?_
  refine OA.p (some 14) (.pointer (some ⟨q1, 0, some 0⟩)) rfl rfl rfl rfl ?_
  by_cases hc2 : 6 ≤ v.size
  ·
   refine OA.call (dst := (some 15)) (all := [(.pointer (some ⟨q1, 0, some 0⟩))]) rfl rfl rfl rfl rfl rfl rfl rfl (CQ.imp (rU16 (hd.of (by omega) (kb3 (by omega))) q1 v 4 (by omega) hs get_here) ?_)
   rintro _ n4 _ ⟨rfl, rfl⟩ hn4
   refine OA.app1 ?_
   refine OA.p (some 16) (.pointer (some ⟨q1, 0, some 0⟩)) rfl rfl rfl rfl ?_
   by_cases hc3 : 8 ≤ v.size
   ·
    refine OA.call (dst := (some 17)) (all := [(.pointer (some ⟨q1, 0, some 0⟩))]) rfl rfl rfl rfl rfl rfl rfl rfl (CQ.imp (rU16 (hd.of (by omega) (kb4 (by omega))) q1 v 6 (by omega) hs get_here) ?_)
    rintro _ n5 _ ⟨rfl, rfl⟩ hn5
    refine OA.app1 ?_
    refine OA.p (some 6) (W (w32 v 0)) rfl rfl rfl rfl ?_
    refine OA.p (some 7) (.int .i64 (((at_ v 4 2) : Nat) : Int)) rfl rfl rfl rfl ?_
    refine OA.p (some 8) (.int .i64 (((at_ v 6 2) : Nat) : Int)) rfl rfl rfl rfl ?_
    refine OA.nil ?_
    intro _
    refine RA.seq hd ?_
    refine RA.seq hd ?_
    refine RA.region env_ok ?_
    refine OA.p (some 18) (.pointer (some ⟨n, 0, some 0⟩)) rfl rfl rfl rfl ?_
    refine OA.p (some 19) (.int .i64 typ) rfl rfl rfl (r_load1 rfl rfl rfl rfl rfl (gt4 (by omega) get_here) rfl rfl) ?_
    by_cases hc4 : typ ≠ 17
    ·
     refine OA.p (some 20) (.bool true) rfl rfl rfl (Eq.trans (r_bin rfl rfl rfl (b_neq rfl)) (dT hc4)) ?_
     refine OA.p (some 21) (.bool true) rfl rfl rfl rfl ?_
     refine OA.off (dst := (some 22)) rfl rfl rfl ?_
     refine OA.off (dst := (some 23)) rfl rfl rfl ?_
     refine OA.off (dst := (some 24)) rfl rfl rfl ?_
     refine OA.p (some 25) (.bool true) rfl rfl rfl rfl ?_
     refine OA.p (some 26) (.bool true) rfl rfl rfl rfl ?_
     refine OA.off (dst := (some 27)) rfl rfl rfl ?_
     refine OA.off (dst := (some 28)) rfl rfl rfl ?_
     refine OA.p (some 29) (.bool true) rfl rfl rfl rfl ?_
     refine OA.p (some 30) (.bool true) rfl rfl rfl rfl ?_
     refine OA.off (dst := (some 31)) rfl rfl rfl ?_
     refine OA.off (dst := (some 32)) rfl rfl rfl ?_
     refine OA.p (some 33) (.bool true) rfl rfl rfl rfl ?_
     refine OA.nil ?_
     intro _
     refine RA.rebase [(0, (.agg ⟨[(.int .i64 typ), (.string v)]⟩)), (1, (.pointer (some ⟨n, 0, some 0⟩))), (2, (.int .u32 0)), (3, (.int .i64 0)), (4, (.bool false)), (5, (.pointer (some ⟨q1, 0, some 0⟩))), (6, (W (w32 v 0))), (7, (.int .i64 (((at_ v 4 2) : Nat) : Int))), (8, (.int .i64 (((at_ v 6 2) : Nat) : Int))), (33, (.bool true))] ⟨rfl, rfl, rfl, rfl, rfl, rfl, rfl, rfl, rfl, rfl, trivial⟩ (fun τr6 => ?_)
     refine RA.condT rfl ?_
     refine RA.seq hd ?_
     refine RA.region env_ok ?_
     refine OA.p (some 2) (.int .u32 0) rfl rfl rfl rfl ?_
     refine OA.p (some 3) (.int .i64 0) rfl rfl rfl rfl ?_
     refine OA.p (some 4) (.bool false) rfl rfl rfl rfl ?_
     refine OA.nil ?_
     intro _
     refine RA.ret env_ok ?_
     refine ⟨.inr rfl, [(.int .u32 0), (.int .i64 0), (.bool false)], (resL_cons rfl (resL_cons rfl (resL_cons rfl resL_nil))), (by rw [if_neg (show ¬ moreOk typ v from fun h => by unfold moreOk at h; omega)]; rfl), (kc5 (by omega))⟩
    ·
     refine OA.p (some 20) (.bool false) rfl rfl rfl (Eq.trans (r_bin rfl rfl rfl (b_neq rfl)) (dF hc4)) ?_
     refine OA.p (some 21) (.bool false) rfl rfl rfl rfl ?_
     refine OA.p (some 22) (.pointer (some ⟨q1, 0, some 0⟩)) rfl rfl rfl rfl ?_
     by_cases hc5 : v.size = 8
     ·
      refine OA.call (dst := (some 23)) (all := [(.pointer (some ⟨q1, 0, some 0⟩))]) rfl rfl rfl rfl rfl rfl rfl rfl (CQ.imp (rEnd (hd.of (by omega) (kb5 (by omega))) q1 _ (by rw [size_cut _ _ _ (Nat.le_refl _)]; omega) get_here) ?_)
      rintro _ n7 _ ⟨rfl, rfl⟩ hn7
      refine OA.app0 ?_
      refine OA.p (some 24) (.bool false) rfl rfl rfl (r_bin rfl rfl rfl (b_neq rfl)) ?_
      refine OA.p (some 25) (.bool false) rfl rfl rfl rfl ?_
      refine OA.p (some 26) (.bool false) rfl rfl rfl rfl ?_
      refine OA.p (some 27) (.int .i64 (((at_ v 6 2) : Nat) : Int)) rfl rfl rfl rfl ?_
      by_cases hc6 : (((at_ v 6 2) : Nat) : Int) ≠ 0
      ·
       refine OA.p (some 28) (.bool true) rfl rfl rfl (Eq.trans (r_bin rfl rfl rfl (b_neq rfl)) (dT hc6)) ?_
       refine OA.p (some 29) (.bool true) rfl rfl rfl rfl ?_
       refine OA.p (some 30) (.bool true) rfl rfl rfl rfl ?_
       refine OA.off (dst := (some 31)) rfl rfl rfl ?_
       refine OA.off (dst := (some 32)) rfl rfl rfl ?_
       refine OA.p (some 33) (.bool true) rfl rfl rfl rfl ?_
       refine OA.nil ?_
       intro _
       refine RA.rebase [(0, (.agg ⟨[(.int .i64 typ), (.string v)]⟩)), (1, (.pointer (some ⟨n, 0, some 0⟩))), (2, (.int .u32 0)), (3, (.int .i64 0)), (4, (.bool false)), (5, (.pointer (some ⟨q1, 0, some 0⟩))), (6, (W (w32 v 0))), (7, (.int .i64 (((at_ v 4 2) : Nat) : Int))), (8, (.int .i64 (((at_ v 6 2) : Nat) : Int))), (33, (.bool true))] ⟨rfl, rfl, rfl, rfl, rfl, rfl, rfl, rfl, rfl, rfl, trivial⟩ (fun τr8 => ?_)
       refine RA.condT rfl ?_
       refine RA.seq hd ?_
       refine RA.region env_ok ?_
       refine OA.p (some 2) (.int .u32 0) rfl rfl rfl rfl ?_
       refine OA.p (some 3) (.int .i64 0) rfl rfl rfl rfl ?_
       refine OA.p (some 4) (.bool false) rfl rfl rfl rfl ?_
       refine OA.nil ?_
       intro _
       refine RA.ret env_ok ?_
       refine ⟨.inr rfl, [(.int .u32 0), (.int .i64 0), (.bool false)], (resL_cons rfl (resL_cons rfl (resL_cons rfl resL_nil))), (by rw [if_neg (show ¬ moreOk typ v from fun h => by unfold moreOk at h; omega)]; rfl), (kc5 (by omega))⟩
      ·
       refine OA.p (some 28) (.bool false) rfl rfl rfl (Eq.trans (r_bin rfl rfl rfl (b_neq rfl)) (dF hc6)) ?_
       refine OA.p (some 29) (.bool false) rfl rfl rfl rfl ?_
       refine OA.p (some 30) (.bool false) rfl rfl rfl rfl ?_
       refine OA.p (some 31) (.int .i64 (((at_ v 4 2) : Nat) : Int)) rfl rfl rfl rfl ?_
       by_cases hc7 : (((at_ v 4 2) : Nat) : Int) = 0
       ·
        refine OA.p (some 32) (.bool true) rfl rfl rfl (Eq.trans (r_bin rfl rfl rfl (b_eql rfl)) (dT hc7)) ?_
        refine OA.p (some 33) (.bool true) rfl rfl rfl rfl ?_
        refine OA.nil ?_
        intro _
        refine RA.rebase [(0, (.agg ⟨[(.int .i64 typ), (.string v)]⟩)), (1, (.pointer (some ⟨n, 0, some 0⟩))), (2, (.int .u32 0)), (3, (.int .i64 0)), (4, (.bool false)), (5, (.pointer (some ⟨q1, 0, some 0⟩))), (6, (W (w32 v 0))), (7, (.int .i64 (((at_ v 4 2) : Nat) : Int))), (8, (.int .i64 (((at_ v 6 2) : Nat) : Int))), (33, (.bool true))] ⟨rfl, rfl, rfl, rfl, rfl, rfl, rfl, rfl, rfl, rfl, trivial⟩ (fun τr9 => ?_)
        refine RA.condT rfl ?_
        refine RA.seq hd ?_
        refine RA.region env_ok ?_
        refine OA.p (some 2) (.int .u32 0) rfl rfl rfl rfl ?_
        refine OA.p (some 3) (.int .i64 0) rfl rfl rfl rfl ?_
        refine OA.p (some 4) (.bool false) rfl rfl rfl rfl ?_
        refine OA.nil ?_
        intro _
        refine RA.ret env_ok ?_
        refine ⟨.inr rfl, [(.int .u32 0), (.int .i64 0), (.bool false)], (resL_cons rfl (resL_cons rfl (resL_cons rfl resL_nil))), (by rw [if_neg (show ¬ moreOk typ v from fun h => by unfold moreOk at h; omega)]; rfl), (kc5 (by omega))⟩
       ·
        refine OA.p (some 32) (.bool false) rfl rfl rfl (Eq.trans (r_bin rfl rfl rfl (b_eql rfl)) (dF hc7)) ?_
        refine OA.p (some 33) (.bool false) rfl rfl rfl rfl ?_
        refine OA.nil ?_
        intro _
        refine RA.rebase [(0, (.agg ⟨[(.int .i64 typ), (.string v)]⟩)), (1, (.pointer (some ⟨n, 0, some 0⟩))), (2, (.int .u32 0)), (3, (.int .i64 0)), (4, (.bool false)), (5, (.pointer (some ⟨q1, 0, some 0⟩))), (6, (W (w32 v 0))), (7, (.int .i64 (((at_ v 4 2) : Nat) : Int))), (8, (.int .i64 (((at_ v 6 2) : Nat) : Int))), (33, (.bool false))] ⟨rfl, rfl, rfl, rfl, rfl, rfl, rfl, rfl, rfl, rfl, trivial⟩ (fun τr10 => ?_)
        refine RA.condF rfl ?_
        refine RA.skip env_ok ?_
        intro _
        refine RA.seq hd ?_
        refine RA.region env_ok ?_
        refine OA.p (some 34) (W (w32 v 0)) rfl rfl rfl rfl ?_
        refine OA.p (some 35) (.int .i64 (((at_ v 4 2) : Nat) : Int)) rfl rfl rfl rfl ?_
        refine OA.p (some 2) (W (w32 v 0)) rfl rfl rfl rfl ?_
        refine OA.p (some 3) (.int .i64 (((at_ v 4 2) : Nat) : Int)) rfl rfl rfl rfl ?_
        refine OA.p (some 4) (.bool true) rfl rfl rfl rfl ?_
        refine OA.nil ?_
        intro _
        refine RA.ret env_ok ?_
        refine ⟨.inr rfl, [(W (w32 v 0)), (.int .i64 (((at_ v 4 2) : Nat) : Int)), (.bool true)], (resL_cons rfl (resL_cons rfl (resL_cons rfl resL_nil))), (by rw [if_pos (show moreOk typ v from by unfold moreOk; omega)]; rfl), (kc5 (by omega))⟩
     ·
      refine OA.call (dst := (some 23)) (all := [(.pointer (some ⟨q1, 0, some 0⟩))]) rfl rfl rfl rfl rfl rfl rfl rfl (CQ.imp (rEndM (hd.of (by omega) (kb5 (by omega))) q1 _ (by rw [size_cut _ _ _ (Nat.le_refl _)]; omega) get_here) ?_)
      rintro _ n11 _ ⟨rfl, rfl⟩ hn11
      refine OA.app1 ?_
      refine OA.p (some 24) (.bool true) rfl rfl rfl (r_bin rfl rfl rfl (b_neq rfl)) ?_
      refine OA.p (some 25) (.bool true) rfl rfl rfl rfl ?_
      refine OA.p (some 26) (.bool true) rfl rfl rfl rfl ?_
      refine OA.off (dst := (some 27)) rfl rfl rfl ?_
      refine OA.off (dst := (some 28)) rfl rfl rfl ?_
      refine OA.p (some 29) (.bool true) rfl rfl rfl rfl ?_
      refine OA.p (some 30) (.bool true) rfl rfl rfl rfl ?_
      refine OA.off (dst := (some 31)) rfl rfl rfl ?_
      refine OA.off (dst := (some 32)) rfl rfl rfl ?_
      refine OA.p (some 33) (.bool true) rfl rfl rfl rfl ?_
      refine OA.nil ?_
      intro _
      refine RA.rebase [(0, (.agg ⟨[(.int .i64 typ), (.string v)]⟩)), (1, (.pointer (some ⟨n, 0, some 0⟩))), (2, (.int .u32 0)), (3, (.int .i64 0)), (4, (.bool false)), (5, (.pointer (some ⟨q1, 0, some 0⟩))), (6, (W (w32 v 0))), (7, (.int .i64 (((at_ v 4 2) : Nat) : Int))), (8, (.int .i64 (((at_ v 6 2) : Nat) : Int))), (33, (.bool true))] ⟨rfl, rfl, rfl, rfl, rfl, rfl, rfl, rfl, rfl, rfl, trivial⟩ (fun τr12 => ?_)
      refine RA.condT rfl ?_
      refine RA.seq hd ?_
      refine RA.region env_ok ?_
      refine OA.p (some 2) (.int .u32 0) rfl rfl rfl rfl ?_
      refine OA.p (some 3) (.int .i64 0) rfl rfl rfl rfl ?_
      refine OA.p (some 4) (.bool false) rfl rfl rfl rfl ?_
      refine OA.nil ?_
      intro _
      refine RA.ret env_ok ?_
      refine ⟨.inr rfl, [(.int .u32 0), (.int .i64 0), (.bool false)], (resL_cons rfl (resL_cons rfl (resL_cons rfl resL_nil))), (by rw [if_neg (show ¬ moreOk typ v from fun h => by unfold moreOk at h; omega)]; rfl), (kc6 (by omega))⟩
   ·
    refine OA.call (dst := (some 17)) (all := [(.pointer (some ⟨q1, 0, some 0⟩))]) rfl rfl rfl rfl rfl rfl rfl rfl (CQ.imp (rU16S (hd.of (by omega) (kb4 (by omega))) q1 v 6 (by omega) (by omega) get_here) ?_)
    rintro _ n13 _ ⟨rfl, rfl⟩ hn13
    refine OA.app1 ?_
    refine OA.p (some 6) (W (w32 v 0)) rfl rfl rfl rfl ?_
    refine OA.p (some 7) (.int .i64 (((at_ v 4 2) : Nat) : Int)) rfl rfl rfl rfl ?_
    refine OA.p (some 8) (.int .i64 0) rfl rfl rfl rfl ?_
    refine OA.nil ?_
    intro _
    refine RA.seq hd ?_
    refine RA.seq hd ?_
    refine RA.region env_ok ?_
    refine OA.p (some 18) (.pointer (some ⟨n, 0, some 0⟩)) rfl rfl rfl rfl ?_
    refine OA.p (some 19) (.int .i64 typ) rfl rfl rfl (r_load1 rfl rfl rfl rfl rfl (gt4 (by omega) get_here) rfl rfl) ?_
    by_cases hc8 : typ ≠ 17
    ·
     refine OA.p (some 20) (.bool true) rfl rfl rfl (Eq.trans (r_bin rfl rfl rfl (b_neq rfl)) (dT hc8)) ?_
     refine OA.p (some 21) (.bool true) rfl rfl rfl rfl ?_
     refine OA.off (dst := (some 22)) rfl rfl rfl ?_
     refine OA.off (dst := (some 23)) rfl rfl rfl ?_
     refine OA.off (dst := (some 24)) rfl rfl rfl ?_
     refine OA.p (some 25) (.bool true) rfl rfl rfl rfl ?_
     refine OA.p (some 26) (.bool true) rfl rfl rfl rfl ?_
     refine OA.off (dst := (some 27)) rfl rfl rfl ?_
     refine OA.off (dst := (some 28)) rfl rfl rfl ?_
     refine OA.p (some 29) (.bool true) rfl rfl rfl rfl ?_
     refine OA.p (some 30) (.bool true) rfl rfl rfl rfl ?_
     refine OA.off (dst := (some 31)) rfl rfl rfl ?_
     refine OA.off (dst := (some 32)) rfl rfl rfl ?_
     refine OA.p (some 33) (.bool true) rfl rfl rfl rfl ?_
     refine OA.nil ?_
     intro _
     refine RA.rebase [(0, (.agg ⟨[(.int .i64 typ), (.string v)]⟩)), (1, (.pointer (some ⟨n, 0, some 0⟩))), (2, (.int .u32 0)), (3, (.int .i64 0)), (4, (.bool false)), (5, (.pointer (some ⟨q1, 0, some 0⟩))), (6, (W (w32 v 0))), (7, (.int .i64 (((at_ v 4 2) : Nat) : Int))), (8, (.int .i64 0)), (33, (.bool true))] ⟨rfl, rfl, rfl, rfl, rfl, rfl, rfl, rfl, rfl, rfl, trivial⟩ (fun τr14 => ?_)
     refine RA.condT rfl ?_
     refine RA.seq hd ?_
     refine RA.region env_ok ?_
     refine OA.p (some 2) (.int .u32 0) rfl rfl rfl rfl ?_
     refine OA.p (some 3) (.int .i64 0) rfl rfl rfl rfl ?_
     refine OA.p (some 4) (.bool false) rfl rfl rfl rfl ?_
     refine OA.nil ?_
     intro _
     refine RA.ret env_ok ?_
     refine ⟨.inr rfl, [(.int .u32 0), (.int .i64 0), (.bool false)], (resL_cons rfl (resL_cons rfl (resL_cons rfl resL_nil))), (by rw [if_neg (show ¬ moreOk typ v from fun h => by unfold moreOk at h; omega)]; rfl), (kc5 (by omega))⟩
    ·
     refine OA.p (some 20) (.bool false) rfl rfl rfl (Eq.trans (r_bin rfl rfl rfl (b_neq rfl)) (dF hc8)) ?_
     refine OA.p (some 21) (.bool false) rfl rfl rfl rfl ?_
     refine OA.p (some 22) (.pointer (some ⟨q1, 0, some 0⟩)) rfl rfl rfl rfl ?_
     refine OA.call (dst := (some 23)) (all := [(.pointer (some ⟨q1, 0, some 0⟩))]) rfl rfl rfl rfl rfl rfl rfl rfl (CQ.imp (rEndD (hd.of (by omega) (kb5 (by omega))) q1 _ get_here) ?_)
     rintro _ n15 _ ⟨rfl, rfl⟩ hn15
     refine OA.app0 ?_
     refine OA.p (some 24) (.bool true) rfl rfl rfl (r_bin rfl rfl rfl (b_neq rfl)) ?_
     refine OA.p (some 25) (.bool true) rfl rfl rfl rfl ?_
     refine OA.p (some 26) (.bool true) rfl rfl rfl rfl ?_
     refine OA.off (dst := (some 27)) rfl rfl rfl ?_
     refine OA.off (dst := (some 28)) rfl rfl rfl ?_
     refine OA.p (some 29) (.bool true) rfl rfl rfl rfl ?_
     refine OA.p (some 30) (.bool true) rfl rfl rfl rfl ?_
     refine OA.off (dst := (some 31)) rfl rfl rfl ?_
     refine OA.off (dst := (some 32)) rfl rfl rfl ?_
     refine OA.p (some 33) (.bool true) rfl rfl rfl rfl ?_
     refine OA.nil ?_
     intro _
     refine RA.rebase [(0, (.agg ⟨[(.int .i64 typ), (.string v)]⟩)), (1, (.pointer (some ⟨n, 0, some 0⟩))), (2, (.int .u32 0)), (3, (.int .i64 0)), (4, (.bool false)), (5, (.pointer (some ⟨q1, 0, some 0⟩))), (6, (W (w32 v 0))), (7, (.int .i64 (((at_ v 4 2) : Nat) : Int))), (8, (.int .i64 0)), (33, (.bool true))] ⟨rfl, rfl, rfl, rfl, rfl, rfl, rfl, rfl, rfl, rfl, trivial⟩ (fun τr16 => ?_)
     refine RA.condT rfl ?_
     refine RA.seq hd ?_
     refine RA.region env_ok ?_
     refine OA.p (some 2) (.int .u32 0) rfl rfl rfl rfl ?_
     refine OA.p (some 3) (.int .i64 0) rfl rfl rfl rfl ?_
     refine OA.p (some 4) (.bool false) rfl rfl rfl rfl ?_
     refine OA.nil ?_
     intro _
     refine RA.ret env_ok ?_
     refine ⟨.inr rfl, [(.int .u32 0), (.int .i64 0), (.bool false)], (resL_cons rfl (resL_cons rfl (resL_cons rfl resL_nil))), (by rw [if_neg (show ¬ moreOk typ v from fun h => by unfold moreOk at h; omega)]; rfl), (kc5 (by omega))⟩
  ·
   refine OA.call (dst := (some 15)) (all := [(.pointer (some ⟨q1, 0, some 0⟩))]) rfl rfl rfl rfl rfl rfl rfl rfl (CQ.imp (rU16S (hd.of (by omega) (kb3 (by omega))) q1 v 4 (by omega) (by omega) get_here) ?_)
   rintro _ n17 _ ⟨rfl, rfl⟩ hn17
   refine OA.app1 ?_
   refine OA.p (some 16) (.pointer (some ⟨q1, 0, some 0⟩)) rfl rfl rfl rfl ?_
   refine OA.call (dst := (some 17)) (all := [(.pointer (some ⟨q1, 0, some 0⟩))]) rfl rfl rfl rfl rfl rfl rfl rfl (CQ.imp (rU16D (hd.of (by omega) (kb4 (by omega))) q1 _ 0 get_here) ?_)
   rintro _ n18 _ ⟨rfl, rfl⟩ hn18
   refine OA.app0 ?_
   refine OA.p (some 6) (W (w32 v 0)) rfl rfl rfl rfl ?_
   refine OA.p (some 7) (.int .i64 0) rfl rfl rfl rfl ?_
   refine OA.p (some 8) (.int .i64 0) rfl rfl rfl rfl ?_
   refine OA.nil ?_
   intro _
   refine RA.seq hd ?_
   refine RA.seq hd ?_
   refine RA.region env_ok ?_
   refine OA.p (some 18) (.pointer (some ⟨n, 0, some 0⟩)) rfl rfl rfl rfl ?_
   refine OA.p (some 19) (.int .i64 typ) rfl rfl rfl (r_load1 rfl rfl rfl rfl rfl (gt3 (by omega) get_here) rfl rfl) ?_
   by_cases hc9 : typ ≠ 17
   ·
    refine OA.p (some 20) (.bool true) rfl rfl rfl (Eq.trans (r_bin rfl rfl rfl (b_neq rfl)) (dT hc9)) ?_
    refine OA.p (some 21) (.bool true) rfl rfl rfl rfl ?_
    refine OA.off (dst := (some 22)) rfl rfl rfl ?_
    refine OA.off (dst := (some 23)) rfl rfl rfl ?_
    refine OA.off (dst := (some 24)) rfl rfl rfl ?_
    refine OA.p (some 25) (.bool true) rfl rfl rfl rfl ?_
    refine OA.p (some 26) (.bool true) rfl rfl rfl rfl ?_
    refine OA.off (dst := (some 27)) rfl rfl rfl ?_
    refine OA.off (dst := (some 28)) rfl rfl rfl ?_
    refine OA.p (some 29) (.bool true) rfl rfl rfl rfl ?_
    refine OA.p (some 30) (.bool true) rfl rfl rfl rfl ?_
    refine OA.off (dst := (some 31)) rfl rfl rfl ?_
    refine OA.off (dst := (some 32)) rfl rfl rfl ?_
    refine OA.p (some 33) (.bool true) rfl rfl rfl rfl ?_
    refine OA.nil ?_
    intro _
    refine RA.rebase [(0, (.agg ⟨[(.int .i64 typ), (.string v)]⟩)), (1, (.pointer (some ⟨n, 0, some 0⟩))), (2, (.int .u32 0)), (3, (.int .i64 0)), (4, (.bool false)), (5, (.pointer (some ⟨q1, 0, some 0⟩))), (6, (W (w32 v 0))), (7, (.int .i64 0)), (8, (.int .i64 0)), (33, (.bool true))] ⟨rfl, rfl, rfl, rfl, rfl, rfl, rfl, rfl, rfl, rfl, trivial⟩ (fun τr19 => ?_)
    refine RA.condT rfl ?_
    refine RA.seq hd ?_
    refine RA.region env_ok ?_
    refine OA.p (some 2) (.int .u32 0) rfl rfl rfl rfl ?_
    refine OA.p (some 3) (.int .i64 0) rfl rfl rfl rfl ?_
    refine OA.p (some 4) (.bool false) rfl rfl rfl rfl ?_
    refine OA.nil ?_
    intro _
    refine RA.ret env_ok ?_
    refine ⟨.inr rfl, [(.int .u32 0), (.int .i64 0), (.bool false)], (resL_cons rfl (resL_cons rfl (resL_cons rfl resL_nil))), (by rw [if_neg (show ¬ moreOk typ v from fun h => by unfold moreOk at h; omega)]; rfl), (kc4 (by omega))⟩
   ·
    refine OA.p (some 20) (.bool false) rfl rfl rfl (Eq.trans (r_bin rfl rfl rfl (b_neq rfl)) (dF hc9)) ?_
    refine OA.p (some 21) (.bool false) rfl rfl rfl rfl ?_
    refine OA.p (some 22) (.pointer (some ⟨q1, 0, some 0⟩)) rfl rfl rfl rfl ?_
    refine OA.call (dst := (some 23)) (all := [(.pointer (some ⟨q1, 0, some 0⟩))]) rfl rfl rfl rfl rfl rfl rfl rfl (CQ.imp (rEndD (hd.of (by omega) (kb4 (by omega))) q1 _ get_here) ?_)
    rintro _ n20 _ ⟨rfl, rfl⟩ hn20
    refine OA.app0 ?_
    refine OA.p (some 24) (.bool true) rfl rfl rfl (r_bin rfl rfl rfl (b_neq rfl)) ?_
    refine OA.p (some 25) (.bool true) rfl rfl rfl rfl ?_
    refine OA.p (some 26) (.bool true) rfl rfl rfl rfl ?_
    refine OA.off (dst := (some 27)) rfl rfl rfl ?_
    refine OA.off (dst := (some 28)) rfl rfl rfl ?_
    refine OA.p (some 29) (.bool true) rfl rfl rfl rfl ?_
    refine OA.p (some 30) (.bool true) rfl rfl rfl rfl ?_
    refine OA.off (dst := (some 31)) rfl rfl rfl ?_
    refine OA.off (dst := (some 32)) rfl rfl rfl ?_
    refine OA.p (some 33) (.bool true) rfl rfl rfl rfl ?_
    refine OA.nil ?_
    intro _
    refine RA.rebase [(0, (.agg ⟨[(.int .i64 typ), (.string v)]⟩)), (1, (.pointer (some ⟨n, 0, some 0⟩))), (2, (.int .u32 0)), (3, (.int .i64 0)), (4, (.bool false)), (5, (.pointer (some ⟨q1, 0, some 0⟩))), (6, (W (w32 v 0))), (7, (.int .i64 0)), (8, (.int .i64 0)), (33, (.bool true))] ⟨rfl, rfl, rfl, rfl, rfl, rfl, rfl, rfl, rfl, rfl, trivial⟩ (fun τr21 => ?_)
    refine RA.condT rfl ?_
    refine RA.seq hd ?_
    refine RA.region env_ok ?_
    refine OA.p (some 2) (.int .u32 0) rfl rfl rfl rfl ?_
    refine OA.p (some 3) (.int .i64 0) rfl rfl rfl rfl ?_
    refine OA.p (some 4) (.bool false) rfl rfl rfl rfl ?_
    refine OA.nil ?_
    intro _
    refine RA.ret env_ok ?_
    refine ⟨.inr rfl, [(.int .u32 0), (.int .i64 0), (.bool false)], (resL_cons rfl (resL_cons rfl (resL_cons rfl resL_nil))), (by rw [if_neg (show ¬ moreOk typ v from fun h => by unfold moreOk at h; omega)]; rfl), (kc4 (by omega))⟩
 ·
  refine OA.call (dst := (some 13)) (all := [(.pointer (some ⟨q1, 0, some 0⟩))]) rfl rfl rfl rfl rfl rfl rfl rfl (CQ.imp (rU32S (hd.of (by omega) (kb2 (by omega))) q1 v 0 (by omega) (by omega) get_here) ?_)
  rintro _ n22 _ ⟨rfl, rfl⟩ hn22
  refine OA.app1 ?_
  refine OA.p (some 14) (.pointer (some ⟨q1, 0, some 0⟩)) rfl rfl rfl rfl ?_
  refine OA.call (dst := (some 15)) (all := [(.pointer (some ⟨q1, 0, some 0⟩))]) rfl rfl rfl rfl rfl rfl rfl rfl (CQ.imp (rU16D (hd.of (by omega) (kb3 (by omega))) q1 _ 0 get_here) ?_)
  rintro _ n23 _ ⟨rfl, rfl⟩ hn23
  refine OA.app0 ?_
  refine OA.p (some 16) (.pointer (some ⟨q1, 0, some 0⟩)) rfl rfl rfl rfl ?_
  refine OA.call (dst := (some 17)) (all := [(.pointer (some ⟨q1, 0, some 0⟩))]) rfl rfl rfl rfl rfl rfl rfl rfl (CQ.imp (rU16D (hd.of (by omega) (kb3 (by omega))) q1 _ 0 get_here) ?_)
  rintro _ n24 _ ⟨rfl, rfl⟩ hn24
  refine OA.app0 ?_
  refine OA.p (some 6) (W 0#32) rfl rfl rfl rfl ?_
  refine OA.p (some 7) (.int .i64 0) rfl rfl rfl rfl ?_
  refine OA.p (some 8) (.int .i64 0) rfl rfl rfl rfl ?_
  refine OA.nil ?_
  intro _
  refine RA.seq hd ?_
  refine RA.seq hd ?_
  refine RA.region env_ok ?_
  refine OA.p (some 18) (.pointer (some ⟨n, 0, some 0⟩)) rfl rfl rfl rfl ?_
  refine OA.p (some 19) (.int .i64 typ) rfl rfl rfl (r_load1 rfl rfl rfl rfl rfl (gt2 (by omega) get_here) rfl rfl) ?_
  by_cases hc10 : typ ≠ 17
  ·
   refine OA.p (some 20) (.bool true) rfl rfl rfl (Eq.trans (r_bin rfl rfl rfl (b_neq rfl)) (dT hc10)) ?_
   refine OA.p (some 21) (.bool true) rfl rfl rfl rfl ?_
   refine OA.off (dst := (some 22)) rfl rfl rfl ?_
   refine OA.off (dst := (some 23)) rfl rfl rfl ?_
   refine OA.off (dst := (some 24)) rfl rfl rfl ?_
   refine OA.p (some 25) (.bool true) rfl rfl rfl rfl ?_
   refine OA.p (some 26) (.bool true) rfl rfl rfl rfl ?_
   refine OA.off (dst := (some 27)) rfl rfl rfl ?_
   refine OA.off (dst := (some 28)) rfl rfl rfl ?_
   refine OA.p (some 29) (.bool true) rfl rfl rfl rfl ?_
   refine OA.p (some 30) (.bool true) rfl rfl rfl rfl ?_
   refine OA.off (dst := (some 31)) rfl rfl rfl ?_
   refine OA.off (dst := (some 32)) rfl rfl rfl ?_
   refine OA.p (some 33) (.bool true) rfl rfl rfl rfl ?_
   refine OA.nil ?_
   intro _
   refine RA.rebase [(0, (.agg ⟨[(.int .i64 typ), (.string v)]⟩)), (1, (.pointer (some ⟨n, 0, some 0⟩))), (2, (.int .u32 0)), (3, (.int .i64 0)), (4, (.bool false)), (5, (.pointer (some ⟨q1, 0, some 0⟩))), (6, (W 0#32)), (7, (.int .i64 0)), (8, (.int .i64 0)), (33, (.bool true))] ⟨rfl, rfl, rfl, rfl, rfl, rfl, rfl, rfl, rfl, rfl, trivial⟩ (fun τr25 => ?_)
   refine RA.condT rfl ?_
   refine RA.seq hd ?_
   refine RA.region env_ok ?_
   refine OA.p (some 2) (.int .u32 0) rfl rfl rfl rfl ?_
   refine OA.p (some 3) (.int .i64 0) rfl rfl rfl rfl ?_
   refine OA.p (some 4) (.bool false) rfl rfl rfl rfl ?_
   refine OA.nil ?_
   intro _
   refine RA.ret env_ok ?_
   refine ⟨.inr rfl, [(.int .u32 0), (.int .i64 0), (.bool false)], (resL_cons rfl (resL_cons rfl (resL_cons rfl resL_nil))), (by rw [if_neg (show ¬ moreOk typ v from fun h => by unfold moreOk at h; omega)]; rfl), (kc3 (by omega))⟩
  ·
   refine OA.p (some 20) (.bool false) rfl rfl rfl (Eq.trans (r_bin rfl rfl rfl (b_neq rfl)) (dF hc10)) ?_
   refine OA.p (some 21) (.bool false) rfl rfl rfl rfl ?_
   refine OA.p (some 22) (.pointer (some ⟨q1, 0, some 0⟩)) rfl rfl rfl rfl ?_
   refine OA.call (dst := (some 23)) (all := [(.pointer (some ⟨q1, 0, some 0⟩))]) rfl rfl rfl rfl rfl rfl rfl rfl (CQ.imp (rEndD (hd.of (by omega) (kb3 (by omega))) q1 _ get_here) ?_)
   rintro _ n26 _ ⟨rfl, rfl⟩ hn26
   refine OA.app0 ?_
   refine OA.p (some 24) (.bool true) rfl rfl rfl (r_bin rfl rfl rfl (b_neq rfl)) ?_
   refine OA.p (some 25) (.bool true) rfl rfl rfl rfl ?_
   refine OA.p (some 26) (.bool true) rfl rfl rfl rfl ?_
   refine OA.off (dst := (some 27)) rfl rfl rfl ?_
   refine OA.off (dst := (some 28)) rfl rfl rfl ?_
   refine OA.p (some 29) (.bool true) rfl rfl rfl rfl ?_
   refine OA.p (some 30) (.bool true) rfl rfl rfl rfl ?_
   refine OA.off (dst := (some 31)) rfl rfl rfl ?_
   refine OA.off (dst := (some 32)) rfl rfl rfl ?_
   refine OA.p (some 33) (.bool true) rfl rfl rfl rfl ?_
   refine OA.nil ?_
   intro _
   refine RA.rebase [(0, (.agg ⟨[(.int .i64 typ), (.string v)]⟩)), (1, (.pointer (some ⟨n, 0, some 0⟩))), (2, (.int .u32 0)), (3, (.int .i64 0)), (4, (.bool false)), (5, (.pointer (some ⟨q1, 0, some 0⟩))), (6, (W 0#32)), (7, (.int .i64 0)), (8, (.int .i64 0)), (33, (.bool true))] ⟨rfl, rfl, rfl, rfl, rfl, rfl, rfl, rfl, rfl, rfl, trivial⟩ (fun τr27 => ?_)
   refine RA.condT rfl ?_
   refine RA.seq hd ?_
   refine RA.region env_ok ?_
   refine OA.p (some 2) (.int .u32 0) rfl rfl rfl rfl ?_
   refine OA.p (some 3) (.int .i64 0) rfl rfl rfl rfl ?_
   refine OA.p (some 4) (.bool false) rfl rfl rfl rfl ?_
   refine OA.nil ?_
   intro _
   refine RA.ret env_ok ?_
   refine ⟨.inr rfl, [(.int .u32 0), (.int .i64 0), (.bool false)], (resL_cons rfl (resL_cons rfl (resL_cons rfl resL_nil))), (by rw [if_neg (show ¬ moreOk typ v from fun h => by unfold moreOk at h; omega)]; rfl), (kc3 (by omega))⟩

theorem sAsR {σ : Store} (typ : Int) (v : ByteArray) (hs : v.size < 4294967296) [Decidable (resOk typ v)]   : PS Try.prog noDen 19 [(.agg ⟨[(.int .i64 typ), (.string v)]⟩)] σ (if resOk typ v then (.tuple #[W (w32 v 0), .int .i64 (((w32 v 4).toNat : Nat) : Int), .bool true]) else (.tuple #[W 0#32, .int .i64 0, .bool false])) := by
 refine PS.body (E := env) env_ok rfl rfl (by show _ ≤ _; exact of_decide_eq_true (by kernel_rfl)) (fun n hd => ?_)
 refine RA.seq hd ?_
 refine RA.region env_ok ?_
 refine OA.op1 (dst := (some 1)) (v := (.pointer (some ⟨n, 0, some 0⟩))) (n1 := (n + 1)) (w := (n, some ⟨[[(.int .i64 typ), (.string v)]], 2, 35, true⟩)) rfl rfl rfl rfl (by omega) ?_
 refine OA.p (some 2) (.int .u32 0) rfl rfl rfl rfl ?_
 refine OA.p (some 3) (.int .i64 0) rfl rfl rfl rfl ?_
 refine OA.p (some 4) (.bool false) rfl rfl rfl rfl ?_
 refine OA.nil ?_
 intro _
 refine RA.seq hd ?_
 refine RA.region env_ok ?_
 refine OA.p (some 8) (.pointer (some ⟨n, 0, some 1⟩)) rfl rfl rfl rfl ?_
 refine OA.p (some 9) (.string v) rfl rfl rfl (r_load1 rfl rfl rfl rfl rfl get_here rfl rfl) ?_
 refine OA.call (dst := (some 10)) (all := [(.string v)]) rfl rfl rfl rfl rfl rfl rfl rfl (CQ.imp (rNew (hd.of (by omega) (kb1 (by omega))) v) ?_)
 rintro _ n2 _ ⟨q1, hq1a, hq1b, rfl, rfl⟩ hn2
 refine OA.app1 ?_
 refine OA.p (some 5) (.pointer (some ⟨q1, 0, some 0⟩)) rfl rfl rfl rfl ?_
 refine OA.nil ?_
 intro _
 refine RA.seq hd ?_
 refine RA.region env_ok ?_
 refine OA.p (some 11) (.pointer (some ⟨q1, 0, some 0⟩)) rfl rfl rfl rfl ?_
 by_cases hc1 : 4 ≤ v.size
 ·
  refine OA.call (dst := (some 12)) (all := [(.pointer (some ⟨q1, 0, some 0⟩))]) rfl rfl rfl rfl rfl rfl rfl rfl (CQ.imp (rU32 (hd.of (by omega) (kb2 (by omega))) q1 v 0 (by omega) hs get_here) ?_)
  rintro _ n3 _ ⟨rfl, rfl⟩ hn3
  refine OA.app1 ?_
  refine OA.p (some 13) (.pointer (some ⟨q1, 0, some 0⟩)) rfl rfl rfl rfl ?_
  by_cases hc2 : 8 ≤ v.size
  ·
   refine OA.call (dst := (some 14)) (all := [(.pointer (some ⟨q1, 0, some 0⟩))]) rfl rfl rfl rfl rfl rfl rfl rfl (CQ.imp (rU32 (hd.of (by omega) (kb3 (by omega))) q1 v 4 (by omega) hs get_here) ?_)
   rintro _ n4 _ ⟨rfl, rfl⟩ hn4
   refine OA.app1 ?_
   refine OA.p (some 6) (W (w32 v 0)) rfl rfl rfl rfl ?_
   refine OA.p (some 7) (W (w32 v 4)) rfl rfl rfl rfl ?_
   refine OA.nil ?_
   intro _
   refine RA.seq hd ?_
   refine RA.seq hd ?_
   refine RA.region env_ok ?_
   refine OA.p (some 15) (.pointer (some ⟨n, 0, some 0⟩)) rfl rfl rfl rfl ?_
   refine OA.p (some 16) (.int .i64 typ) rfl rfl rfl (r_load1 rfl rfl rfl rfl rfl (gt3 (by omega) get_here) rfl rfl) ?_
   by_cases hc3 : typ ≠ 16
   ·
    refine OA.p (some 17) (.bool true) rfl rfl rfl (Eq.trans (r_bin rfl rfl rfl (b_neq rfl)) (dT hc3)) ?_
    refine OA.p (some 18) (.bool true) rfl rfl rfl rfl ?_
    refine OA.off (dst := (some 19)) rfl rfl rfl ?_
    refine OA.off (dst := (some 20)) rfl rfl rfl ?_
    refine OA.off (dst := (some 21)) rfl rfl rfl ?_
    refine OA.p (some 22) (.bool true) rfl rfl rfl rfl ?_
    refine OA.p (some 23) (.bool true) rfl rfl rfl rfl ?_
    refine OA.off (dst := (some 24)) rfl rfl rfl ?_
    refine OA.off (dst := (some 25)) rfl rfl rfl ?_
    refine OA.off (dst := (some 26)) rfl rfl rfl ?_
    refine OA.off (dst := (some 27)) rfl rfl rfl ?_
    refine OA.off (dst := (some 28)) rfl rfl rfl ?_
    refine OA.off (dst := (some 29)) rfl rfl rfl ?_
    refine OA.p (some 30) (.bool true) rfl rfl rfl rfl ?_
    refine OA.nil ?_
    intro _
    refine RA.rebase [(0, (.agg ⟨[(.int .i64 typ), (.string v)]⟩)), (1, (.pointer (some ⟨n, 0, some 0⟩))), (2, (.int .u32 0)), (3, (.int .i64 0)), (4, (.bool false)), (5, (.pointer (some ⟨q1, 0, some 0⟩))), (6, (W (w32 v 0))), (7, (W (w32 v 4))), (30, (.bool true))] ⟨rfl, rfl, rfl, rfl, rfl, rfl, rfl, rfl, rfl, trivial⟩ (fun τr5 => ?_)
    refine RA.condT rfl ?_
    refine RA.seq hd ?_
    refine RA.region env_ok ?_
    refine OA.p (some 2) (.int .u32 0) rfl rfl rfl rfl ?_
    refine OA.p (some 3) (.int .i64 0) rfl rfl rfl rfl ?_
    refine OA.p (some 4) (.bool false) rfl rfl rfl rfl ?_
    refine OA.nil ?_
    intro _
    refine RA.ret env_ok ?_
    refine ⟨.inr rfl, [(.int .u32 0), (.int .i64 0), (.bool false)], (resL_cons rfl (resL_cons rfl (resL_cons rfl resL_nil))), (by rw [if_neg (show ¬ resOk typ v from fun h => by unfold resOk at h; omega)]; rfl), (kc4 (by omega))⟩
   ·
    refine OA.p (some 17) (.bool false) rfl rfl rfl (Eq.trans (r_bin rfl rfl rfl (b_neq rfl)) (dF hc3)) ?_
    refine OA.p (some 18) (.bool false) rfl rfl rfl rfl ?_
    refine OA.p (some 19) (.pointer (some ⟨q1, 0, some 0⟩)) rfl rfl rfl rfl ?_
    by_cases hc4 : v.size = 8
    ·
     refine OA.call (dst := (some 20)) (all := [(.pointer (some ⟨q1, 0, some 0⟩))]) rfl rfl rfl rfl rfl rfl rfl rfl (CQ.imp (rEnd (hd.of (by omega) (kb4 (by omega))) q1 _ (by rw [size_cut _ _ _ (Nat.le_refl _)]; omega) get_here) ?_)
     rintro _ n6 _ ⟨rfl, rfl⟩ hn6
     refine OA.app0 ?_
     refine OA.p (some 21) (.bool false) rfl rfl rfl (r_bin rfl rfl rfl (b_neq rfl)) ?_
     refine OA.p (some 22) (.bool false) rfl rfl rfl rfl ?_
     refine OA.p (some 23) (.bool false) rfl rfl rfl rfl ?_
     refine OA.p (some 24) (W (w32 v 4)) rfl rfl rfl rfl ?_
     by_cases hc5 : ((w32 v 4).toNat : Int) ≠ 1
     ·
      refine OA.p (some 25) (.bool true) rfl rfl rfl (Eq.trans (r_bin rfl rfl rfl (b_neq rfl)) (dT hc5)) ?_
      refine OA.p (some 26) (.bool true) rfl rfl rfl rfl ?_
      refine OA.p (some 27) (W (w32 v 4)) rfl rfl rfl rfl ?_
      by_cases hc6 : ((w32 v 4).toNat : Int) ≠ 2
      ·
       refine OA.p (some 28) (.bool true) rfl rfl rfl (Eq.trans (r_bin rfl rfl rfl (b_neq rfl)) (dT hc6)) ?_
       refine OA.p (some 29) (.bool true) rfl rfl rfl rfl ?_
       refine OA.p (some 30) (.bool true) rfl rfl rfl rfl ?_
       refine OA.nil ?_
       intro _
       refine RA.rebase [(0, (.agg ⟨[(.int .i64 typ), (.string v)]⟩)), (1, (.pointer (some ⟨n, 0, some 0⟩))), (2, (.int .u32 0)), (3, (.int .i64 0)), (4, (.bool false)), (5, (.pointer (some ⟨q1, 0, some 0⟩))), (6, (W (w32 v 0))), (7, (W (w32 v 4))), (30, (.bool true))] ⟨rfl, rfl, rfl, rfl, rfl, rfl, rfl, rfl, rfl, trivial⟩ (fun τr7 => ?_)
       refine RA.condT rfl ?_
       refine RA.seq hd ?_
       refine RA.region env_ok ?_
       refine OA.p (some 2) (.int .u32 0) rfl rfl rfl rfl ?_
       refine OA.p (some 3) (.int .i64 0) rfl rfl rfl rfl ?_
       refine OA.p (some 4) (.bool false) rfl rfl rfl rfl ?_
       refine OA.nil ?_
       intro _
       refine RA.ret env_ok ?_
       refine ⟨.inr rfl, [(.int .u32 0), (.int .i64 0), (.bool false)], (resL_cons rfl (resL_cons rfl (resL_cons rfl resL_nil))), (by rw [if_neg (show ¬ resOk typ v from fun h => by unfold resOk at h; omega)]; rfl), (kc4 (by omega))⟩
      ·
       refine OA.p (some 28) (.bool false) rfl rfl rfl (Eq.trans (r_bin rfl rfl rfl (b_neq rfl)) (dF hc6)) ?_
       refine OA.p (some 29) (.bool false) rfl rfl rfl rfl ?_
       refine OA.p (some 30) (.bool false) rfl rfl rfl rfl ?_
       refine OA.nil ?_
       intro _
       refine RA.rebase [(0, (.agg ⟨[(.int .i64 typ), (.string v)]⟩)), (1, (.pointer (some ⟨n, 0, some 0⟩))), (2, (.int .u32 0)), (3, (.int .i64 0)), (4, (.bool false)), (5, (.pointer (some ⟨q1, 0, some 0⟩))), (6, (W (w32 v 0))), (7, (W (w32 v 4))), (30, (.bool false))] ⟨rfl, rfl, rfl, rfl, rfl, rfl, rfl, rfl, rfl, trivial⟩ (fun τr8 => ?_)
       refine RA.condF rfl ?_
       refine RA.skip env_ok ?_
       intro _
       refine RA.seq hd ?_
       refine RA.region env_ok ?_
       refine OA.p (some 31) (W (w32 v 0)) rfl rfl rfl rfl ?_
       refine OA.p (some 32) (W (w32 v 4)) rfl rfl rfl rfl ?_
       refine OA.p (some 33) (.int .i64 (((w32 v 4).toNat : Nat) : Int)) rfl rfl rfl (r_cvt rfl rfl rfl rfl rfl ⟨_, rfl⟩ (i64_eq (by have := ((w32 v 4)).isLt; omega))) ?_
       refine OA.p (some 2) (W (w32 v 0)) rfl rfl rfl rfl ?_
       refine OA.p (some 3) (.int .i64 (((w32 v 4).toNat : Nat) : Int)) rfl rfl rfl rfl ?_
       refine OA.p (some 4) (.bool true) rfl rfl rfl rfl ?_
       refine OA.nil ?_
       intro _
       refine RA.ret env_ok ?_
       refine ⟨.inr rfl, [(W (w32 v 0)), (.int .i64 (((w32 v 4).toNat : Nat) : Int)), (.bool true)], (resL_cons rfl (resL_cons rfl (resL_cons rfl resL_nil))), (by rw [if_pos (show resOk typ v from by unfold resOk; omega)]; rfl), (kc4 (by omega))⟩
     ·
      refine OA.p (some 25) (.bool false) rfl rfl rfl (Eq.trans (r_bin rfl rfl rfl (b_neq rfl)) (dF hc5)) ?_
      refine OA.p (some 26) (.bool false) rfl rfl rfl rfl ?_
      refine OA.off (dst := (some 27)) rfl rfl rfl ?_
      refine OA.off (dst := (some 28)) rfl rfl rfl ?_
      refine OA.p (some 29) (.bool false) rfl rfl rfl rfl ?_
      refine OA.p (some 30) (.bool false) rfl rfl rfl rfl ?_
      refine OA.nil ?_
      intro _
      refine RA.rebase [(0, (.agg ⟨[(.int .i64 typ), (.string v)]⟩)), (1, (.pointer (some ⟨n, 0, some 0⟩))), (2, (.int .u32 0)), (3, (.int .i64 0)), (4, (.bool false)), (5, (.pointer (some ⟨q1, 0, some 0⟩))), (6, (W (w32 v 0))), (7, (W (w32 v 4))), (30, (.bool false))] ⟨rfl, rfl, rfl, rfl, rfl, rfl, rfl, rfl, rfl, trivial⟩ (fun τr9 => ?_)
      refine RA.condF rfl ?_
      refine RA.skip env_ok ?_
      intro _
      refine RA.seq hd ?_
      refine RA.region env_ok ?_
      refine OA.p (some 31) (W (w32 v 0)) rfl rfl rfl rfl ?_
      refine OA.p (some 32) (W (w32 v 4)) rfl rfl rfl rfl ?_
      refine OA.p (some 33) (.int .i64 (((w32 v 4).toNat : Nat) : Int)) rfl rfl rfl (r_cvt rfl rfl rfl rfl rfl ⟨_, rfl⟩ (i64_eq (by have := ((w32 v 4)).isLt; omega))) ?_
      refine OA.p (some 2) (W (w32 v 0)) rfl rfl rfl rfl ?_
      refine OA.p (some 3) (.int .i64 (((w32 v 4).toNat : Nat) : Int)) rfl rfl rfl rfl ?_
      refine OA.p (some 4) (.bool true) rfl rfl rfl rfl ?_
      refine OA.nil ?_
      intro _
      refine RA.ret env_ok ?_
      refine ⟨.inr rfl, [(W (w32 v 0)), (.int .i64 (((w32 v 4).toNat : Nat) : Int)), (.bool true)], (resL_cons rfl (resL_cons rfl (resL_cons rfl resL_nil))), (by rw [if_pos (show resOk typ v from by unfold resOk; omega)]; rfl), (kc4 (by omega))⟩
    ·
     refine OA.call (dst := (some 20)) (all := [(.pointer (some ⟨q1, 0, some 0⟩))]) rfl rfl rfl rfl rfl rfl rfl rfl (CQ.imp (rEndM (hd.of (by omega) (kb4 (by omega))) q1 _ (by rw [size_cut _ _ _ (Nat.le_refl _)]; omega) get_here) ?_)
     rintro _ n10 _ ⟨rfl, rfl⟩ hn10
     refine OA.app1 ?_
     refine OA.p (some 21) (.bool true) rfl rfl rfl (r_bin rfl rfl rfl (b_neq rfl)) ?_
     refine OA.p (some 22) (.bool true) rfl rfl rfl rfl ?_
     refine OA.p (some 23) (.bool true) rfl rfl rfl rfl ?_
     refine OA.off (dst := (some 24)) rfl rfl rfl ?_
     refine OA.off (dst := (some 25)) rfl rfl rfl ?_
     refine OA.off (dst := (some 26)) rfl rfl rfl ?_
     refine OA.off (dst := (some 27)) rfl rfl rfl ?_
     refine OA.off (dst := (some 28)) rfl rfl rfl ?_
     refine OA.off (dst := (some 29)) rfl rfl rfl ?_
     refine OA.p (some 30) (.bool true) rfl rfl rfl rfl ?_
     refine OA.nil ?_
     intro _
     refine RA.rebase [(0, (.agg ⟨[(.int .i64 typ), (.string v)]⟩)), (1, (.pointer (some ⟨n, 0, some 0⟩))), (2, (.int .u32 0)), (3, (.int .i64 0)), (4, (.bool false)), (5, (.pointer (some ⟨q1, 0, some 0⟩))), (6, (W (w32 v 0))), (7, (W (w32 v 4))), (30, (.bool true))] ⟨rfl, rfl, rfl, rfl, rfl, rfl, rfl, rfl, rfl, trivial⟩ (fun τr11 => ?_)
     refine RA.condT rfl ?_
     refine RA.seq hd ?_
     refine RA.region env_ok ?_
     refine OA.p (some 2) (.int .u32 0) rfl rfl rfl rfl ?_
     refine OA.p (some 3) (.int .i64 0) rfl rfl rfl rfl ?_
     refine OA.p (some 4) (.bool false) rfl rfl rfl rfl ?_
     refine OA.nil ?_
     intro _
     refine RA.ret env_ok ?_
     refine ⟨.inr rfl, [(.int .u32 0), (.int .i64 0), (.bool false)], (resL_cons rfl (resL_cons rfl (resL_cons rfl resL_nil))), (by rw [if_neg (show ¬ resOk typ v from fun h => by unfold resOk at h; omega)]; rfl), (kc5 (by omega))⟩
  ·
   refine OA.call (dst := (some 14)) (all := [(.pointer (some ⟨q1, 0, some 0⟩))]) rfl rfl rfl rfl rfl rfl rfl rfl (CQ.imp (rU32S (hd.of (by omega) (kb3 (by omega))) q1 v 4 (by omega) (by omega) get_here) ?_)
   rintro _ n12 _ ⟨rfl, rfl⟩ hn12
   refine OA.app1 ?_
   refine OA.p (some 6) (W (w32 v 0)) rfl rfl rfl rfl ?_
   refine OA.p (some 7) (W 0#32) rfl rfl rfl rfl ?_
   refine OA.nil ?_
   intro _
   refine RA.seq hd ?_
   refine RA.seq hd ?_
   refine RA.region env_ok ?_
   refine OA.p (some 15) (.pointer (some ⟨n, 0, some 0⟩)) rfl rfl rfl rfl ?_
   refine OA.p (some 16) (.int .i64 typ) rfl rfl rfl (r_load1 rfl rfl rfl rfl rfl (gt3 (by omega) get_here) rfl rfl) ?_
   by_cases hc7 : typ ≠ 16
   ·
    refine OA.p (some 17) (.bool true) rfl rfl rfl (Eq.trans (r_bin rfl rfl rfl (b_neq rfl)) (dT hc7)) ?_
    refine OA.p (some 18) (.bool true) rfl rfl rfl rfl ?_
    refine OA.off (dst := (some 19)) rfl rfl rfl ?_
    refine OA.off (dst := (some 20)) rfl rfl rfl ?_
    refine OA.off (dst := (some 21)) rfl rfl rfl ?_
    refine OA.p (some 22) (.bool true) rfl rfl rfl rfl ?_
    refine OA.p (some 23) (.bool true) rfl rfl rfl rfl ?_
    refine OA.off (dst := (some 24)) rfl rfl rfl ?_
    refine OA.off (dst := (some 25)) rfl rfl rfl ?_
    refine OA.off (dst := (some 26)) rfl rfl rfl ?_
    refine OA.off (dst := (some 27)) rfl rfl rfl ?_
    refine OA.off (dst := (some 28)) rfl rfl rfl ?_
    refine OA.off (dst := (some 29)) rfl rfl rfl ?_
    refine OA.p (some 30) (.bool true) rfl rfl rfl rfl ?_
    refine OA.nil ?_
    intro _
    refine RA.rebase [(0, (.agg ⟨[(.int .i64 typ), (.string v)]⟩)), (1, (.pointer (some ⟨n, 0, some 0⟩))), (2, (.int .u32 0)), (3, (.int .i64 0)), (4, (.bool false)), (5, (.pointer (some ⟨q1, 0, some 0⟩))), (6, (W (w32 v 0))), (7, (W 0#32)), (30, (.bool true))] ⟨rfl, rfl, rfl, rfl, rfl, rfl, rfl, rfl, rfl, trivial⟩ (fun τr13 => ?_)
    refine RA.condT rfl ?_
    refine RA.seq hd ?_
    refine RA.region env_ok ?_
    refine OA.p (some 2) (.int .u32 0) rfl rfl rfl rfl ?_
    refine OA.p (some 3) (.int .i64 0) rfl rfl rfl rfl ?_
    refine OA.p (some 4) (.bool false) rfl rfl rfl rfl ?_
    refine OA.nil ?_
    intro _
    refine RA.ret env_ok ?_
    refine ⟨.inr rfl, [(.int .u32 0), (.int .i64 0), (.bool false)], (resL_cons rfl (resL_cons rfl (resL_cons rfl resL_nil))), (by rw [if_neg (show ¬ resOk typ v from fun h => by unfold resOk at h; omega)]; rfl), (kc4 (by omega))⟩
   ·
    refine OA.p (some 17) (.bool false) rfl rfl rfl (Eq.trans (r_bin rfl rfl rfl (b_neq rfl)) (dF hc7)) ?_
    refine OA.p (some 18) (.bool false) rfl rfl rfl rfl ?_
    refine OA.p (some 19) (.pointer (some ⟨q1, 0, some 0⟩)) rfl rfl rfl rfl ?_
    refine OA.call (dst := (some 20)) (all := [(.pointer (some ⟨q1, 0, some 0⟩))]) rfl rfl rfl rfl rfl rfl rfl rfl (CQ.imp (rEndD (hd.of (by omega) (kb4 (by omega))) q1 _ get_here) ?_)
    rintro _ n14 _ ⟨rfl, rfl⟩ hn14
    refine OA.app0 ?_
    refine OA.p (some 21) (.bool true) rfl rfl rfl (r_bin rfl rfl rfl (b_neq rfl)) ?_
    refine OA.p (some 22) (.bool true) rfl rfl rfl rfl ?_
    refine OA.p (some 23) (.bool true) rfl rfl rfl rfl ?_
    refine OA.off (dst := (some 24)) rfl rfl rfl ?_
    refine OA.off (dst := (some 25)) rfl rfl rfl ?_
    refine OA.off (dst := (some 26)) rfl rfl rfl ?_
    refine OA.off (dst := (some 27)) rfl rfl rfl ?_
    refine OA.off (dst := (some 28)) rfl rfl rfl ?_
    refine OA.off (dst := (some 29)) rfl rfl rfl ?_
    refine OA.p (some 30) (.bool true) rfl rfl rfl rfl ?_
    refine OA.nil ?_
    intro _
    refine RA.rebase [(0, (.agg ⟨[(.int .i64 typ), (.string v)]⟩)), (1, (.pointer (some ⟨n, 0, some 0⟩))), (2, (.int .u32 0)), (3, (.int .i64 0)), (4, (.bool false)), (5, (.pointer (some ⟨q1, 0, some 0⟩))), (6, (W (w32 v 0))), (7, (W 0#32)), (30, (.bool true))] ⟨rfl, rfl, rfl, rfl, rfl, rfl, rfl, rfl, rfl, trivial⟩ (fun τr15 => ?_)
    refine RA.condT rfl ?_
    refine RA.seq hd ?_
    refine RA.region env_ok ?_
    refine OA.p (some 2) (.int .u32 0) rfl rfl rfl rfl ?_
    refine OA.p (some 3) (.int .i64 0) rfl rfl rfl rfl ?_
    refine OA.p (some 4) (.bool false) rfl rfl rfl rfl ?_
    refine OA.nil ?_
    intro _
    refine RA.ret env_ok ?_
    refine ⟨.inr rfl, [(.int .u32 0), (.int .i64 0), (.bool false)], (resL_cons rfl (resL_cons rfl (resL_cons rfl resL_nil))), (by rw [if_neg (show ¬ resOk typ v from fun h => by unfold resOk at h; omega)]; rfl), (kc4 (by omega))⟩
 ·
  refine OA.call (dst := (some 12)) (all := [(.pointer (some ⟨q1, 0, some 0⟩))]) rfl rfl rfl rfl rfl rfl rfl rfl (CQ.imp (rU32S (hd.of (by omega) (kb2 (by omega))) q1 v 0 (by omega) (by omega) get_here) ?_)
  rintro _ n16 _ ⟨rfl, rfl⟩ hn16
  refine OA.app1 ?_
  refine OA.p (some 13) (.pointer (some ⟨q1, 0, some 0⟩)) rfl rfl rfl rfl ?_
  refine OA.call (dst := (some 14)) (all := [(.pointer (some ⟨q1, 0, some 0⟩))]) rfl rfl rfl rfl rfl rfl rfl rfl (CQ.imp (rU32D (hd.of (by omega) (kb3 (by omega))) q1 _ 0 get_here) ?_)
  rintro _ n17 _ ⟨rfl, rfl⟩ hn17
  refine OA.app0 ?_
  refine OA.p (some 6) (W 0#32) rfl rfl rfl rfl ?_
  refine OA.p (some 7) (W 0#32) rfl rfl rfl rfl ?_
  refine OA.nil ?_
  intro _
  refine RA.seq hd ?_
  refine RA.seq hd ?_
  refine RA.region env_ok ?_
  refine OA.p (some 15) (.pointer (some ⟨n, 0, some 0⟩)) rfl rfl rfl rfl ?_
  refine OA.p (some 16) (.int .i64 typ) rfl rfl rfl (r_load1 rfl rfl rfl rfl rfl (gt2 (by omega) get_here) rfl rfl) ?_
  by_cases hc8 : typ ≠ 16
  ·
   refine OA.p (some 17) (.bool true) rfl rfl rfl (Eq.trans (r_bin rfl rfl rfl (b_neq rfl)) (dT hc8)) ?_
   refine OA.p (some 18) (.bool true) rfl rfl rfl rfl ?_
   refine OA.off (dst := (some 19)) rfl rfl rfl ?_
   refine OA.off (dst := (some 20)) rfl rfl rfl ?_
   refine OA.off (dst := (some 21)) rfl rfl rfl ?_
   refine OA.p (some 22) (.bool true) rfl rfl rfl rfl ?_
   refine OA.p (some 23) (.bool true) rfl rfl rfl rfl ?_
   refine OA.off (dst := (some 24)) rfl rfl rfl ?_
   refine OA.off (dst := (some 25)) rfl rfl rfl ?_
   refine OA.off (dst := (some 26)) rfl rfl rfl ?_
   refine OA.off (dst := (some 27)) rfl rfl rfl ?_
   refine OA.off (dst := (some 28)) rfl rfl rfl ?_
   refine OA.off (dst := (some 29)) rfl rfl rfl ?_
   refine OA.p (some 30) (.bool true) rfl rfl rfl rfl ?_
   refine OA.nil ?_
   intro _
   refine RA.rebase [(0, (.agg ⟨[(.int .i64 typ), (.string v)]⟩)), (1, (.pointer (some ⟨n, 0, some 0⟩))), (2, (.int .u32 0)), (3, (.int .i64 0)), (4, (.bool false)), (5, (.pointer (some ⟨q1, 0, some 0⟩))), (6, (W 0#32)), (7, (W 0#32)), (30, (.bool true))] ⟨rfl, rfl, rfl, rfl, rfl, rfl, rfl, rfl, rfl, trivial⟩ (fun τr18 => ?_)
   refine RA.condT rfl ?_
   refine RA.seq hd ?_
   refine RA.region env_ok ?_
   refine OA.p (some 2) (.int .u32 0) rfl rfl rfl rfl ?_
   refine OA.p (some 3) (.int .i64 0) rfl rfl rfl rfl ?_
   refine OA.p (some 4) (.bool false) rfl rfl rfl rfl ?_
   refine OA.nil ?_
   intro _
   refine RA.ret env_ok ?_
   refine ⟨.inr rfl, [(.int .u32 0), (.int .i64 0), (.bool false)], (resL_cons rfl (resL_cons rfl (resL_cons rfl resL_nil))), (by rw [if_neg (show ¬ resOk typ v from fun h => by unfold resOk at h; omega)]; rfl), (kc3 (by omega))⟩
  ·
   refine OA.p (some 17) (.bool false) rfl rfl rfl (Eq.trans (r_bin rfl rfl rfl (b_neq rfl)) (dF hc8)) ?_
   refine OA.p (some 18) (.bool false) rfl rfl rfl rfl ?_
   refine OA.p (some 19) (.pointer (some ⟨q1, 0, some 0⟩)) rfl rfl rfl rfl ?_
   refine OA.call (dst := (some 20)) (all := [(.pointer (some ⟨q1, 0, some 0⟩))]) rfl rfl rfl rfl rfl rfl rfl rfl (CQ.imp (rEndD (hd.of (by omega) (kb3 (by omega))) q1 _ get_here) ?_)
   rintro _ n19 _ ⟨rfl, rfl⟩ hn19
   refine OA.app0 ?_
   refine OA.p (some 21) (.bool true) rfl rfl rfl (r_bin rfl rfl rfl (b_neq rfl)) ?_
   refine OA.p (some 22) (.bool true) rfl rfl rfl rfl ?_
   refine OA.p (some 23) (.bool true) rfl rfl rfl rfl ?_
   refine OA.off (dst := (some 24)) rfl rfl rfl ?_
   refine OA.off (dst := (some 25)) rfl rfl rfl ?_
   refine OA.off (dst := (some 26)) rfl rfl rfl ?_
   refine OA.off (dst := (some 27)) rfl rfl rfl ?_
   refine OA.off (dst := (some 28)) rfl rfl rfl ?_
   refine OA.off (dst := (some 29)) rfl rfl rfl ?_
   refine OA.p (some 30) (.bool true) rfl rfl rfl rfl ?_
   refine OA.nil ?_
   intro _
   refine RA.rebase [(0, (.agg ⟨[(.int .i64 typ), (.string v)]⟩)), (1, (.pointer (some ⟨n, 0, some 0⟩))), (2, (.int .u32 0)), (3, (.int .i64 0)), (4, (.bool false)), (5, (.pointer (some ⟨q1, 0, some 0⟩))), (6, (W 0#32)), (7, (W 0#32)), (30, (.bool true))] ⟨rfl, rfl, rfl, rfl, rfl, rfl, rfl, rfl, rfl, trivial⟩ (fun τr20 => ?_)
   refine RA.condT rfl ?_
   refine RA.seq hd ?_
   refine RA.region env_ok ?_
   refine OA.p (some 2) (.int .u32 0) rfl rfl rfl rfl ?_
   refine OA.p (some 3) (.int .i64 0) rfl rfl rfl rfl ?_
   refine OA.p (some 4) (.bool false) rfl rfl rfl rfl ?_
   refine OA.nil ?_
   intro _
   refine RA.ret env_ok ?_
   refine ⟨.inr rfl, [(.int .u32 0), (.int .i64 0), (.bool false)], (resL_cons rfl (resL_cons rfl (resL_cons rfl resL_nil))), (by rw [if_neg (show ¬ resOk typ v from fun h => by unfold resOk at h; omega)]; rfl), (kc3 (by omega))⟩

theorem sAsM1 {σ : Store} (typ : Int) (v : ByteArray) (hs : v.size < 4294967296) (h : moreOk typ v) : PS Try.prog noDen 17 [(.agg ⟨[(.int .i64 typ), (.string v)]⟩)] σ (.tuple #[W (w32 v 0), .int .i64 ((at_ v 4 2 : Nat) : Int), .bool true]) := by
  haveI := Classical.propDecidable (moreOk typ v)
  have h1 := sAsM (σ := σ) typ v hs
  rwa [if_pos h] at h1

theorem sAsM0 {σ : Store} (typ : Int) (v : ByteArray) (hs : v.size < 4294967296) (h : ¬ moreOk typ v) : PS Try.prog noDen 17 [(.agg ⟨[(.int .i64 typ), (.string v)]⟩)] σ (.tuple #[W 0#32, .int .i64 0, .bool false]) := by
  haveI := Classical.propDecidable (moreOk typ v)
  have h1 := sAsM (σ := σ) typ v hs
  rwa [if_neg h] at h1

theorem sAsR1 {σ : Store} (typ : Int) (v : ByteArray) (hs : v.size < 4294967296) (h : resOk typ v) : PS Try.prog noDen 19 [(.agg ⟨[(.int .i64 typ), (.string v)]⟩)] σ (.tuple #[W (w32 v 0), .int .i64 (((w32 v 4).toNat : Nat) : Int), .bool true]) := by
  haveI := Classical.propDecidable (resOk typ v)
  have h1 := sAsR (σ := σ) typ v hs
  rwa [if_pos h] at h1

theorem sAsR0 {σ : Store} (typ : Int) (v : ByteArray) (hs : v.size < 4294967296) (h : ¬ resOk typ v) : PS Try.prog noDen 19 [(.agg ⟨[(.int .i64 typ), (.string v)]⟩)] σ (.tuple #[W 0#32, .int .i64 0, .bool false]) := by
  haveI := Classical.propDecidable (resOk typ v)
  have h1 := sAsR (σ := σ) typ v hs
  rwa [if_neg h] at h1

theorem sMM1 {σ : Store} (a : BitVec 32) (m : Nat) (hm : m < 65536) (h : m ≠ 0) : PS Try.prog noDen 17 [(.agg ⟨[(.int .i64 17), (.string (moreV a m))]⟩)] σ (.tuple #[W a, .int .i64 ((m : Nat) : Int), .bool true]) := by
  have h1 := sAsM1 (σ := σ) 17 (moreV a m) (by rw [moreV_size]; omega) ⟨rfl, moreV_size a m, mv6 a m, by rw [mv4 a m hm]; exact h⟩
  rwa [mv0, mv4 a m hm] at h1
theorem sMM0 {σ : Store} (a : BitVec 32) (m : Nat) (hm : m < 65536) (h : ¬ m ≠ 0) : PS Try.prog noDen 17 [(.agg ⟨[(.int .i64 17), (.string (moreV a m))]⟩)] σ (.tuple #[W 0#32, .int .i64 0, .bool false]) :=
  sAsM0 (σ := σ) 17 (moreV a m) (by rw [moreV_size]; omega) (fun q => by unfold moreOk at q; rw [mv4 a m hm] at q; omega)
theorem sRR1 {σ : Store} (a : BitVec 32) (m : Nat) (hm : m < 4294967296) (h : m = 1 ∨ m = 2) : PS Try.prog noDen 19 [(.agg ⟨[(.int .i64 16), (.string (resV a (BitVec.ofNat 32 m)))]⟩)] σ (.tuple #[W a, .int .i64 ((m : Nat) : Int), .bool true]) := by
  have e : (BitVec.ofNat 32 m).toNat = m := by rw [BitVec.toNat_ofNat]; omega
  have h1 := sAsR1 (σ := σ) 16 (resV a (BitVec.ofNat 32 m)) (by rw [resV_size]; omega) ⟨rfl, resV_size _ _, by rw [rv4, e]; exact h⟩
  rwa [rv0, rv4, e] at h1
theorem sRR0 {σ : Store} (a : BitVec 32) (m : Nat) (hm : m < 4294967296) (h : ¬ (m = 1 ∨ m = 2)) : PS Try.prog noDen 19 [(.agg ⟨[(.int .i64 16), (.string (resV a (BitVec.ofNat 32 m)))]⟩)] σ (.tuple #[W 0#32, .int .i64 0, .bool false]) :=
  sAsR0 (σ := σ) 16 (resV a (BitVec.ofNat 32 m)) (by rw [resV_size]; omega) (fun q => by
    have e : (BitVec.ofNat 32 m).toNat = m := by rw [BitVec.toNat_ofNat]; omega
    unfold resOk at q; rw [rv4, e] at q; omega)

end Go.Proofs.Ytgajcmanompmcaa.Vt
