/- Pt: walks through functions of the program, by the calculus; written by a program of this workplace. -/
import Derived.Test.YtmdncojhnbbafaaRd
namespace Go.Proofs.Ytmdncojhnbbafaa.Vt
open Go Go.Proofs Go.Proofs.YtmdncojhnbbafaaV
set_option maxRecDepth 100000
set_option linter.unusedVariables false
set_option linter.unusedSimpArgs false
def be4 (x : BitVec 32) : List UInt8 := [UInt8.ofNat (x >>> 24).toNat, UInt8.ofNat (x >>> 16).toNat, UInt8.ofNat (x >>> 8).toNat, UInt8.ofNat x.toNat]
theorem be4_len (x : BitVec 32) : (be4 x).length = 4 := rfl
def tagsOk (typ : Int) (v : ByteArray) : Prop := typ = 49160 ∧ v.size = 12 ∧ (w32 v 4).toNat ≠ 0 ∧ (w32 v 8).toNat ≠ 0
theorem awake {σ : Store} : PS Try.prog noDen 47 [] σ (.bool true) := PS.closed env_ok rfl (F := 100) (k := 20) (by kernel_rfl) rfl rfl
theorem beN_be4 (x : BitVec 32) : beN (be4 x) = x.toNat := by
  have h := x.isLt
  simp only [beN, be4, List.foldl, BitVec.toNat_ushiftRight, Nat.shiftRight_eq_div_pow, UInt8.toNat_ofNat']
  omega
theorem ofNat_toNat32 (x : BitVec 32) : BitVec.ofNat 32 x.toNat = x := by simp
def tagsV (a b c : BitVec 32) : ByteArray := (bstr (be4 a) ++ bstr (be4 b)) ++ bstr (be4 c)
theorem L_tagsV (a b c : BitVec 32) : L (tagsV a b c) = be4 a ++ (be4 b ++ be4 c) := by rw [tagsV, L_append, L_append, L_bstr, L_bstr, L_bstr, List.append_assoc]
theorem tagsV_size (a b c : BitVec 32) : (tagsV a b c).size = 12 := by rw [← L_len, L_tagsV]; rfl
theorem tv0 (a b c : BitVec 32) : w32 (tagsV a b c) 0 = a := by rw [w32, at_, L_tagsV]; exact (congrArg _ (beN_be4 a)).trans (ofNat_toNat32 a)
theorem tv4 (a b c : BitVec 32) : w32 (tagsV a b c) 4 = b := by rw [w32, at_, L_tagsV]; exact (congrArg _ (beN_be4 b)).trans (ofNat_toNat32 b)
theorem tv8 (a b c : BitVec 32) : w32 (tagsV a b c) 8 = c := by rw [w32, at_, L_tagsV]; exact (congrArg _ (beN_be4 c)).trans (ofNat_toNat32 c)
theorem tags_ok (a b c : BitVec 32) : tagsOk 49160 (tagsV a b c) ↔ b.toNat ≠ 0 ∧ c.toNat ≠ 0 := by
  unfold tagsOk
  rw [tv4, tv8, tagsV_size]
  simp
/-- Four bytes, by their number. -/
theorem be4_beN {a b c d : UInt8} : be4 (BitVec.ofNat 32 (beN [a, b, c, d])) = [a, b, c, d] := by
  have ha := UInt8.toNat_lt a
  have hb := UInt8.toNat_lt b
  have hc := UInt8.toNat_lt c
  have hd := UInt8.toNat_lt d
  have hn : (BitVec.ofNat 32 (beN [a, b, c, d])).toNat = ((a.toNat * 256 + b.toNat) * 256 + c.toNat) * 256 + d.toNat := by
    rw [BitVec.toNat_ofNat]
    simp only [beN, List.foldl]
    omega
  have e : ∀ (x : UInt8) (m : Nat), m % 256 = x.toNat → UInt8.ofNat m = x := fun x m h => by
    apply UInt8.toNat_inj.1
    rw [UInt8.toNat_ofNat']
    exact h
  simp only [be4, BitVec.toNat_ushiftRight, Nat.shiftRight_eq_div_pow, hn]
  rw [e a _ (by omega), e b _ (by omega), e c _ (by omega), e d _ (by omega)]
theorem four_of {l : List UInt8} (h : l.length = 4) : ∃ a b c d, l = [a, b, c, d] := by
  match l, h with
  | [a, b, c, d], _ => exact ⟨a, b, c, d, rfl⟩
theorem be4_at {u : ByteArray} {p : Nat} (h : p + 4 ≤ u.size) : be4 (w32 u p) = ((L u).drop p).take 4 := by
  obtain ⟨a, b, c, d, e⟩ := four_of (l := ((L u).drop p).take 4) (by rw [List.length_take, List.length_drop, L_len]; omega)
  rw [w32, at_, e, be4_beN]
theorem zero_at {u : ByteArray} {p q : Nat} (h : p + 4 = q) (hq : q ≤ u.size) : u.extract p q = ⟨#[0, 0, 0, 0]⟩ ↔ (w32 u p).toNat = 0 := by
  subst h
  have e1 : L (u.extract p (p + 4)) = ((L u).drop p).take 4 := by rw [L_extract]; congr 1; omega
  rw [← be4_at hq] at e1
  constructor
  · intro h
    have h2 : be4 (w32 u p) = [0, 0, 0, 0] := by rw [← e1, h]
    have h3 := beN_be4 (w32 u p)
    rw [h2] at h3
    exact h3.symm
  · intro h
    apply L_ext
    rw [e1]
    have : w32 u p = 0#32 := by apply BitVec.eq_of_toNat_eq; rw [h]; rfl
    rw [this]
    rfl
theorem cat_at {u : ByteArray} (h : u.size = 12) : tagsV (w32 u 0) (w32 u 4) (w32 u 8) = u := by
  apply L_ext
  rw [L_tagsV, be4_at (by omega), be4_at (by omega), be4_at (by omega)]
  have hl : (L u).length = 12 := by rw [L_len, h]
  have e : ∀ l : List UInt8, l.length = 12 → (l.drop 0).take 4 ++ ((l.drop 4).take 4 ++ (l.drop 8).take 4) = l := fun l hl => by
    match l, hl with
    | [a1, a2, a3, a4, a5, a6, a7, a8, a9, a10, a11, a12], _ => rfl
  exact e _ hl
theorem cat_done {x u : ByteArray} (h : x = u) : one [Value.bool (decide (x = u))] = .bool true := by rw [one, decide_eq_true h]
theorem sU32 {σ : Store} (x : BitVec 32)   : PS Try.prog noDen 25 [(W x)] σ (.string (bstr (be4 x))) := by
  refine PS.body (E := env) env_ok rfl rfl (by show _ ≤ _; exact of_decide_eq_true (by kernel_rfl)) (fun n hd => ?_)
  refine RA.seq hd ?_
  refine RA.region env_ok ?_
  refine OA.pure (dst := (some 2)) (v := (.string (ByteArray.mk #[]))) rfl rfl rfl rfl ?_
  refine OA.nil ?_
  intro _
  refine RA.seq hd ?_
  refine RA.region env_ok ?_
  refine OA.pure (dst := (some 3)) (v := (W x)) rfl rfl rfl rfl ?_
  refine OA.pure (dst := (some 4)) (v := (W (x >>> 24))) rfl rfl rfl (r_bin rfl rfl rfl (b_shrW _ (s := 24) (by omega))) ?_
  refine OA.pure (dst := (some 5)) (v := (.int .u8 (((UInt8.ofNat ((x >>> 24)).toNat).toNat : Nat) : Int))) rfl rfl rfl (r_cvt rfl rfl rfl rfl rfl ⟨_, rfl⟩ (wrap_u8n _)) ?_
  refine OA.pure (dst := (some 6)) (v := (W x)) rfl rfl rfl rfl ?_
  refine OA.pure (dst := (some 7)) (v := (W (x >>> 16))) rfl rfl rfl (r_bin rfl rfl rfl (b_shrW _ (s := 16) (by omega))) ?_
  refine OA.pure (dst := (some 8)) (v := (.int .u8 (((UInt8.ofNat ((x >>> 16)).toNat).toNat : Nat) : Int))) rfl rfl rfl (r_cvt rfl rfl rfl rfl rfl ⟨_, rfl⟩ (wrap_u8n _)) ?_
  refine OA.pure (dst := (some 9)) (v := (W x)) rfl rfl rfl rfl ?_
  refine OA.pure (dst := (some 10)) (v := (W (x >>> 8))) rfl rfl rfl (r_bin rfl rfl rfl (b_shrW _ (s := 8) (by omega))) ?_
  refine OA.pure (dst := (some 11)) (v := (.int .u8 (((UInt8.ofNat ((x >>> 8)).toNat).toNat : Nat) : Int))) rfl rfl rfl (r_cvt rfl rfl rfl rfl rfl ⟨_, rfl⟩ (wrap_u8n _)) ?_
  refine OA.pure (dst := (some 12)) (v := (W x)) rfl rfl rfl rfl ?_
  refine OA.pure (dst := (some 13)) (v := (.int .u8 (((UInt8.ofNat (x).toNat).toNat : Nat) : Int))) rfl rfl rfl (r_cvt rfl rfl rfl rfl rfl ⟨_, rfl⟩ (wrap_u8n _)) ?_
  refine OA.op (dst := (some 14)) (v := (.slice (some ⟨n, 0, none⟩) 4 0)) (n1 := (n + 1)) (d1 := [(n, some ⟨(bc [(UInt8.ofNat ((x >>> 24)).toNat), (UInt8.ofNat ((x >>> 16)).toNat), (UInt8.ofNat ((x >>> 8)).toNat), (UInt8.ofNat (x).toNat)]), 1, 5, true⟩)]) (D' := [(n, some ⟨(bc [(UInt8.ofNat ((x >>> 24)).toNat), (UInt8.ofNat ((x >>> 16)).toNat), (UInt8.ofNat ((x >>> 8)).toNat), (UInt8.ofNat (x).toNat)]), 1, 5, true⟩)]) rfl rfl rfl (by kernel_rfl) (by omega) rfl ?_
  refine OA.pure (dst := (some 15)) (v := (.string (bstr (([(UInt8.ofNat ((x >>> 24)).toNat), (UInt8.ofNat ((x >>> 16)).toNat), (UInt8.ofNat ((x >>> 8)).toNat), (UInt8.ofNat (x).toNat)].drop 0).take 4)))) rfl rfl rfl (r_b2s rfl rfl rfl rfl rfl rfl rfl rfl get_here (by rw [show ([(UInt8.ofNat ((x >>> 24)).toNat), (UInt8.ofNat ((x >>> 16)).toNat), (UInt8.ofNat ((x >>> 8)).toNat), (UInt8.ofNat (x).toNat)] : List UInt8).length = 4 from rfl]; omega)) ?_
  refine OA.pure (dst := (some 2)) (v := (.string (bstr (([(UInt8.ofNat ((x >>> 24)).toNat), (UInt8.ofNat ((x >>> 16)).toNat), (UInt8.ofNat ((x >>> 8)).toNat), (UInt8.ofNat (x).toNat)].drop 0).take 4)))) rfl rfl rfl rfl ?_
  refine OA.nil ?_
  intro _
  refine RA.ret env_ok ?_
  refine ⟨.inr rfl, [(.string (bstr (([(UInt8.ofNat ((x >>> 24)).toNat), (UInt8.ofNat ((x >>> 16)).toNat), (UInt8.ofNat ((x >>> 8)).toNat), (UInt8.ofNat (x).toNat)].drop 0).take 4)))], (resL_cons rfl resL_nil), rfl, (by intro i hi; simp only [keys, List.cons_append, List.nil_append, List.map_cons, List.map_nil, List.mem_cons, List.not_mem_nil, or_false, false_or] at hi; omega)⟩

theorem sTags {σ : Store} (a b c : BitVec 32)   : PS Try.prog noDen 49 [(W a), (W b), (W c)] σ (.agg ⟨[.int .i64 49160, .string (tagsV a b c)]⟩) := by
  refine PS.body (E := env) env_ok rfl rfl (by show _ ≤ _; exact of_decide_eq_true (by kernel_rfl)) (fun n hd => ?_)
  refine RA.seq hd ?_
  refine RA.region env_ok ?_
  refine OA.op (dst := (some 6)) (v := (.pointer (some ⟨n, 0, some 0⟩))) (n1 := (n + 1)) (d1 := [(n, some ⟨[[(.int .i64 0), (.string ByteArray.empty)]], 2, 65, true⟩)]) (D' := [(n, some ⟨[[(.int .i64 0), (.string ByteArray.empty)]], 2, 65, true⟩)]) rfl rfl rfl rfl (by omega) rfl ?_
  refine OA.nil ?_
  intro _
  refine RA.seq hd ?_
  refine RA.region env_ok ?_
  refine OA.pure (dst := (some 7)) (v := (W a)) rfl rfl rfl rfl ?_
  refine OA.callP (dst := (some 8)) (all := [(W a)]) (v := (.string (bstr (be4 a)))) (hd.of (by omega) (by intro i hi; simp only [keys, List.cons_append, List.nil_append, List.map_cons, List.map_nil, List.mem_cons, List.not_mem_nil, or_false, false_or] at hi; omega)) rfl rfl rfl rfl rfl rfl rfl rfl (sU32 _) ?_
  intro n1 hn1
  refine OA.pure (dst := (some 9)) (v := (W b)) rfl rfl rfl rfl ?_
  refine OA.callP (dst := (some 10)) (all := [(W b)]) (v := (.string (bstr (be4 b)))) (hd.of (by omega) (by intro i hi; simp only [keys, List.cons_append, List.nil_append, List.map_cons, List.map_nil, List.mem_cons, List.not_mem_nil, or_false, false_or] at hi; omega)) rfl rfl rfl rfl rfl rfl rfl rfl (sU32 _) ?_
  intro n2 hn2
  refine OA.pure (dst := (some 11)) (v := (.string ((bstr (be4 a)) ++ (bstr (be4 b))))) rfl rfl rfl (r_cat rfl rfl rfl (by (try simp only [ByteArray.size_append, bstr_size, size_lit, List.size_toArray, List.length_cons, List.length_nil, List.length_take, List.length_drop, List.length_replicate, be4_len]); try omega)) ?_
  refine OA.pure (dst := (some 12)) (v := (W c)) rfl rfl rfl rfl ?_
  refine OA.callP (dst := (some 13)) (all := [(W c)]) (v := (.string (bstr (be4 c)))) (hd.of (by omega) (by intro i hi; simp only [keys, List.cons_append, List.nil_append, List.map_cons, List.map_nil, List.mem_cons, List.not_mem_nil, or_false, false_or] at hi; omega)) rfl rfl rfl rfl rfl rfl rfl rfl (sU32 _) ?_
  intro n3 hn3
  refine OA.pure (dst := (some 14)) (v := (.string (((bstr (be4 a)) ++ (bstr (be4 b))) ++ (bstr (be4 c))))) rfl rfl rfl (r_cat rfl rfl rfl (by (try simp only [ByteArray.size_append, bstr_size, size_lit, List.size_toArray, List.length_cons, List.length_nil, List.length_take, List.length_drop, List.length_replicate, be4_len]); try omega)) ?_
  refine OA.pure (dst := (some 15)) (v := (.agg ⟨[(.int .i64 49160), (.string (((bstr (be4 a)) ++ (bstr (be4 b))) ++ (bstr (be4 c))))]⟩)) rfl rfl rfl (by kernel_rfl) ?_
  refine OA.op (dst := none) (v := (.tuple #[])) (n1 := n3) (d1 := [(n, some ⟨[[(.int .i64 49160), (.string (((bstr (be4 a)) ++ (bstr (be4 b))) ++ (bstr (be4 c))))]], 2, 65, true⟩)]) (D' := [(n, some ⟨[[(.int .i64 49160), (.string (((bstr (be4 a)) ++ (bstr (be4 b))) ++ (bstr (be4 c))))]], 2, 65, true⟩), (n, some ⟨[[(.int .i64 0), (.string ByteArray.empty)]], 2, 65, true⟩)]) rfl rfl rfl (r_store rfl rfl rfl rfl rfl rfl rfl get_here rfl rfl (Nat.le_of_ble_eq_true rfl) rfl) (by omega) rfl ?_
  refine OA.nil ?_
  intro _
  refine RA.ret env_ok ?_
  refine ⟨.inr rfl, [(.agg ⟨[(.int .i64 49160), (.string (((bstr (be4 a)) ++ (bstr (be4 b))) ++ (bstr (be4 c))))]⟩)], (resL_cons (res_cellA rfl rfl rfl get_here rfl rfl rfl) resL_nil), rfl, (by intro i hi; simp only [keys, List.cons_append, List.nil_append, List.map_cons, List.map_nil, List.mem_cons, List.not_mem_nil, or_false, false_or] at hi; omega)⟩

theorem sAs {σ : Store} (typ : Int) (v : ByteArray) (hs : v.size < 4294967296) [Decidable (tagsOk typ v)]   : PS Try.prog noDen 48 [(.agg ⟨[(.int .i64 typ), (.string v)]⟩)] σ (if tagsOk typ v then (.tuple #[W (w32 v 0), W (w32 v 4), W (w32 v 8), .bool true]) else (.tuple #[W 0#32, W 0#32, W 0#32, .bool false])) := by
  refine PS.body (E := env) env_ok rfl rfl (by show _ ≤ _; exact of_decide_eq_true (by kernel_rfl)) (fun n hd => ?_)
  refine RA.seq hd ?_
  refine RA.region env_ok ?_
  refine OA.op (dst := (some 1)) (v := (.pointer (some ⟨n, 0, some 0⟩))) (n1 := (n + 1)) (d1 := [(n, some ⟨[[(.int .i64 typ), (.string v)]], 2, 65, true⟩)]) (D' := [(n, some ⟨[[(.int .i64 typ), (.string v)]], 2, 65, true⟩)]) rfl rfl rfl rfl (by omega) rfl ?_
  refine OA.pure (dst := (some 2)) (v := (.int .u32 0)) rfl rfl rfl rfl ?_
  refine OA.pure (dst := (some 3)) (v := (.int .u32 0)) rfl rfl rfl rfl ?_
  refine OA.pure (dst := (some 4)) (v := (.int .u32 0)) rfl rfl rfl rfl ?_
  refine OA.pure (dst := (some 5)) (v := (.bool false)) rfl rfl rfl rfl ?_
  refine OA.nil ?_
  intro _
  refine RA.seq hd ?_
  refine RA.region env_ok ?_
  refine OA.pure (dst := (some 10)) (v := (.pointer (some ⟨n, 0, some 1⟩))) rfl rfl rfl rfl ?_
  refine OA.pure (dst := (some 11)) (v := (.string v)) rfl rfl rfl (r_load1 rfl rfl rfl rfl rfl get_here rfl rfl) ?_
  refine OA.call (dst := (some 12)) (all := [(.string v)]) rfl rfl rfl rfl rfl rfl rfl rfl (CQ.imp (rNew (hd.of (by omega) (by intro i hi; simp only [keys, List.cons_append, List.nil_append, List.map_cons, List.map_nil, List.mem_cons, List.not_mem_nil, or_false, false_or] at hi; omega)) v) ?_)
  rintro _ n2 _ ⟨q1, hq1a, hq1b, rfl, rfl⟩ hn2
  show OA _ _ _ _ _ _ _ _ [(q1, some ⟨[[(.string (v.extract 0 v.size)), (.int .i64 0)]], 2, 113, true⟩), (n, some ⟨[[(.int .i64 typ), (.string v)]], 2, 65, true⟩)] _
  refine OA.pure (dst := (some 6)) (v := (.pointer (some ⟨q1, 0, some 0⟩))) rfl rfl rfl rfl ?_
  refine OA.nil ?_
  intro _
  refine RA.seq hd ?_
  refine RA.region env_ok ?_
  refine OA.pure (dst := (some 13)) (v := (.pointer (some ⟨q1, 0, some 0⟩))) rfl rfl rfl rfl ?_
  by_cases hc1 : 4 ≤ v.size
  ·
    refine OA.call (dst := (some 14)) (all := [(.pointer (some ⟨q1, 0, some 0⟩))]) rfl rfl rfl rfl rfl rfl rfl rfl (CQ.imp (rU32 (hd.of (by omega) (by intro i hi; simp only [keys, List.cons_append, List.nil_append, List.map_cons, List.map_nil, List.mem_cons, List.not_mem_nil, or_false, false_or] at hi; omega)) q1 v 0 (by omega) hs get_here) ?_)
    rintro _ n3 _ ⟨rfl, rfl⟩ hn3
    show OA _ _ _ _ _ _ _ _ [(q1, some ⟨[[(.string (v.extract 4 v.size)), (.int .i64 0)]], 2, 113, true⟩), (q1, some ⟨[[(.string (v.extract 0 v.size)), (.int .i64 0)]], 2, 113, true⟩), (n, some ⟨[[(.int .i64 typ), (.string v)]], 2, 65, true⟩)] _
    refine OA.pure (dst := (some 15)) (v := (.pointer (some ⟨q1, 0, some 0⟩))) rfl rfl rfl rfl ?_
    by_cases hc2 : 8 ≤ v.size
    ·
      refine OA.call (dst := (some 16)) (all := [(.pointer (some ⟨q1, 0, some 0⟩))]) rfl rfl rfl rfl rfl rfl rfl rfl (CQ.imp (rU32 (hd.of (by omega) (by intro i hi; simp only [keys, List.cons_append, List.nil_append, List.map_cons, List.map_nil, List.mem_cons, List.not_mem_nil, or_false, false_or] at hi; omega)) q1 v 4 (by omega) hs get_here) ?_)
      rintro _ n4 _ ⟨rfl, rfl⟩ hn4
      show OA _ _ _ _ _ _ _ _ [(q1, some ⟨[[(.string (v.extract 8 v.size)), (.int .i64 0)]], 2, 113, true⟩), (q1, some ⟨[[(.string (v.extract 4 v.size)), (.int .i64 0)]], 2, 113, true⟩), (q1, some ⟨[[(.string (v.extract 0 v.size)), (.int .i64 0)]], 2, 113, true⟩), (n, some ⟨[[(.int .i64 typ), (.string v)]], 2, 65, true⟩)] _
      refine OA.pure (dst := (some 17)) (v := (.pointer (some ⟨q1, 0, some 0⟩))) rfl rfl rfl rfl ?_
      by_cases hc3 : 12 ≤ v.size
      ·
        refine OA.call (dst := (some 18)) (all := [(.pointer (some ⟨q1, 0, some 0⟩))]) rfl rfl rfl rfl rfl rfl rfl rfl (CQ.imp (rU32 (hd.of (by omega) (by intro i hi; simp only [keys, List.cons_append, List.nil_append, List.map_cons, List.map_nil, List.mem_cons, List.not_mem_nil, or_false, false_or] at hi; omega)) q1 v 8 (by omega) hs get_here) ?_)
        rintro _ n5 _ ⟨rfl, rfl⟩ hn5
        show OA _ _ _ _ _ _ _ _ [(q1, some ⟨[[(.string (v.extract 12 v.size)), (.int .i64 0)]], 2, 113, true⟩), (q1, some ⟨[[(.string (v.extract 8 v.size)), (.int .i64 0)]], 2, 113, true⟩), (q1, some ⟨[[(.string (v.extract 4 v.size)), (.int .i64 0)]], 2, 113, true⟩), (q1, some ⟨[[(.string (v.extract 0 v.size)), (.int .i64 0)]], 2, 113, true⟩), (n, some ⟨[[(.int .i64 typ), (.string v)]], 2, 65, true⟩)] _
        refine OA.pure (dst := (some 7)) (v := (W (w32 v 0))) rfl rfl rfl rfl ?_
        refine OA.pure (dst := (some 8)) (v := (W (w32 v 4))) rfl rfl rfl rfl ?_
        refine OA.pure (dst := (some 9)) (v := (W (w32 v 8))) rfl rfl rfl rfl ?_
        refine OA.nil ?_
        intro _
        refine RA.seq hd ?_
        refine RA.seq hd ?_
        refine RA.region env_ok ?_
        refine OA.pure (dst := (some 19)) (v := (.pointer (some ⟨n, 0, some 0⟩))) rfl rfl rfl rfl ?_
        refine OA.pure (dst := (some 20)) (v := (.int .i64 typ)) rfl rfl rfl (r_load1 rfl rfl rfl rfl rfl (get_there (by omega) (get_there (by omega) (get_there (by omega) (get_there (by omega) get_here)))) rfl rfl) ?_
        by_cases hc4 : typ ≠ 49160
        ·
          refine OA.pure (dst := (some 21)) (v := (.bool true)) rfl rfl rfl (Eq.trans (r_bin rfl rfl rfl (b_neq rfl)) (by first | (rw [decide_eq_true hc4]; done) | (rw [decide_eq_true hc4]; rfl))) ?_
          refine OA.pure (dst := (some 22)) (v := (.bool true)) rfl rfl rfl rfl ?_
          refine OA.off (dst := (some 23)) rfl rfl rfl ?_
          refine OA.off (dst := (some 24)) rfl rfl rfl ?_
          refine OA.off (dst := (some 25)) rfl rfl rfl ?_
          refine OA.pure (dst := (some 26)) (v := (.bool true)) rfl rfl rfl rfl ?_
          refine OA.pure (dst := (some 27)) (v := (.bool true)) rfl rfl rfl rfl ?_
          refine OA.off (dst := (some 28)) rfl rfl rfl ?_
          refine OA.off (dst := (some 29)) rfl rfl rfl ?_
          refine OA.pure (dst := (some 30)) (v := (.bool true)) rfl rfl rfl rfl ?_
          refine OA.pure (dst := (some 31)) (v := (.bool true)) rfl rfl rfl rfl ?_
          refine OA.off (dst := (some 32)) rfl rfl rfl ?_
          refine OA.off (dst := (some 33)) rfl rfl rfl ?_
          refine OA.pure (dst := (some 34)) (v := (.bool true)) rfl rfl rfl rfl ?_
          refine OA.nil ?_
          intro _
          refine RA.rebase [(0, (.agg ⟨[(.int .i64 typ), (.string v)]⟩)), (1, (.pointer (some ⟨n, 0, some 0⟩))), (2, (.int .u32 0)), (3, (.int .u32 0)), (4, (.int .u32 0)), (5, (.bool false)), (6, (.pointer (some ⟨q1, 0, some 0⟩))), (7, (W (w32 v 0))), (8, (W (w32 v 4))), (9, (W (w32 v 8))), (34, (.bool true))] ⟨rfl, rfl, rfl, rfl, rfl, rfl, rfl, rfl, rfl, rfl, rfl, trivial⟩ (fun τr6 => ?_)
          refine RA.cond (t := true) rfl (fun hc => ?_) (fun hc => ?_)
          ·
            refine RA.seq hd ?_
            refine RA.region env_ok ?_
            refine OA.pure (dst := (some 2)) (v := (.int .u32 0)) rfl rfl rfl rfl ?_
            refine OA.pure (dst := (some 3)) (v := (.int .u32 0)) rfl rfl rfl rfl ?_
            refine OA.pure (dst := (some 4)) (v := (.int .u32 0)) rfl rfl rfl rfl ?_
            refine OA.pure (dst := (some 5)) (v := (.bool false)) rfl rfl rfl rfl ?_
            refine OA.nil ?_
            intro _
            refine RA.ret env_ok ?_
            refine ⟨.inr rfl, [(.int .u32 0), (.int .u32 0), (.int .u32 0), (.bool false)], (resL_cons rfl (resL_cons rfl (resL_cons rfl (resL_cons rfl resL_nil)))), (by rw [if_neg (show ¬ tagsOk typ v from fun h => by unfold tagsOk at h; omega)]; rfl), (by intro i hi; simp only [keys, List.cons_append, List.nil_append, List.map_cons, List.map_nil, List.mem_cons, List.not_mem_nil, or_false, false_or] at hi; omega)⟩
          · cases hc
        ·
          refine OA.pure (dst := (some 21)) (v := (.bool false)) rfl rfl rfl (Eq.trans (r_bin rfl rfl rfl (b_neq rfl)) (by first | (rw [decide_eq_false hc4]; done) | (rw [decide_eq_false hc4]; rfl))) ?_
          refine OA.pure (dst := (some 22)) (v := (.bool false)) rfl rfl rfl rfl ?_
          refine OA.pure (dst := (some 23)) (v := (.pointer (some ⟨q1, 0, some 0⟩))) rfl rfl rfl rfl ?_
          by_cases hc5 : v.size = 12
          ·
            refine OA.call (dst := (some 24)) (all := [(.pointer (some ⟨q1, 0, some 0⟩))]) rfl rfl rfl rfl rfl rfl rfl rfl (CQ.imp (rEnd (hd.of (by omega) (by intro i hi; simp only [keys, List.cons_append, List.nil_append, List.map_cons, List.map_nil, List.mem_cons, List.not_mem_nil, or_false, false_or] at hi; omega)) q1 _ (by rw [size_cut _ _ _ (Nat.le_refl _)]; omega) get_here) ?_)
            rintro _ n7 _ ⟨rfl, rfl⟩ hn7
            refine OA.pure (dst := (some 25)) (v := (.bool false)) rfl rfl rfl (r_bin rfl rfl rfl (b_neq rfl)) ?_
            refine OA.pure (dst := (some 26)) (v := (.bool false)) rfl rfl rfl rfl ?_
            refine OA.pure (dst := (some 27)) (v := (.bool false)) rfl rfl rfl rfl ?_
            refine OA.pure (dst := (some 28)) (v := (W (w32 v 4))) rfl rfl rfl rfl ?_
            by_cases hc6 : ((w32 v 4).toNat : Int) = 0
            ·
              refine OA.pure (dst := (some 29)) (v := (.bool true)) rfl rfl rfl (Eq.trans (r_bin rfl rfl rfl (b_eql rfl)) (by first | (rw [decide_eq_true hc6]; done) | (rw [decide_eq_true hc6]; rfl))) ?_
              refine OA.pure (dst := (some 30)) (v := (.bool true)) rfl rfl rfl rfl ?_
              refine OA.pure (dst := (some 31)) (v := (.bool true)) rfl rfl rfl rfl ?_
              refine OA.off (dst := (some 32)) rfl rfl rfl ?_
              refine OA.off (dst := (some 33)) rfl rfl rfl ?_
              refine OA.pure (dst := (some 34)) (v := (.bool true)) rfl rfl rfl rfl ?_
              refine OA.nil ?_
              intro _
              refine RA.rebase [(0, (.agg ⟨[(.int .i64 typ), (.string v)]⟩)), (1, (.pointer (some ⟨n, 0, some 0⟩))), (2, (.int .u32 0)), (3, (.int .u32 0)), (4, (.int .u32 0)), (5, (.bool false)), (6, (.pointer (some ⟨q1, 0, some 0⟩))), (7, (W (w32 v 0))), (8, (W (w32 v 4))), (9, (W (w32 v 8))), (34, (.bool true))] ⟨rfl, rfl, rfl, rfl, rfl, rfl, rfl, rfl, rfl, rfl, rfl, trivial⟩ (fun τr8 => ?_)
              refine RA.cond (t := true) rfl (fun hc => ?_) (fun hc => ?_)
              ·
                refine RA.seq hd ?_
                refine RA.region env_ok ?_
                refine OA.pure (dst := (some 2)) (v := (.int .u32 0)) rfl rfl rfl rfl ?_
                refine OA.pure (dst := (some 3)) (v := (.int .u32 0)) rfl rfl rfl rfl ?_
                refine OA.pure (dst := (some 4)) (v := (.int .u32 0)) rfl rfl rfl rfl ?_
                refine OA.pure (dst := (some 5)) (v := (.bool false)) rfl rfl rfl rfl ?_
                refine OA.nil ?_
                intro _
                refine RA.ret env_ok ?_
                refine ⟨.inr rfl, [(.int .u32 0), (.int .u32 0), (.int .u32 0), (.bool false)], (resL_cons rfl (resL_cons rfl (resL_cons rfl (resL_cons rfl resL_nil)))), (by rw [if_neg (show ¬ tagsOk typ v from fun h => by unfold tagsOk at h; omega)]; rfl), (by intro i hi; simp only [keys, List.cons_append, List.nil_append, List.map_cons, List.map_nil, List.mem_cons, List.not_mem_nil, or_false, false_or] at hi; omega)⟩
              · cases hc
            ·
              refine OA.pure (dst := (some 29)) (v := (.bool false)) rfl rfl rfl (Eq.trans (r_bin rfl rfl rfl (b_eql rfl)) (by first | (rw [decide_eq_false hc6]; done) | (rw [decide_eq_false hc6]; rfl))) ?_
              refine OA.pure (dst := (some 30)) (v := (.bool false)) rfl rfl rfl rfl ?_
              refine OA.pure (dst := (some 31)) (v := (.bool false)) rfl rfl rfl rfl ?_
              refine OA.pure (dst := (some 32)) (v := (W (w32 v 8))) rfl rfl rfl rfl ?_
              by_cases hc7 : ((w32 v 8).toNat : Int) = 0
              ·
                refine OA.pure (dst := (some 33)) (v := (.bool true)) rfl rfl rfl (Eq.trans (r_bin rfl rfl rfl (b_eql rfl)) (by first | (rw [decide_eq_true hc7]; done) | (rw [decide_eq_true hc7]; rfl))) ?_
                refine OA.pure (dst := (some 34)) (v := (.bool true)) rfl rfl rfl rfl ?_
                refine OA.nil ?_
                intro _
                refine RA.rebase [(0, (.agg ⟨[(.int .i64 typ), (.string v)]⟩)), (1, (.pointer (some ⟨n, 0, some 0⟩))), (2, (.int .u32 0)), (3, (.int .u32 0)), (4, (.int .u32 0)), (5, (.bool false)), (6, (.pointer (some ⟨q1, 0, some 0⟩))), (7, (W (w32 v 0))), (8, (W (w32 v 4))), (9, (W (w32 v 8))), (34, (.bool true))] ⟨rfl, rfl, rfl, rfl, rfl, rfl, rfl, rfl, rfl, rfl, rfl, trivial⟩ (fun τr9 => ?_)
                refine RA.cond (t := true) rfl (fun hc => ?_) (fun hc => ?_)
                ·
                  refine RA.seq hd ?_
                  refine RA.region env_ok ?_
                  refine OA.pure (dst := (some 2)) (v := (.int .u32 0)) rfl rfl rfl rfl ?_
                  refine OA.pure (dst := (some 3)) (v := (.int .u32 0)) rfl rfl rfl rfl ?_
                  refine OA.pure (dst := (some 4)) (v := (.int .u32 0)) rfl rfl rfl rfl ?_
                  refine OA.pure (dst := (some 5)) (v := (.bool false)) rfl rfl rfl rfl ?_
                  refine OA.nil ?_
                  intro _
                  refine RA.ret env_ok ?_
                  refine ⟨.inr rfl, [(.int .u32 0), (.int .u32 0), (.int .u32 0), (.bool false)], (resL_cons rfl (resL_cons rfl (resL_cons rfl (resL_cons rfl resL_nil)))), (by rw [if_neg (show ¬ tagsOk typ v from fun h => by unfold tagsOk at h; omega)]; rfl), (by intro i hi; simp only [keys, List.cons_append, List.nil_append, List.map_cons, List.map_nil, List.mem_cons, List.not_mem_nil, or_false, false_or] at hi; omega)⟩
                · cases hc
              ·
                refine OA.pure (dst := (some 33)) (v := (.bool false)) rfl rfl rfl (Eq.trans (r_bin rfl rfl rfl (b_eql rfl)) (by first | (rw [decide_eq_false hc7]; done) | (rw [decide_eq_false hc7]; rfl))) ?_
                refine OA.pure (dst := (some 34)) (v := (.bool false)) rfl rfl rfl rfl ?_
                refine OA.nil ?_
                intro _
                refine RA.rebase [(0, (.agg ⟨[(.int .i64 typ), (.string v)]⟩)), (1, (.pointer (some ⟨n, 0, some 0⟩))), (2, (.int .u32 0)), (3, (.int .u32 0)), (4, (.int .u32 0)), (5, (.bool false)), (6, (.pointer (some ⟨q1, 0, some 0⟩))), (7, (W (w32 v 0))), (8, (W (w32 v 4))), (9, (W (w32 v 8))), (34, (.bool false))] ⟨rfl, rfl, rfl, rfl, rfl, rfl, rfl, rfl, rfl, rfl, rfl, trivial⟩ (fun τr10 => ?_)
                refine RA.cond (t := false) rfl (fun hc => ?_) (fun hc => ?_)
                · cases hc
                ·
                  refine RA.skip env_ok ?_
                  intro _
                  refine RA.seq hd ?_
                  refine RA.region env_ok ?_
                  refine OA.pure (dst := (some 35)) (v := (W (w32 v 0))) rfl rfl rfl rfl ?_
                  refine OA.pure (dst := (some 36)) (v := (W (w32 v 4))) rfl rfl rfl rfl ?_
                  refine OA.pure (dst := (some 37)) (v := (W (w32 v 8))) rfl rfl rfl rfl ?_
                  refine OA.pure (dst := (some 2)) (v := (W (w32 v 0))) rfl rfl rfl rfl ?_
                  refine OA.pure (dst := (some 3)) (v := (W (w32 v 4))) rfl rfl rfl rfl ?_
                  refine OA.pure (dst := (some 4)) (v := (W (w32 v 8))) rfl rfl rfl rfl ?_
                  refine OA.pure (dst := (some 5)) (v := (.bool true)) rfl rfl rfl rfl ?_
                  refine OA.nil ?_
                  intro _
                  refine RA.ret env_ok ?_
                  refine ⟨.inr rfl, [(W (w32 v 0)), (W (w32 v 4)), (W (w32 v 8)), (.bool true)], (resL_cons rfl (resL_cons rfl (resL_cons rfl (resL_cons rfl resL_nil)))), (by rw [if_pos (show tagsOk typ v from ⟨by omega, by omega, by omega, by omega⟩)]; rfl), (by intro i hi; simp only [keys, List.cons_append, List.nil_append, List.map_cons, List.map_nil, List.mem_cons, List.not_mem_nil, or_false, false_or] at hi; omega)⟩
          ·
            refine OA.call (dst := (some 24)) (all := [(.pointer (some ⟨q1, 0, some 0⟩))]) rfl rfl rfl rfl rfl rfl rfl rfl (CQ.imp (rEndM (hd.of (by omega) (by intro i hi; simp only [keys, List.cons_append, List.nil_append, List.map_cons, List.map_nil, List.mem_cons, List.not_mem_nil, or_false, false_or] at hi; omega)) q1 _ (by rw [size_cut _ _ _ (Nat.le_refl _)]; omega) get_here) ?_)
            rintro _ n11 _ ⟨rfl, rfl⟩ hn11
            show OA _ _ _ _ _ _ _ _ [(q1, some ⟨[[(.string (v.extract 12 v.size)), (.int .i64 3)]], 2, 113, true⟩), (q1, some ⟨[[(.string (v.extract 12 v.size)), (.int .i64 0)]], 2, 113, true⟩), (q1, some ⟨[[(.string (v.extract 8 v.size)), (.int .i64 0)]], 2, 113, true⟩), (q1, some ⟨[[(.string (v.extract 4 v.size)), (.int .i64 0)]], 2, 113, true⟩), (q1, some ⟨[[(.string (v.extract 0 v.size)), (.int .i64 0)]], 2, 113, true⟩), (n, some ⟨[[(.int .i64 typ), (.string v)]], 2, 65, true⟩)] _
            refine OA.pure (dst := (some 25)) (v := (.bool true)) rfl rfl rfl (r_bin rfl rfl rfl (b_neq rfl)) ?_
            refine OA.pure (dst := (some 26)) (v := (.bool true)) rfl rfl rfl rfl ?_
            refine OA.pure (dst := (some 27)) (v := (.bool true)) rfl rfl rfl rfl ?_
            refine OA.off (dst := (some 28)) rfl rfl rfl ?_
            refine OA.off (dst := (some 29)) rfl rfl rfl ?_
            refine OA.pure (dst := (some 30)) (v := (.bool true)) rfl rfl rfl rfl ?_
            refine OA.pure (dst := (some 31)) (v := (.bool true)) rfl rfl rfl rfl ?_
            refine OA.off (dst := (some 32)) rfl rfl rfl ?_
            refine OA.off (dst := (some 33)) rfl rfl rfl ?_
            refine OA.pure (dst := (some 34)) (v := (.bool true)) rfl rfl rfl rfl ?_
            refine OA.nil ?_
            intro _
            refine RA.rebase [(0, (.agg ⟨[(.int .i64 typ), (.string v)]⟩)), (1, (.pointer (some ⟨n, 0, some 0⟩))), (2, (.int .u32 0)), (3, (.int .u32 0)), (4, (.int .u32 0)), (5, (.bool false)), (6, (.pointer (some ⟨q1, 0, some 0⟩))), (7, (W (w32 v 0))), (8, (W (w32 v 4))), (9, (W (w32 v 8))), (34, (.bool true))] ⟨rfl, rfl, rfl, rfl, rfl, rfl, rfl, rfl, rfl, rfl, rfl, trivial⟩ (fun τr12 => ?_)
            refine RA.cond (t := true) rfl (fun hc => ?_) (fun hc => ?_)
            ·
              refine RA.seq hd ?_
              refine RA.region env_ok ?_
              refine OA.pure (dst := (some 2)) (v := (.int .u32 0)) rfl rfl rfl rfl ?_
              refine OA.pure (dst := (some 3)) (v := (.int .u32 0)) rfl rfl rfl rfl ?_
              refine OA.pure (dst := (some 4)) (v := (.int .u32 0)) rfl rfl rfl rfl ?_
              refine OA.pure (dst := (some 5)) (v := (.bool false)) rfl rfl rfl rfl ?_
              refine OA.nil ?_
              intro _
              refine RA.ret env_ok ?_
              refine ⟨.inr rfl, [(.int .u32 0), (.int .u32 0), (.int .u32 0), (.bool false)], (resL_cons rfl (resL_cons rfl (resL_cons rfl (resL_cons rfl resL_nil)))), (by rw [if_neg (show ¬ tagsOk typ v from fun h => by unfold tagsOk at h; omega)]; rfl), (by intro i hi; simp only [keys, List.cons_append, List.nil_append, List.map_cons, List.map_nil, List.mem_cons, List.not_mem_nil, or_false, false_or] at hi; omega)⟩
            · cases hc
      ·
        refine OA.call (dst := (some 18)) (all := [(.pointer (some ⟨q1, 0, some 0⟩))]) rfl rfl rfl rfl rfl rfl rfl rfl (CQ.imp (rU32S (hd.of (by omega) (by intro i hi; simp only [keys, List.cons_append, List.nil_append, List.map_cons, List.map_nil, List.mem_cons, List.not_mem_nil, or_false, false_or] at hi; omega)) q1 v 8 (by omega) (by omega) get_here) ?_)
        rintro _ n13 _ ⟨rfl, rfl⟩ hn13
        show OA _ _ _ _ _ _ _ _ [(q1, some ⟨[[(.string (v.extract 8 v.size)), (.int .i64 2)]], 2, 113, true⟩), (q1, some ⟨[[(.string (v.extract 8 v.size)), (.int .i64 0)]], 2, 113, true⟩), (q1, some ⟨[[(.string (v.extract 4 v.size)), (.int .i64 0)]], 2, 113, true⟩), (q1, some ⟨[[(.string (v.extract 0 v.size)), (.int .i64 0)]], 2, 113, true⟩), (n, some ⟨[[(.int .i64 typ), (.string v)]], 2, 65, true⟩)] _
        refine OA.pure (dst := (some 7)) (v := (W (w32 v 0))) rfl rfl rfl rfl ?_
        refine OA.pure (dst := (some 8)) (v := (W (w32 v 4))) rfl rfl rfl rfl ?_
        refine OA.pure (dst := (some 9)) (v := (W 0#32)) rfl rfl rfl rfl ?_
        refine OA.nil ?_
        intro _
        refine RA.seq hd ?_
        refine RA.seq hd ?_
        refine RA.region env_ok ?_
        refine OA.pure (dst := (some 19)) (v := (.pointer (some ⟨n, 0, some 0⟩))) rfl rfl rfl rfl ?_
        refine OA.pure (dst := (some 20)) (v := (.int .i64 typ)) rfl rfl rfl (r_load1 rfl rfl rfl rfl rfl (get_there (by omega) (get_there (by omega) (get_there (by omega) (get_there (by omega) get_here)))) rfl rfl) ?_
        by_cases hc8 : typ ≠ 49160
        ·
          refine OA.pure (dst := (some 21)) (v := (.bool true)) rfl rfl rfl (Eq.trans (r_bin rfl rfl rfl (b_neq rfl)) (by first | (rw [decide_eq_true hc8]; done) | (rw [decide_eq_true hc8]; rfl))) ?_
          refine OA.pure (dst := (some 22)) (v := (.bool true)) rfl rfl rfl rfl ?_
          refine OA.off (dst := (some 23)) rfl rfl rfl ?_
          refine OA.off (dst := (some 24)) rfl rfl rfl ?_
          refine OA.off (dst := (some 25)) rfl rfl rfl ?_
          refine OA.pure (dst := (some 26)) (v := (.bool true)) rfl rfl rfl rfl ?_
          refine OA.pure (dst := (some 27)) (v := (.bool true)) rfl rfl rfl rfl ?_
          refine OA.off (dst := (some 28)) rfl rfl rfl ?_
          refine OA.off (dst := (some 29)) rfl rfl rfl ?_
          refine OA.pure (dst := (some 30)) (v := (.bool true)) rfl rfl rfl rfl ?_
          refine OA.pure (dst := (some 31)) (v := (.bool true)) rfl rfl rfl rfl ?_
          refine OA.off (dst := (some 32)) rfl rfl rfl ?_
          refine OA.off (dst := (some 33)) rfl rfl rfl ?_
          refine OA.pure (dst := (some 34)) (v := (.bool true)) rfl rfl rfl rfl ?_
          refine OA.nil ?_
          intro _
          refine RA.rebase [(0, (.agg ⟨[(.int .i64 typ), (.string v)]⟩)), (1, (.pointer (some ⟨n, 0, some 0⟩))), (2, (.int .u32 0)), (3, (.int .u32 0)), (4, (.int .u32 0)), (5, (.bool false)), (6, (.pointer (some ⟨q1, 0, some 0⟩))), (7, (W (w32 v 0))), (8, (W (w32 v 4))), (9, (W 0#32)), (34, (.bool true))] ⟨rfl, rfl, rfl, rfl, rfl, rfl, rfl, rfl, rfl, rfl, rfl, trivial⟩ (fun τr14 => ?_)
          refine RA.cond (t := true) rfl (fun hc => ?_) (fun hc => ?_)
          ·
            refine RA.seq hd ?_
            refine RA.region env_ok ?_
            refine OA.pure (dst := (some 2)) (v := (.int .u32 0)) rfl rfl rfl rfl ?_
            refine OA.pure (dst := (some 3)) (v := (.int .u32 0)) rfl rfl rfl rfl ?_
            refine OA.pure (dst := (some 4)) (v := (.int .u32 0)) rfl rfl rfl rfl ?_
            refine OA.pure (dst := (some 5)) (v := (.bool false)) rfl rfl rfl rfl ?_
            refine OA.nil ?_
            intro _
            refine RA.ret env_ok ?_
            refine ⟨.inr rfl, [(.int .u32 0), (.int .u32 0), (.int .u32 0), (.bool false)], (resL_cons rfl (resL_cons rfl (resL_cons rfl (resL_cons rfl resL_nil)))), (by rw [if_neg (show ¬ tagsOk typ v from fun h => by unfold tagsOk at h; omega)]; rfl), (by intro i hi; simp only [keys, List.cons_append, List.nil_append, List.map_cons, List.map_nil, List.mem_cons, List.not_mem_nil, or_false, false_or] at hi; omega)⟩
          · cases hc
        ·
          refine OA.pure (dst := (some 21)) (v := (.bool false)) rfl rfl rfl (Eq.trans (r_bin rfl rfl rfl (b_neq rfl)) (by first | (rw [decide_eq_false hc8]; done) | (rw [decide_eq_false hc8]; rfl))) ?_
          refine OA.pure (dst := (some 22)) (v := (.bool false)) rfl rfl rfl rfl ?_
          refine OA.pure (dst := (some 23)) (v := (.pointer (some ⟨q1, 0, some 0⟩))) rfl rfl rfl rfl ?_
          refine OA.call (dst := (some 24)) (all := [(.pointer (some ⟨q1, 0, some 0⟩))]) rfl rfl rfl rfl rfl rfl rfl rfl (CQ.imp (rEndD (hd.of (by omega) (by intro i hi; simp only [keys, List.cons_append, List.nil_append, List.map_cons, List.map_nil, List.mem_cons, List.not_mem_nil, or_false, false_or] at hi; omega)) q1 _ get_here) ?_)
          rintro _ n15 _ ⟨rfl, rfl⟩ hn15
          refine OA.pure (dst := (some 25)) (v := (.bool true)) rfl rfl rfl (r_bin rfl rfl rfl (b_neq rfl)) ?_
          refine OA.pure (dst := (some 26)) (v := (.bool true)) rfl rfl rfl rfl ?_
          refine OA.pure (dst := (some 27)) (v := (.bool true)) rfl rfl rfl rfl ?_
          refine OA.off (dst := (some 28)) rfl rfl rfl ?_
          refine OA.off (dst := (some 29)) rfl rfl rfl ?_
          refine OA.pure (dst := (some 30)) (v := (.bool true)) rfl rfl rfl rfl ?_
          refine OA.pure (dst := (some 31)) (v := (.bool true)) rfl rfl rfl rfl ?_
          refine OA.off (dst := (some 32)) rfl rfl rfl ?_
          refine OA.off (dst := (some 33)) rfl rfl rfl ?_
          refine OA.pure (dst := (some 34)) (v := (.bool true)) rfl rfl rfl rfl ?_
          refine OA.nil ?_
          intro _
          refine RA.rebase [(0, (.agg ⟨[(.int .i64 typ), (.string v)]⟩)), (1, (.pointer (some ⟨n, 0, some 0⟩))), (2, (.int .u32 0)), (3, (.int .u32 0)), (4, (.int .u32 0)), (5, (.bool false)), (6, (.pointer (some ⟨q1, 0, some 0⟩))), (7, (W (w32 v 0))), (8, (W (w32 v 4))), (9, (W 0#32)), (34, (.bool true))] ⟨rfl, rfl, rfl, rfl, rfl, rfl, rfl, rfl, rfl, rfl, rfl, trivial⟩ (fun τr16 => ?_)
          refine RA.cond (t := true) rfl (fun hc => ?_) (fun hc => ?_)
          ·
            refine RA.seq hd ?_
            refine RA.region env_ok ?_
            refine OA.pure (dst := (some 2)) (v := (.int .u32 0)) rfl rfl rfl rfl ?_
            refine OA.pure (dst := (some 3)) (v := (.int .u32 0)) rfl rfl rfl rfl ?_
            refine OA.pure (dst := (some 4)) (v := (.int .u32 0)) rfl rfl rfl rfl ?_
            refine OA.pure (dst := (some 5)) (v := (.bool false)) rfl rfl rfl rfl ?_
            refine OA.nil ?_
            intro _
            refine RA.ret env_ok ?_
            refine ⟨.inr rfl, [(.int .u32 0), (.int .u32 0), (.int .u32 0), (.bool false)], (resL_cons rfl (resL_cons rfl (resL_cons rfl (resL_cons rfl resL_nil)))), (by rw [if_neg (show ¬ tagsOk typ v from fun h => by unfold tagsOk at h; omega)]; rfl), (by intro i hi; simp only [keys, List.cons_append, List.nil_append, List.map_cons, List.map_nil, List.mem_cons, List.not_mem_nil, or_false, false_or] at hi; omega)⟩
          · cases hc
    ·
      refine OA.call (dst := (some 16)) (all := [(.pointer (some ⟨q1, 0, some 0⟩))]) rfl rfl rfl rfl rfl rfl rfl rfl (CQ.imp (rU32S (hd.of (by omega) (by intro i hi; simp only [keys, List.cons_append, List.nil_append, List.map_cons, List.map_nil, List.mem_cons, List.not_mem_nil, or_false, false_or] at hi; omega)) q1 v 4 (by omega) (by omega) get_here) ?_)
      rintro _ n17 _ ⟨rfl, rfl⟩ hn17
      show OA _ _ _ _ _ _ _ _ [(q1, some ⟨[[(.string (v.extract 4 v.size)), (.int .i64 2)]], 2, 113, true⟩), (q1, some ⟨[[(.string (v.extract 4 v.size)), (.int .i64 0)]], 2, 113, true⟩), (q1, some ⟨[[(.string (v.extract 0 v.size)), (.int .i64 0)]], 2, 113, true⟩), (n, some ⟨[[(.int .i64 typ), (.string v)]], 2, 65, true⟩)] _
      refine OA.pure (dst := (some 17)) (v := (.pointer (some ⟨q1, 0, some 0⟩))) rfl rfl rfl rfl ?_
      refine OA.call (dst := (some 18)) (all := [(.pointer (some ⟨q1, 0, some 0⟩))]) rfl rfl rfl rfl rfl rfl rfl rfl (CQ.imp (rU32D (hd.of (by omega) (by intro i hi; simp only [keys, List.cons_append, List.nil_append, List.map_cons, List.map_nil, List.mem_cons, List.not_mem_nil, or_false, false_or] at hi; omega)) q1 _ 0 get_here) ?_)
      rintro _ n18 _ ⟨rfl, rfl⟩ hn18
      refine OA.pure (dst := (some 7)) (v := (W (w32 v 0))) rfl rfl rfl rfl ?_
      refine OA.pure (dst := (some 8)) (v := (W 0#32)) rfl rfl rfl rfl ?_
      refine OA.pure (dst := (some 9)) (v := (W 0#32)) rfl rfl rfl rfl ?_
      refine OA.nil ?_
      intro _
      refine RA.seq hd ?_
      refine RA.seq hd ?_
      refine RA.region env_ok ?_
      refine OA.pure (dst := (some 19)) (v := (.pointer (some ⟨n, 0, some 0⟩))) rfl rfl rfl rfl ?_
      refine OA.pure (dst := (some 20)) (v := (.int .i64 typ)) rfl rfl rfl (r_load1 rfl rfl rfl rfl rfl (get_there (by omega) (get_there (by omega) (get_there (by omega) get_here))) rfl rfl) ?_
      by_cases hc9 : typ ≠ 49160
      ·
        refine OA.pure (dst := (some 21)) (v := (.bool true)) rfl rfl rfl (Eq.trans (r_bin rfl rfl rfl (b_neq rfl)) (by first | (rw [decide_eq_true hc9]; done) | (rw [decide_eq_true hc9]; rfl))) ?_
        refine OA.pure (dst := (some 22)) (v := (.bool true)) rfl rfl rfl rfl ?_
        refine OA.off (dst := (some 23)) rfl rfl rfl ?_
        refine OA.off (dst := (some 24)) rfl rfl rfl ?_
        refine OA.off (dst := (some 25)) rfl rfl rfl ?_
        refine OA.pure (dst := (some 26)) (v := (.bool true)) rfl rfl rfl rfl ?_
        refine OA.pure (dst := (some 27)) (v := (.bool true)) rfl rfl rfl rfl ?_
        refine OA.off (dst := (some 28)) rfl rfl rfl ?_
        refine OA.off (dst := (some 29)) rfl rfl rfl ?_
        refine OA.pure (dst := (some 30)) (v := (.bool true)) rfl rfl rfl rfl ?_
        refine OA.pure (dst := (some 31)) (v := (.bool true)) rfl rfl rfl rfl ?_
        refine OA.off (dst := (some 32)) rfl rfl rfl ?_
        refine OA.off (dst := (some 33)) rfl rfl rfl ?_
        refine OA.pure (dst := (some 34)) (v := (.bool true)) rfl rfl rfl rfl ?_
        refine OA.nil ?_
        intro _
        refine RA.rebase [(0, (.agg ⟨[(.int .i64 typ), (.string v)]⟩)), (1, (.pointer (some ⟨n, 0, some 0⟩))), (2, (.int .u32 0)), (3, (.int .u32 0)), (4, (.int .u32 0)), (5, (.bool false)), (6, (.pointer (some ⟨q1, 0, some 0⟩))), (7, (W (w32 v 0))), (8, (W 0#32)), (9, (W 0#32)), (34, (.bool true))] ⟨rfl, rfl, rfl, rfl, rfl, rfl, rfl, rfl, rfl, rfl, rfl, trivial⟩ (fun τr19 => ?_)
        refine RA.cond (t := true) rfl (fun hc => ?_) (fun hc => ?_)
        ·
          refine RA.seq hd ?_
          refine RA.region env_ok ?_
          refine OA.pure (dst := (some 2)) (v := (.int .u32 0)) rfl rfl rfl rfl ?_
          refine OA.pure (dst := (some 3)) (v := (.int .u32 0)) rfl rfl rfl rfl ?_
          refine OA.pure (dst := (some 4)) (v := (.int .u32 0)) rfl rfl rfl rfl ?_
          refine OA.pure (dst := (some 5)) (v := (.bool false)) rfl rfl rfl rfl ?_
          refine OA.nil ?_
          intro _
          refine RA.ret env_ok ?_
          refine ⟨.inr rfl, [(.int .u32 0), (.int .u32 0), (.int .u32 0), (.bool false)], (resL_cons rfl (resL_cons rfl (resL_cons rfl (resL_cons rfl resL_nil)))), (by rw [if_neg (show ¬ tagsOk typ v from fun h => by unfold tagsOk at h; omega)]; rfl), (by intro i hi; simp only [keys, List.cons_append, List.nil_append, List.map_cons, List.map_nil, List.mem_cons, List.not_mem_nil, or_false, false_or] at hi; omega)⟩
        · cases hc
      ·
        refine OA.pure (dst := (some 21)) (v := (.bool false)) rfl rfl rfl (Eq.trans (r_bin rfl rfl rfl (b_neq rfl)) (by first | (rw [decide_eq_false hc9]; done) | (rw [decide_eq_false hc9]; rfl))) ?_
        refine OA.pure (dst := (some 22)) (v := (.bool false)) rfl rfl rfl rfl ?_
        refine OA.pure (dst := (some 23)) (v := (.pointer (some ⟨q1, 0, some 0⟩))) rfl rfl rfl rfl ?_
        refine OA.call (dst := (some 24)) (all := [(.pointer (some ⟨q1, 0, some 0⟩))]) rfl rfl rfl rfl rfl rfl rfl rfl (CQ.imp (rEndD (hd.of (by omega) (by intro i hi; simp only [keys, List.cons_append, List.nil_append, List.map_cons, List.map_nil, List.mem_cons, List.not_mem_nil, or_false, false_or] at hi; omega)) q1 _ get_here) ?_)
        rintro _ n20 _ ⟨rfl, rfl⟩ hn20
        refine OA.pure (dst := (some 25)) (v := (.bool true)) rfl rfl rfl (r_bin rfl rfl rfl (b_neq rfl)) ?_
        refine OA.pure (dst := (some 26)) (v := (.bool true)) rfl rfl rfl rfl ?_
        refine OA.pure (dst := (some 27)) (v := (.bool true)) rfl rfl rfl rfl ?_
        refine OA.off (dst := (some 28)) rfl rfl rfl ?_
        refine OA.off (dst := (some 29)) rfl rfl rfl ?_
        refine OA.pure (dst := (some 30)) (v := (.bool true)) rfl rfl rfl rfl ?_
        refine OA.pure (dst := (some 31)) (v := (.bool true)) rfl rfl rfl rfl ?_
        refine OA.off (dst := (some 32)) rfl rfl rfl ?_
        refine OA.off (dst := (some 33)) rfl rfl rfl ?_
        refine OA.pure (dst := (some 34)) (v := (.bool true)) rfl rfl rfl rfl ?_
        refine OA.nil ?_
        intro _
        refine RA.rebase [(0, (.agg ⟨[(.int .i64 typ), (.string v)]⟩)), (1, (.pointer (some ⟨n, 0, some 0⟩))), (2, (.int .u32 0)), (3, (.int .u32 0)), (4, (.int .u32 0)), (5, (.bool false)), (6, (.pointer (some ⟨q1, 0, some 0⟩))), (7, (W (w32 v 0))), (8, (W 0#32)), (9, (W 0#32)), (34, (.bool true))] ⟨rfl, rfl, rfl, rfl, rfl, rfl, rfl, rfl, rfl, rfl, rfl, trivial⟩ (fun τr21 => ?_)
        refine RA.cond (t := true) rfl (fun hc => ?_) (fun hc => ?_)
        ·
          refine RA.seq hd ?_
          refine RA.region env_ok ?_
          refine OA.pure (dst := (some 2)) (v := (.int .u32 0)) rfl rfl rfl rfl ?_
          refine OA.pure (dst := (some 3)) (v := (.int .u32 0)) rfl rfl rfl rfl ?_
          refine OA.pure (dst := (some 4)) (v := (.int .u32 0)) rfl rfl rfl rfl ?_
          refine OA.pure (dst := (some 5)) (v := (.bool false)) rfl rfl rfl rfl ?_
          refine OA.nil ?_
          intro _
          refine RA.ret env_ok ?_
          refine ⟨.inr rfl, [(.int .u32 0), (.int .u32 0), (.int .u32 0), (.bool false)], (resL_cons rfl (resL_cons rfl (resL_cons rfl (resL_cons rfl resL_nil)))), (by rw [if_neg (show ¬ tagsOk typ v from fun h => by unfold tagsOk at h; omega)]; rfl), (by intro i hi; simp only [keys, List.cons_append, List.nil_append, List.map_cons, List.map_nil, List.mem_cons, List.not_mem_nil, or_false, false_or] at hi; omega)⟩
        · cases hc
  ·
    refine OA.call (dst := (some 14)) (all := [(.pointer (some ⟨q1, 0, some 0⟩))]) rfl rfl rfl rfl rfl rfl rfl rfl (CQ.imp (rU32S (hd.of (by omega) (by intro i hi; simp only [keys, List.cons_append, List.nil_append, List.map_cons, List.map_nil, List.mem_cons, List.not_mem_nil, or_false, false_or] at hi; omega)) q1 v 0 (by omega) (by omega) get_here) ?_)
    rintro _ n22 _ ⟨rfl, rfl⟩ hn22
    show OA _ _ _ _ _ _ _ _ [(q1, some ⟨[[(.string (v.extract 0 v.size)), (.int .i64 2)]], 2, 113, true⟩), (q1, some ⟨[[(.string (v.extract 0 v.size)), (.int .i64 0)]], 2, 113, true⟩), (n, some ⟨[[(.int .i64 typ), (.string v)]], 2, 65, true⟩)] _
    refine OA.pure (dst := (some 15)) (v := (.pointer (some ⟨q1, 0, some 0⟩))) rfl rfl rfl rfl ?_
    refine OA.call (dst := (some 16)) (all := [(.pointer (some ⟨q1, 0, some 0⟩))]) rfl rfl rfl rfl rfl rfl rfl rfl (CQ.imp (rU32D (hd.of (by omega) (by intro i hi; simp only [keys, List.cons_append, List.nil_append, List.map_cons, List.map_nil, List.mem_cons, List.not_mem_nil, or_false, false_or] at hi; omega)) q1 _ 0 get_here) ?_)
    rintro _ n23 _ ⟨rfl, rfl⟩ hn23
    refine OA.pure (dst := (some 17)) (v := (.pointer (some ⟨q1, 0, some 0⟩))) rfl rfl rfl rfl ?_
    refine OA.call (dst := (some 18)) (all := [(.pointer (some ⟨q1, 0, some 0⟩))]) rfl rfl rfl rfl rfl rfl rfl rfl (CQ.imp (rU32D (hd.of (by omega) (by intro i hi; simp only [keys, List.cons_append, List.nil_append, List.map_cons, List.map_nil, List.mem_cons, List.not_mem_nil, or_false, false_or] at hi; omega)) q1 _ 0 get_here) ?_)
    rintro _ n24 _ ⟨rfl, rfl⟩ hn24
    refine OA.pure (dst := (some 7)) (v := (W 0#32)) rfl rfl rfl rfl ?_
    refine OA.pure (dst := (some 8)) (v := (W 0#32)) rfl rfl rfl rfl ?_
    refine OA.pure (dst := (some 9)) (v := (W 0#32)) rfl rfl rfl rfl ?_
    refine OA.nil ?_
    intro _
    refine RA.seq hd ?_
    refine RA.seq hd ?_
    refine RA.region env_ok ?_
    refine OA.pure (dst := (some 19)) (v := (.pointer (some ⟨n, 0, some 0⟩))) rfl rfl rfl rfl ?_
    refine OA.pure (dst := (some 20)) (v := (.int .i64 typ)) rfl rfl rfl (r_load1 rfl rfl rfl rfl rfl (get_there (by omega) (get_there (by omega) get_here)) rfl rfl) ?_
    by_cases hc10 : typ ≠ 49160
    ·
      refine OA.pure (dst := (some 21)) (v := (.bool true)) rfl rfl rfl (Eq.trans (r_bin rfl rfl rfl (b_neq rfl)) (by first | (rw [decide_eq_true hc10]; done) | (rw [decide_eq_true hc10]; rfl))) ?_
      refine OA.pure (dst := (some 22)) (v := (.bool true)) rfl rfl rfl rfl ?_
      refine OA.off (dst := (some 23)) rfl rfl rfl ?_
      refine OA.off (dst := (some 24)) rfl rfl rfl ?_
      refine OA.off (dst := (some 25)) rfl rfl rfl ?_
      refine OA.pure (dst := (some 26)) (v := (.bool true)) rfl rfl rfl rfl ?_
      refine OA.pure (dst := (some 27)) (v := (.bool true)) rfl rfl rfl rfl ?_
      refine OA.off (dst := (some 28)) rfl rfl rfl ?_
      refine OA.off (dst := (some 29)) rfl rfl rfl ?_
      refine OA.pure (dst := (some 30)) (v := (.bool true)) rfl rfl rfl rfl ?_
      refine OA.pure (dst := (some 31)) (v := (.bool true)) rfl rfl rfl rfl ?_
      refine OA.off (dst := (some 32)) rfl rfl rfl ?_
      refine OA.off (dst := (some 33)) rfl rfl rfl ?_
      refine OA.pure (dst := (some 34)) (v := (.bool true)) rfl rfl rfl rfl ?_
      refine OA.nil ?_
      intro _
      refine RA.rebase [(0, (.agg ⟨[(.int .i64 typ), (.string v)]⟩)), (1, (.pointer (some ⟨n, 0, some 0⟩))), (2, (.int .u32 0)), (3, (.int .u32 0)), (4, (.int .u32 0)), (5, (.bool false)), (6, (.pointer (some ⟨q1, 0, some 0⟩))), (7, (W 0#32)), (8, (W 0#32)), (9, (W 0#32)), (34, (.bool true))] ⟨rfl, rfl, rfl, rfl, rfl, rfl, rfl, rfl, rfl, rfl, rfl, trivial⟩ (fun τr25 => ?_)
      refine RA.cond (t := true) rfl (fun hc => ?_) (fun hc => ?_)
      ·
        refine RA.seq hd ?_
        refine RA.region env_ok ?_
        refine OA.pure (dst := (some 2)) (v := (.int .u32 0)) rfl rfl rfl rfl ?_
        refine OA.pure (dst := (some 3)) (v := (.int .u32 0)) rfl rfl rfl rfl ?_
        refine OA.pure (dst := (some 4)) (v := (.int .u32 0)) rfl rfl rfl rfl ?_
        refine OA.pure (dst := (some 5)) (v := (.bool false)) rfl rfl rfl rfl ?_
        refine OA.nil ?_
        intro _
        refine RA.ret env_ok ?_
        refine ⟨.inr rfl, [(.int .u32 0), (.int .u32 0), (.int .u32 0), (.bool false)], (resL_cons rfl (resL_cons rfl (resL_cons rfl (resL_cons rfl resL_nil)))), (by rw [if_neg (show ¬ tagsOk typ v from fun h => by unfold tagsOk at h; omega)]; rfl), (by intro i hi; simp only [keys, List.cons_append, List.nil_append, List.map_cons, List.map_nil, List.mem_cons, List.not_mem_nil, or_false, false_or] at hi; omega)⟩
      · cases hc
    ·
      refine OA.pure (dst := (some 21)) (v := (.bool false)) rfl rfl rfl (Eq.trans (r_bin rfl rfl rfl (b_neq rfl)) (by first | (rw [decide_eq_false hc10]; done) | (rw [decide_eq_false hc10]; rfl))) ?_
      refine OA.pure (dst := (some 22)) (v := (.bool false)) rfl rfl rfl rfl ?_
      refine OA.pure (dst := (some 23)) (v := (.pointer (some ⟨q1, 0, some 0⟩))) rfl rfl rfl rfl ?_
      refine OA.call (dst := (some 24)) (all := [(.pointer (some ⟨q1, 0, some 0⟩))]) rfl rfl rfl rfl rfl rfl rfl rfl (CQ.imp (rEndD (hd.of (by omega) (by intro i hi; simp only [keys, List.cons_append, List.nil_append, List.map_cons, List.map_nil, List.mem_cons, List.not_mem_nil, or_false, false_or] at hi; omega)) q1 _ get_here) ?_)
      rintro _ n26 _ ⟨rfl, rfl⟩ hn26
      refine OA.pure (dst := (some 25)) (v := (.bool true)) rfl rfl rfl (r_bin rfl rfl rfl (b_neq rfl)) ?_
      refine OA.pure (dst := (some 26)) (v := (.bool true)) rfl rfl rfl rfl ?_
      refine OA.pure (dst := (some 27)) (v := (.bool true)) rfl rfl rfl rfl ?_
      refine OA.off (dst := (some 28)) rfl rfl rfl ?_
      refine OA.off (dst := (some 29)) rfl rfl rfl ?_
      refine OA.pure (dst := (some 30)) (v := (.bool true)) rfl rfl rfl rfl ?_
      refine OA.pure (dst := (some 31)) (v := (.bool true)) rfl rfl rfl rfl ?_
      refine OA.off (dst := (some 32)) rfl rfl rfl ?_
      refine OA.off (dst := (some 33)) rfl rfl rfl ?_
      refine OA.pure (dst := (some 34)) (v := (.bool true)) rfl rfl rfl rfl ?_
      refine OA.nil ?_
      intro _
      refine RA.rebase [(0, (.agg ⟨[(.int .i64 typ), (.string v)]⟩)), (1, (.pointer (some ⟨n, 0, some 0⟩))), (2, (.int .u32 0)), (3, (.int .u32 0)), (4, (.int .u32 0)), (5, (.bool false)), (6, (.pointer (some ⟨q1, 0, some 0⟩))), (7, (W 0#32)), (8, (W 0#32)), (9, (W 0#32)), (34, (.bool true))] ⟨rfl, rfl, rfl, rfl, rfl, rfl, rfl, rfl, rfl, rfl, rfl, trivial⟩ (fun τr27 => ?_)
      refine RA.cond (t := true) rfl (fun hc => ?_) (fun hc => ?_)
      ·
        refine RA.seq hd ?_
        refine RA.region env_ok ?_
        refine OA.pure (dst := (some 2)) (v := (.int .u32 0)) rfl rfl rfl rfl ?_
        refine OA.pure (dst := (some 3)) (v := (.int .u32 0)) rfl rfl rfl rfl ?_
        refine OA.pure (dst := (some 4)) (v := (.int .u32 0)) rfl rfl rfl rfl ?_
        refine OA.pure (dst := (some 5)) (v := (.bool false)) rfl rfl rfl rfl ?_
        refine OA.nil ?_
        intro _
        refine RA.ret env_ok ?_
        refine ⟨.inr rfl, [(.int .u32 0), (.int .u32 0), (.int .u32 0), (.bool false)], (resL_cons rfl (resL_cons rfl (resL_cons rfl (resL_cons rfl resL_nil)))), (by rw [if_neg (show ¬ tagsOk typ v from fun h => by unfold tagsOk at h; omega)]; rfl), (by intro i hi; simp only [keys, List.cons_append, List.nil_append, List.map_cons, List.map_nil, List.mem_cons, List.not_mem_nil, or_false, false_or] at hi; omega)⟩
      · cases hc

theorem sAs1 {σ : Store} (typ : Int) (v : ByteArray) (hs : v.size < 4294967296) (h : tagsOk typ v) : PS Try.prog noDen 48 [(.agg ⟨[(.int .i64 typ), (.string v)]⟩)] σ (.tuple #[W (w32 v 0), W (w32 v 4), W (w32 v 8), .bool true]) := by
  haveI := Classical.propDecidable (tagsOk typ v)
  have h1 := sAs (σ := σ) typ v hs
  rwa [if_pos h] at h1
theorem sAs0 {σ : Store} (typ : Int) (v : ByteArray) (hs : v.size < 4294967296) (h : ¬ tagsOk typ v) : PS Try.prog noDen 48 [(.agg ⟨[(.int .i64 typ), (.string v)]⟩)] σ (.tuple #[W 0#32, W 0#32, W 0#32, .bool false]) := by
  haveI := Classical.propDecidable (tagsOk typ v)
  have h1 := sAs (σ := σ) typ v hs
  rwa [if_neg h] at h1
theorem sTT1 {σ : Store} (a b c : BitVec 32) (h : b.toNat ≠ 0 ∧ c.toNat ≠ 0) : PS Try.prog noDen 48 [(.agg ⟨[(.int .i64 49160), (.string (tagsV a b c))]⟩)] σ (.tuple #[W a, W b, W c, .bool true]) := by
  have h1 := sAs1 (σ := σ) 49160 (tagsV a b c) (by rw [tagsV_size]; omega) ((tags_ok a b c).2 h)
  rwa [tv0, tv4, tv8] at h1
theorem sTT0 {σ : Store} (a b c : BitVec 32) (h : ¬ (b.toNat ≠ 0 ∧ c.toNat ≠ 0)) : PS Try.prog noDen 48 [(.agg ⟨[(.int .i64 49160), (.string (tagsV a b c))]⟩)] σ (.tuple #[W 0#32, W 0#32, W 0#32, .bool false]) :=
  sAs0 (σ := σ) 49160 (tagsV a b c) (by rw [tagsV_size]; omega) (fun q => h ((tags_ok a b c).1 q))

end Go.Proofs.Ytmdncojhnbbafaa.Vt
