/- Ac1: walks through functions of the program, by the calculus; written by a program of this workplace. -/
import Derived.Test.YtgajcmanompmcaaRp
import Derived.Test.YtgajcmanompmcaaVm6
namespace Go.Proofs.Ytgajcmanompmcaa.Vt
open Go Go.Proofs Go.Proofs.YtgajcmanompmcaaV
set_option maxRecDepth 100000
set_option linter.unusedVariables false
set_option linter.unusedSimpArgs false
structure I1 where
  z : Int
deriving DecidableEq
def dI1 : I1 := ⟨0⟩
abbrev cI1 (e : I1) : List Value := [(.int .i64 e.z)]
abbrev oI1 (l : List I1) : AObj := ⟨l.map cI1, 1, 3, true⟩
def flat0 : Value → Bool
  | .int _ _ | .bool _ | .string _ => true
  | .slice none 0 0 => true
  | _ => false
def flatA : Value → Bool
  | .agg ⟨l⟩ => l.all flat0
  | v => flat0 v
theorem flat0_eq {ι : Inj} {v v' : Value} (h : VR ι v v') (hf : flat0 v = true) : v' = v := by
  cases h <;> first | rfl | (simp [flat0] at hf)
theorem flat0_VR {v : Value} (ι : Inj) (hf : flat0 v = true) : VR ι v v := by
  unfold flat0 at hf
  split at hf <;> first | (exact .int _ _) | (exact .bool _) | (exact .str _) | (exact .sliceNil) | (simp at hf)
theorem flat0s_eq {ι : Inj} : ∀ {l l' : List Value}, VRs ι l l' → l.all flat0 = true → l' = l
  | _, _, .nil, _ => rfl
  | _, _, .cons h hs, hf => by
    simp only [List.all_cons, Bool.and_eq_true] at hf
    rw [flat0_eq h hf.1, flat0s_eq hs hf.2]
theorem flat0s_VR (ι : Inj) : ∀ {l : List Value}, l.all flat0 = true → VRs ι l l
  | [], _ => .nil
  | v :: l, hf => by
    simp only [List.all_cons, Bool.and_eq_true] at hf
    exact .cons (flat0_VR ι hf.1) (flat0s_VR ι hf.2)
theorem flatA_eq {ι : Inj} {v v' : Value} (h : VR ι v v') (hf : flatA v = true) : v' = v := by
  cases h with
  | agg h => rw [flat0s_eq h hf]
  | _ => first | rfl | exact flat0_eq (by first | assumption | constructor <;> assumption) hf | (simp [flatA, flat0] at hf)
theorem flatA_VR {v : Value} (ι : Inj) (hf : flatA v = true) : VR ι v v := by
  unfold flatA at hf
  split at hf
  · exact .agg (flat0s_VR ι hf)
  · exact flat0_VR ι hf
theorem flatAs_eq {ι : Inj} : ∀ {l l' : List Value}, VRs ι l l' → l.all flatA = true → l' = l
  | _, _, .nil, _ => rfl
  | _, _, .cons h hs, hf => by
    simp only [List.all_cons, Bool.and_eq_true] at hf
    rw [flatA_eq h hf.1, flatAs_eq hs hf.2]
theorem flatAs_VR (ι : Inj) : ∀ {l : List Value}, l.all flatA = true → VRs ι l l
  | [], _ => .nil
  | v :: l, hf => by
    simp only [List.all_cons, Bool.and_eq_true] at hf
    exact .cons (flatA_VR ι hf.1) (flatAs_VR ι hf.2)
theorem SC.anywhereA {P : Program} {f : Nat} {args : List Value} {n0 n' : Nat} {v : Value} {d : Delta} (h : SC P noDen f args n0 noStore v n' d) (ha : args.all flatA = true) (hv : flatA v = true) (n : Nat) (σ : Store) : SC P noDen f args n σ v n [] := by
  refine ⟨h.1, ⟨Nat.le_refl _, fun i hi => by simp [keys] at hi⟩, fun N w0 σ2 ι w args' R hs hR hargs hf hK => ?_⟩
  have e := flatAs_eq hargs ha
  subst e
  refine h.2.2 w.heap.size w noStore noIds w args' R (Sub.refl _) (rel_none w) (flatAs_VR _ ha) (fun _ _ _ => rfl) fun κ w' v' hend hv' => ?_
  have e2 := flatA_eq hv' hv
  subst e2
  have hb := hend.2.2.below
  refine hK ι w' v' ⟨Inj.le_refl _, fun i hi => absurd rfl hi, ?_⟩ (flatA_VR _ hv)
  have hsz := hb.size
  have h1 := hR.below
  have h2 := hR.size
  refine ⟨⟨hb.os.trans h1.os, hb.tape.trans h1.tape, hb.output.trans h1.output, Nat.le_trans h1.size hsz, fun k hk => ?_⟩, Nat.le_trans h2 hsz, fun i o e => ?_, hR.sep, hR.den⟩
  · rw [hb.block k (Nat.lt_of_lt_of_le hk h2)]; exact h1.block k hk
  · obtain ⟨p, g1, g2, g3⟩ := hR.obj i o e
    exact ⟨p, g1, g2.imp (fun h => h) (fun h => Nat.lt_of_lt_of_le h hsz), g3.keep (Inj.le_refl _) (g2.imp (fun h => h) (hb.block _))⟩
theorem PS.closedA {P : Program} {E : Env} (hE : EnvOk P E) (hd : E.den = noDen) {F k f : Nat} {args : List Value} {v : Value} {σ : Store} (h : (xcall E F k f args 0 noStore).map (·.1) = some v) (ha : args.all flatA = true) (hv : flatA v = true) : PS P noDen f args σ v := by
  intro n _
  cases hx : xcall E F k f args 0 noStore with
  | none => rw [hx] at h; cases h
  | some r =>
    obtain ⟨v', n', d⟩ := r
    rw [hx] at h
    simp at h
    subst h
    have := SC.of_callK hE (xcall_sound k hx)
    rw [hd] at this
    exact ⟨n, Nat.le_refl _, SC.anywhereA this ha hv n σ⟩
theorem bstr_size (l : List UInt8) : (bstr l).size = l.length := by rw [← L_len, L_bstr]
theorem cut_front (l1 l2 : List UInt8) {k : Nat} (h : l1.length = k) : (bstr (l1 ++ l2)).extract 0 k = bstr l1 := by
  apply L_ext
  rw [L_extract, L_bstr, L_bstr, List.drop_zero, List.take_append_of_le_length (by omega), List.take_of_length_le (by omega)]
theorem cut_back (l1 l2 : List UInt8) {k : Nat} (h : l1.length = k) : (bstr (l1 ++ l2)).extract k (bstr (l1 ++ l2)).size = bstr l2 := by
  apply L_ext
  subst h
  rw [L_extract, L_bstr, L_bstr, bstr_size]
  simp
theorem beN_be2' (m : Nat) (h : m < 65536) : beN (be2 m) = m := beN_be2 m h
theorem bstr_app (a b : List UInt8) : bstr a ++ bstr b = bstr (a ++ b) := by apply L_ext; rw [L_append, L_bstr, L_bstr, L_bstr]
theorem bstr_Lr (d : ByteArray) : bstr (L d) = d := by apply L_ext; rw [L_bstr]
theorem putL_be4 (x : BitVec 32) : putL x.toNat 4 = be4 x := beN_inj 4 _ _ (putL_len 4 _) rfl ((beN_putL 4 x.toNat x.isLt).trans (beN_be4 x).symm)
theorem putL_be2 (m : Nat) (hm : m < 65536) : putL m 2 = be2 m := beN_inj 2 _ _ (putL_len 2 _) rfl ((beN_putL 2 m hm).trans (beN_be2 m hm).symm)
def fillL (l : List UInt8) : List UInt8 := l ++ List.replicate ((4 - l.length % 4) % 4) 0
def pL (t : Nat) (v : List UInt8) : List UInt8 := fillL (be2 t ++ be2 (v.length + 4) ++ v)
def adr : List UInt8 := pL 5 (be4 0#32)
theorem adr_eq : adr = be2 5 ++ (be2 8 ++ (be4 0#32 ++ [])) := rfl
def reqL (x : BitVec 32) : List UInt8 := be4 x ++ adr
theorem bit_rfl (x : BitVec 32) : BitVec.ofNat 32 x.toNat = x := by simp
theorem cNum {n : Nat} {σ : Store} (hd : Dom n σ) (r : Nat) (l1 l2 : List UInt8) (k : Nat) (h1 : l1.length = k) (hk : k ≤ 8) (hs : (l1 ++ l2).length < 4294967296) (hr : σ r = some ⟨[[(.string (bstr (l1 ++ l2))), (.int .i64 0)]], 2, 121, true⟩) : CQ Try.prog noDen 93 [(Pt r 0 0), (.int .i64 ((k : Nat) : Int))] n σ (fun v n' d => v = .int .u64 ((beN l1 : Nat) : Int) ∧ d = [(r, some ⟨[[(.string (bstr l2)), (.int .i64 0)]], 2, 121, true⟩)]) := by
  refine (rNum hd r (bstr (l1 ++ l2)) k (by rw [bstr_size, List.length_append]; omega) hk (by rw [bstr_size]; exact hs) hr).imp fun v n' d h => ?_
  obtain ⟨h2, h3⟩ := h
  rw [h2, h3, L_bstr, cut_back l1 l2 h1, List.take_append_of_le_length (by omega), List.take_of_length_le (by omega)]
  exact ⟨rfl, rfl⟩
theorem cTake {n : Nat} {σ : Store} (hd : Dom n σ) (r : Nat) (l1 l2 : List UInt8) (k : Nat) (h1 : l1.length = k) (hs : (l1 ++ l2).length < 4294967296) (hr : σ r = some ⟨[[(.string (bstr (l1 ++ l2))), (.int .i64 0)]], 2, 121, true⟩) : CQ Try.prog noDen 88 [(Pt r 0 0), (.int .i64 ((k : Nat) : Int))] n σ (fun v n' d => v = .string (bstr l1) ∧ d = [(r, some ⟨[[(.string (bstr l2)), (.int .i64 0)]], 2, 121, true⟩)]) := by
  refine (rTake hd r (bstr (l1 ++ l2)) k (by rw [bstr_size, List.length_append]; omega) (by rw [bstr_size]; exact hs) hr).imp fun v n' d h => ?_
  obtain ⟨h2, h3⟩ := h
  rw [h2, h3, cut_back l1 l2 h1, cut_front l1 l2 h1]
  exact ⟨rfl, rfl⟩

theorem cU16 {n : Nat} {σ : Store} (hd : Dom n σ) (r : Nat) (m : Nat) (hm : m < 65536) (l2 : List UInt8) (hs : ((be2 m) ++ l2).length < 4294967296) (hr : σ r = some ⟨[[(.string (bstr ((be2 m) ++ l2))), (.int .i64 0)]], 2, 121, true⟩)  : CQ Try.prog noDen 61 [(Pt r 0 0)] n σ (fun v n' d => v = (.int .i64 ((m : Nat) : Int)) ∧ d = [(r, some ⟨[[(.string (bstr l2)), (.int .i64 0)]], 2, 121, true⟩)]) := by
 have lhr := hd.lt hr
 refine CQ.body (E := env) env_ok hd rfl rfl (by show _ ≤ _; exact of_decide_eq_true (by kernel_rfl)) ?_
 refine RA.seq hd ?_
 refine RA.region env_ok ?_
 refine OA.p (some 2) (.int .i64 0) rfl rfl rfl rfl ?_
 refine OA.nil ?_
 intro _
 refine RA.seq hd ?_
 refine RA.region env_ok ?_
 refine OA.p (some 3) (Pt r 0 0) rfl rfl rfl rfl ?_
 refine OA.call (dst := (some 4)) (all := [(Pt r 0 0), (.int .i64 2)]) rfl rfl rfl rfl rfl rfl rfl rfl (CQ.imp (cNum (hd.up (by omega)) r (be2 m) l2 2 rfl (by decide) hs hr) ?_)
 rintro _ n1 _ ⟨rfl, rfl⟩ hn1
 refine OA.app1 ?_
 refine OA.p (some 5) (.int .i64 (((beN (be2 m)) : Nat) : Int)) rfl rfl rfl (r_cvt rfl rfl rfl rfl rfl ⟨_, rfl⟩ (i64_eq (by have := (show beN (be2 m) < 65536 by rw [beN_be2 m hm]; exact hm); omega))) ?_
 refine OA.p (some 2) (.int .i64 (((beN (be2 m)) : Nat) : Int)) rfl rfl rfl rfl ?_
 refine OA.nil ?_
 intro _
 refine RA.ret env_ok ?_
 refine ⟨.inr rfl, [(.int .i64 (((beN (be2 m)) : Nat) : Int))], (resL_cons rfl resL_nil), [(r, some ⟨[[(.string (bstr l2)), (.int .i64 0)]], 2, 121, true⟩)], (Less.refl _ _ _), ⟨by rw [beN_be2 m hm] <;> rfl, rfl⟩⟩

theorem cU32 {n : Nat} {σ : Store} (hd : Dom n σ) (r : Nat) (x : BitVec 32) (l2 : List UInt8) (hs : ((be4 x) ++ l2).length < 4294967296) (hr : σ r = some ⟨[[(.string (bstr ((be4 x) ++ l2))), (.int .i64 0)]], 2, 121, true⟩)  : CQ Try.prog noDen 60 [(Pt r 0 0)] n σ (fun v n' d => v = (W x) ∧ d = [(r, some ⟨[[(.string (bstr l2)), (.int .i64 0)]], 2, 121, true⟩)]) := by
 have lhr := hd.lt hr
 refine CQ.body (E := env) env_ok hd rfl rfl (by show _ ≤ _; exact of_decide_eq_true (by kernel_rfl)) ?_
 refine RA.seq hd ?_
 refine RA.region env_ok ?_
 refine OA.p (some 2) (.int .u32 0) rfl rfl rfl rfl ?_
 refine OA.nil ?_
 intro _
 refine RA.seq hd ?_
 refine RA.region env_ok ?_
 refine OA.p (some 3) (Pt r 0 0) rfl rfl rfl rfl ?_
 refine OA.call (dst := (some 4)) (all := [(Pt r 0 0), (.int .i64 4)]) rfl rfl rfl rfl rfl rfl rfl rfl (CQ.imp (cNum (hd.up (by omega)) r (be4 x) l2 4 rfl (by decide) hs hr) ?_)
 rintro _ n1 _ ⟨rfl, rfl⟩ hn1
 refine OA.app1 ?_
 refine OA.p (some 5) (W (BitVec.ofNat 32 (beN (be4 x)))) rfl rfl rfl (r_cvt rfl rfl rfl rfl rfl ⟨_, rfl⟩ (wrap_ofNat32 _)) ?_
 refine OA.p (some 2) (W (BitVec.ofNat 32 (beN (be4 x)))) rfl rfl rfl rfl ?_
 refine OA.nil ?_
 intro _
 refine RA.ret env_ok ?_
 refine ⟨.inr rfl, [(W (BitVec.ofNat 32 (beN (be4 x))))], (resL_cons rfl resL_nil), [(r, some ⟨[[(.string (bstr l2)), (.int .i64 0)]], 2, 121, true⟩)], (Less.refl _ _ _), ⟨by rw [show W (BitVec.ofNat 32 (beN (be4 x))) = W x from by rw [beN_be4, bit_rfl]] <;> rfl, rfl⟩⟩

theorem cNewR {n : Nat} {σ : Store} (hd : Dom n σ) (l : List UInt8) : CQ Try.prog noDen 49 [.string (bstr l)] n σ (fun v n' d => ∃ i, n ≤ i ∧ i < n' ∧ v = .pointer (some ⟨i, 0, some 0⟩) ∧ d = [(i, some ⟨[[(.string (bstr l)), (.int .i64 0)]], 2, 121, true⟩)]) := by
  refine (rNew hd (bstr l)).imp fun v n' d h => ?_
  obtain ⟨i, h1, h2, h3, h4⟩ := h
  exact ⟨i, h1, h2, h3, by rw [h4, ext_all]⟩

theorem cLeft {σ : Store} (r : Nat) (l : List UInt8) (hr : σ r = some ⟨[[(.string (bstr l)), (.int .i64 0)]], 2, 121, true⟩)  : PS Try.prog noDen 57 [(Pt r 0 0)] σ (.int .i64 ((l.length : Nat) : Int)) := by
 refine PS.body (E := env) env_ok rfl rfl (by show _ ≤ _; exact of_decide_eq_true (by kernel_rfl)) (fun n hd => ?_)
 have lhr := hd.lt hr
 refine RA.seq hd ?_
 refine RA.region env_ok ?_
 refine OA.p (some 2) (.int .i64 0) rfl rfl rfl rfl ?_
 refine OA.nil ?_
 intro _
 refine RA.seq hd ?_
 refine RA.seq hd ?_
 refine RA.region env_ok ?_
 refine OA.p (some 3) (Pt r 0 0) rfl rfl rfl rfl ?_
 refine OA.callP (dst := (some 4)) (all := [(Pt r 0 0)]) (v := (.int .i64 0)) (hd.up (by omega)) rfl rfl rfl rfl rfl rfl rfl rfl (rErr r _ 0 hr) ?_
 intro n1 hn1
 refine OA.p (some 5) (.bool false) rfl rfl rfl (r_bin rfl rfl rfl (b_neq rfl)) ?_
 refine OA.nil ?_
 intro _
 refine RA.condF rfl ?_
 refine RA.skip env_ok ?_
 intro _
 refine RA.seq hd ?_
 refine RA.region env_ok ?_
 refine OA.p (some 6) (Pt r 0 0) rfl rfl rfl rfl ?_
 refine OA.p (some 7) (Pt r 0 0) rfl rfl rfl rfl ?_
 refine OA.p (some 8) (Pt r 0 0) rfl rfl rfl rfl ?_
 refine OA.p (some 9) (.string (bstr l)) rfl rfl rfl (r_load1 rfl rfl rfl rfl rfl hr rfl rfl) ?_
 refine OA.p (some 10) (.int .i64 (((bstr l).size : Nat) : Int)) rfl rfl rfl rfl ?_
 refine OA.p (some 2) (.int .i64 (((bstr l).size : Nat) : Int)) rfl rfl rfl rfl ?_
 refine OA.nil ?_
 intro _
 refine RA.ret env_ok ?_
 refine ⟨.inr rfl, [(.int .i64 (((bstr l).size : Nat) : Int))], (resL_cons rfl resL_nil), (by show Value.int _ _ = Value.int _ _; rw [bstr_size]), (fun i hi => by cases hi)⟩

theorem cPad4 {σ : Store} : PS Try.prog noDen 89 [.int .i64 4] σ (.int .i64 0) := PS.closed env_ok rfl (F := 40) (k := 10) (by kernel_rfl) rfl rfl

theorem cPad0 {σ : Store} : PS Try.prog noDen 89 [.int .i64 0] σ (.int .i64 0) := PS.closed env_ok rfl (F := 40) (k := 10) (by kernel_rfl) rfl rfl

theorem cFill4 {n : Nat} {σ : Store} (hd : Dom n σ) (r : Nat) (l : List UInt8) (hs : l.length < 4294967296) (hr : σ r = some ⟨[[(.string (bstr l)), (.int .i64 0)]], 2, 121, true⟩)  : CQ Try.prog noDen 90 [(Pt r 0 0), (.int .i64 4)] n σ (fun v n' d => v = .tuple #[] ∧ d = [(r, some ⟨[[(.string (bstr l)), (.int .i64 0)]], 2, 121, true⟩)]) := by
 have lhr := hd.lt hr
 refine CQ.body (E := env) env_ok hd rfl rfl (by show _ ≤ _; exact of_decide_eq_true (by kernel_rfl)) ?_
 refine RA.seq hd ?_
 refine RA.region env_ok ?_
 refine OA.p (some 5) (Pt r 0 0) rfl rfl rfl rfl ?_
 refine OA.p (some 6) (.int .i64 4) rfl rfl rfl rfl ?_
 refine OA.callP (dst := (some 7)) (all := [(.int .i64 4)]) (v := (.int .i64 0)) (hd.up (by omega)) rfl rfl rfl rfl rfl rfl rfl rfl cPad4 ?_
 intro n1 hn1
 refine OA.p (some 8) (Pt r 0 0) rfl rfl rfl rfl ?_
 refine OA.callP (dst := (some 9)) (all := [(Pt r 0 0)]) (v := (.int .i64 ((l.length : Nat) : Int))) (hd.up (by omega)) rfl rfl rfl rfl rfl rfl rfl rfl (cLeft r l hr) ?_
 intro n2 hn2
 refine OA.p (some 10) (.int .i64 0) rfl rfl rfl (Eq.trans (r_min (a := 0) (b := l.length) rfl rfl rfl) (by rw [Nat.zero_min] <;> rfl)) ?_
 refine OA.call (dst := (some 11)) (all := [(Pt r 0 0), (.int .i64 0)]) rfl rfl rfl rfl rfl rfl rfl rfl (CQ.imp (cTake (hd.up (by omega)) r [] l 0 rfl hs hr) ?_)
 rintro _ n3 _ ⟨rfl, rfl⟩ hn3
 refine OA.app1 ?_
 refine OA.p (some 4) (.string (ByteArray.mk #[])) rfl rfl rfl rfl ?_
 refine OA.nil ?_
 intro _
 refine RA.seq hd ?_
 refine RA.region env_ok ?_
 refine OA.p (some 12) (.string (ByteArray.mk #[])) rfl rfl rfl rfl ?_
 refine OA.p (some 13) (.string (ByteArray.mk #[])) rfl rfl rfl rfl ?_
 refine OA.p (some 14) (.int .i64 0) rfl rfl rfl (Eq.trans (show _ = some (Value.int .i64 (((ByteArray.mk #[]).size : Nat) : Int), _, []) from rfl) (by rw [show (ByteArray.mk #[]).size = 0 from rfl] <;> rfl)) ?_
 refine OA.p (some 15) (.string (ByteArray.mk #[])) rfl rfl rfl (by kernel_rfl) ?_
 refine OA.p (some 16) (.bool false) rfl rfl rfl (by kernel_rfl) ?_
 refine OA.nil ?_
 intro _
 refine RA.condF rfl ?_
 refine RA.skip env_ok ?_
 refine ⟨.inl rfl, [], resL_nil, [(r, some ⟨[[(.string (bstr l)), (.int .i64 0)]], 2, 121, true⟩)], (Less.refl _ _ _), ⟨rfl, rfl⟩⟩

theorem cPTake {n : Nat} {σ : Store} (hd : Dom n σ) (r : Nat) (l : List UInt8) (hs : l.length < 4294960000) (hr : σ r = some ⟨[[(.string (bstr (be2 5 ++ (be2 8 ++ (be4 0#32 ++ l))))), (.int .i64 0)]], 2, 121, true⟩)  : CQ Try.prog noDen 100 [(Pt r 0 0)] n σ (fun v n' d => v = (.agg ⟨[(.int .i64 5), (.string (bstr (be4 0#32)))]⟩) ∧ d = [(r, some ⟨[[(.string (bstr l)), (.int .i64 0)]], 2, 121, true⟩)]) := by
 have lhr := hd.lt hr
 refine CQ.body (E := env) env_ok hd rfl rfl (by show _ ≤ _; exact of_decide_eq_true (by kernel_rfl)) ?_
 refine RA.seq hd ?_
 refine RA.region env_ok ?_
 refine OA.op1 (dst := (some 2)) (v := (Pt n 0 0)) (n1 := (n + 1)) (w := (n, some ⟨[[(.int .i64 0), (.string ByteArray.empty)]], 2, 35, true⟩)) rfl rfl rfl rfl (by omega) ?_
 refine OA.nil ?_
 intro _
 refine RA.seq hd ?_
 refine RA.region env_ok ?_
 refine OA.p (some 5) (Pt r 0 0) rfl rfl rfl rfl ?_
 refine OA.call (dst := (some 6)) (all := [(Pt r 0 0)]) rfl rfl rfl rfl rfl rfl rfl rfl (CQ.imp (cU16 (hd.of (by omega) (kb1 (by omega))) r 5 (by decide) (be2 8 ++ (be4 0#32 ++ l)) (by simp only [List.length_append, be2_len, be4_len]; omega) (get_there (by omega) hr)) ?_)
 rintro _ n1 _ ⟨rfl, rfl⟩ hn1
 refine OA.app1 ?_
 refine OA.p (some 7) (.agg ⟨[(.int .i64 5), (.string ByteArray.empty)]⟩) rfl rfl rfl (by kernel_rfl) ?_
 refine OA.op1 (dst := (some 3)) (v := (Pt n1 0 0)) (n1 := (n1 + 1)) (w := (n1, some ⟨[[(.int .i64 0), (.string ByteArray.empty)]], 2, 35, true⟩)) rfl rfl rfl rfl (by omega) ?_
 refine OA.op1 (dst := none) (v := (.tuple #[])) (n1 := (n1 + 1)) (w := (n1, some ⟨[[(.int .i64 5), (.string ByteArray.empty)]], 2, 35, true⟩)) rfl rfl rfl (r_store rfl rfl rfl rfl rfl rfl rfl get_here rfl rfl (Nat.le_of_ble_eq_true rfl) rfl) (by omega) ?_
 refine OA.nil ?_
 intro _
 refine RA.seq hd ?_
 refine RA.region env_ok ?_
 refine OA.p (some 8) (Pt r 0 0) rfl rfl rfl rfl ?_
 refine OA.call (dst := (some 9)) (all := [(Pt r 0 0)]) rfl rfl rfl rfl rfl rfl rfl rfl (CQ.imp (cU16 (hd.of (by omega) (kb4 (by omega))) r 8 (by decide) (be4 0#32 ++ l) (by simp only [List.length_append, be2_len, be4_len]; omega) (gt2 (by omega) get_here)) ?_)
 rintro _ n2 _ ⟨rfl, rfl⟩ hn2
 refine OA.app1 ?_
 refine OA.p (some 10) (.int .i64 4) rfl rfl rfl (r_bin rfl rfl rfl (b_sub (i64_eq (by omega)))) ?_
 refine OA.p (some 4) (.int .i64 4) rfl rfl rfl rfl ?_
 refine OA.nil ?_
 intro _
 refine RA.seq hd ?_
 refine RA.seq hd ?_
 refine RA.region env_ok ?_
 refine OA.p (some 11) (Pt r 0 0) rfl rfl rfl rfl ?_
 refine OA.callP (dst := (some 12)) (all := [(Pt r 0 0)]) (v := (.int .i64 0)) (hd.of (by omega) (kb5 (by omega))) rfl rfl rfl rfl rfl rfl rfl rfl (rErr r _ 0 get_here) ?_
 intro n3 hn3
 refine OA.p (some 13) (.bool true) rfl rfl rfl (r_bin rfl rfl rfl (b_eql rfl)) ?_
 refine OA.p (some 14) (.bool true) rfl rfl rfl rfl ?_
 refine OA.p (some 15) (.int .i64 4) rfl rfl rfl rfl ?_
 refine OA.p (some 16) (.bool false) rfl rfl rfl (r_bin rfl rfl rfl (b_lss rfl)) ?_
 refine OA.p (some 17) (.bool false) rfl rfl rfl rfl ?_
 refine OA.p (some 18) (.int .i64 4) rfl rfl rfl rfl ?_
 refine OA.p (some 19) (.bool false) rfl rfl rfl (r_bin rfl rfl rfl (b_gtr rfl)) ?_
 refine OA.p (some 20) (.bool false) rfl rfl rfl rfl ?_
 refine OA.p (some 21) (.bool false) rfl rfl rfl rfl ?_
 refine OA.nil ?_
 intro _
 refine RA.condF rfl ?_
 refine RA.skip env_ok ?_
 intro _
 refine RA.seq hd ?_
 refine RA.region env_ok ?_
 refine OA.p (some 24) (Pt r 0 0) rfl rfl rfl rfl ?_
 refine OA.p (some 25) (.int .i64 4) rfl rfl rfl rfl ?_
 refine OA.call (dst := (some 26)) (all := [(Pt r 0 0), (.int .i64 4)]) rfl rfl rfl rfl rfl rfl rfl rfl (CQ.imp (cTake (hd.of (by omega) (kb5 (by omega))) r (be4 0#32) l 4 rfl (by simp only [List.length_append, be4_len]; omega) get_here) ?_)
 rintro _ n4 _ ⟨rfl, rfl⟩ hn4
 refine OA.app1 ?_
 refine OA.p (some 27) (Pt n1 0 1) rfl rfl rfl rfl ?_
 refine OA.op1 (dst := none) (v := (.tuple #[])) (n1 := n4) (w := (n1, some ⟨[[(.int .i64 5), (.string (bstr (be4 0#32)))]], 2, 35, true⟩)) rfl rfl rfl (r_store rfl rfl rfl rfl rfl rfl rfl (gt2 (by omega) get_here) rfl rfl (Nat.le_of_ble_eq_true rfl) rfl) (by omega) ?_
 refine OA.nil ?_
 intro _
 refine RA.rebase [(0, (Pt r 0 0)), (2, (Pt n 0 0)), (3, (Pt n1 0 0)), (4, (.int .i64 4)), (21, (.bool false))] ⟨rfl, rfl, rfl, rfl, rfl, trivial⟩ (fun τr5 => ?_)
 refine RA.seq hd ?_
 refine RA.seq hd ?_
 refine RA.region env_ok ?_
 refine OA.p (some 28) (Pt r 0 0) rfl rfl rfl rfl ?_
 refine OA.callP (dst := (some 29)) (all := [(Pt r 0 0)]) (v := (.int .i64 0)) (hd.of (by omega) (kb7 (by omega))) rfl rfl rfl rfl rfl rfl rfl rfl (rErr r _ 0 (get_there (by omega) get_here)) ?_
 intro n6 hn6
 refine OA.p (some 30) (.bool false) rfl rfl rfl (r_bin rfl rfl rfl (b_neq rfl)) ?_
 refine OA.nil ?_
 intro _
 refine RA.condF rfl ?_
 refine RA.skip env_ok ?_
 intro _
 refine RA.seq hd ?_
 refine RA.seq hd ?_
 refine RA.region env_ok ?_
 refine OA.p (some 32) (.int .i64 4) rfl rfl rfl rfl ?_
 refine OA.callP (dst := (some 33)) (all := [(.int .i64 4)]) (v := (.int .i64 0)) (hd.of (by omega) (kb7 (by omega))) rfl rfl rfl rfl rfl rfl rfl rfl cPad4 ?_
 intro n7 hn7
 refine OA.p (some 34) (Pt r 0 0) rfl rfl rfl rfl ?_
 refine OA.callP (dst := (some 35)) (all := [(Pt r 0 0)]) (v := (.int .i64 ((l.length : Nat) : Int))) (hd.of (by omega) (kb7 (by omega))) rfl rfl rfl rfl rfl rfl rfl rfl (cLeft r l (get_there (by omega) get_here)) ?_
 intro n8 hn8
 have hc1 : ¬ (((l.length : Nat) : Int) < 0) := fun hdd => by exfalso; omega
 refine OA.p (some 36) (.bool false) rfl rfl rfl (Eq.trans (r_bin rfl rfl rfl (b_gtr rfl)) (dF hc1)) ?_
 refine OA.nil ?_
 intro _
 refine RA.condF rfl ?_
 refine RA.skip env_ok ?_
 intro _
 refine RA.seq hd ?_
 refine RA.region env_ok ?_
 refine OA.p (some 39) (Pt r 0 0) rfl rfl rfl rfl ?_
 refine OA.p (some 40) (.int .i64 4) rfl rfl rfl rfl ?_
 refine OA.call (dst := (some 41)) (all := [(Pt r 0 0), (.int .i64 4)]) rfl rfl rfl rfl rfl rfl rfl rfl (CQ.imp (cFill4 (hd.of (by omega) (kb7 (by omega))) r l (by omega) (get_there (by omega) get_here)) ?_)
 rintro _ n9 _ ⟨rfl, rfl⟩ hn9
 refine OA.app1 ?_
 refine OA.nil ?_
 intro _
 refine RA.seq hd ?_
 refine RA.seq hd ?_
 refine RA.region env_ok ?_
 refine OA.p (some 42) (Pt r 0 0) rfl rfl rfl rfl ?_
 refine OA.callP (dst := (some 43)) (all := [(Pt r 0 0)]) (v := (.int .i64 0)) (hd.of (by omega) (kb8 (by omega))) rfl rfl rfl rfl rfl rfl rfl rfl (rErr r _ 0 get_here) ?_
 intro n10 hn10
 refine OA.p (some 44) (.bool false) rfl rfl rfl (r_bin rfl rfl rfl (b_neq rfl)) ?_
 refine OA.nil ?_
 intro _
 refine RA.condF rfl ?_
 refine RA.skip env_ok ?_
 intro _
 refine RA.seq hd ?_
 refine RA.region env_ok ?_
 refine OA.p (some 46) (.agg ⟨[(.int .i64 5), (.string (bstr (be4 0#32)))]⟩) rfl rfl rfl (r_loadA rfl rfl rfl rfl (get_there (by omega) get_here) rfl rfl rfl) ?_
 refine OA.op1 (dst := none) (v := (.tuple #[])) (n1 := n10) (w := (n, some ⟨[[(.int .i64 5), (.string (bstr (be4 0#32)))]], 2, 35, true⟩)) rfl rfl rfl (r_store rfl rfl rfl rfl rfl rfl rfl (gt7 (by omega) get_here) rfl rfl (Nat.le_of_ble_eq_true rfl) rfl) (by omega) ?_
 refine OA.nil ?_
 intro _
 refine RA.weaken (D' := [(n, some ⟨[[(.int .i64 5), (.string (bstr (be4 0#32)))]], 2, 35, true⟩), (r, some ⟨[[(.string (bstr l)), (.int .i64 0)]], 2, 121, true⟩), (n1, some ⟨[[(.int .i64 5), (.string (bstr (be4 0#32)))]], 2, 35, true⟩)]) hd (Less.of (fac (mm (fun _ => get_here) (fun _ => get_here)) (fac (mm (fun _ => (get_there (by omega) get_here)) (fun _ => (get_there (by omega) get_here))) (fac (mm (fun _ => (gt2 (by omega) get_here)) (fun _ => (gt2 (by omega) get_here))) fan))) (gone_of (by simp only [goneP, memP, List.cons_append, List.nil_append, true_or, or_true, true_and, and_true, or_false] <;> omega))) ?_
 refine RA.ret env_ok ?_
 refine ⟨.inr rfl, [(.agg ⟨[(.int .i64 5), (.string (bstr (be4 0#32)))]⟩)], (resL_cons (res_cellA rfl rfl rfl get_here rfl rfl rfl) resL_nil), [(r, some ⟨[[(.string (bstr l)), (.int .i64 0)]], 2, 121, true⟩)], (Less.of (fac (mm (fun _ => get_here) (fun _ => (get_there (by omega) get_here))) fan) (gone_of (by simp only [goneP, memP, List.cons_append, List.nil_append, true_or, or_true, true_and, and_true, or_false] <;> omega))), ⟨rfl, rfl⟩⟩

theorem cAsAddr {σ : Store}    : PS Try.prog noDen 99 [(.agg ⟨[(.int .i64 5), (.string (bstr (be4 0#32)))]⟩)] σ (.tuple #[W 0#32, .bool true]) := by
 refine PS.body (E := env) env_ok rfl rfl (by show _ ≤ _; exact of_decide_eq_true (by kernel_rfl)) (fun n hd => ?_)
 refine RA.seq hd ?_
 refine RA.region env_ok ?_
 refine OA.op1 (dst := (some 1)) (v := (Pt n 0 0)) (n1 := (n + 1)) (w := (n, some ⟨[[(.int .i64 5), (.string (bstr (be4 0#32)))]], 2, 35, true⟩)) rfl rfl rfl rfl (by omega) ?_
 refine OA.p (some 2) (.int .u32 0) rfl rfl rfl rfl ?_
 refine OA.p (some 3) (.bool false) rfl rfl rfl rfl ?_
 refine OA.nil ?_
 intro _
 refine RA.seq hd ?_
 refine RA.seq hd ?_
 refine RA.region env_ok ?_
 refine OA.p (some 4) (Pt n 0 0) rfl rfl rfl rfl ?_
 refine OA.p (some 5) (.int .i64 5) rfl rfl rfl (r_load1 rfl rfl rfl rfl rfl get_here rfl rfl) ?_
 refine OA.p (some 6) (.bool false) rfl rfl rfl (r_bin rfl rfl rfl (b_neq rfl)) ?_
 refine OA.p (some 7) (.bool false) rfl rfl rfl rfl ?_
 refine OA.p (some 8) (Pt n 0 1) rfl rfl rfl rfl ?_
 refine OA.p (some 9) (.string (bstr (be4 0#32))) rfl rfl rfl (r_load1 rfl rfl rfl rfl rfl get_here rfl rfl) ?_
 refine OA.p (some 10) (.int .i64 4) rfl rfl rfl (Eq.trans (show _ = some (Value.int .i64 (((bstr (be4 0#32)).size : Nat) : Int), _, []) from rfl) (by rw [show (bstr (be4 0#32)).size = 4 from rfl] <;> rfl)) ?_
 refine OA.p (some 11) (.bool false) rfl rfl rfl (r_bin rfl rfl rfl (b_neq rfl)) ?_
 refine OA.p (some 12) (.bool false) rfl rfl rfl rfl ?_
 refine OA.nil ?_
 intro _
 refine RA.condF rfl ?_
 refine RA.skip env_ok ?_
 intro _
 refine RA.seq hd ?_
 refine RA.region env_ok ?_
 refine OA.p (some 13) (Pt n 0 1) rfl rfl rfl rfl ?_
 refine OA.p (some 14) (.string (bstr (be4 0#32))) rfl rfl rfl (r_load1 rfl rfl rfl rfl rfl get_here rfl rfl) ?_
 refine OA.call (dst := (some 15)) (all := [(.string (bstr (be4 0#32)))]) rfl rfl rfl rfl rfl rfl rfl rfl (CQ.imp (cNewR (hd.of (by omega) (kb1 (by omega))) (be4 0#32)) ?_)
 rintro _ n1 _ ⟨rn1, p1n1, p2n1, rfl, rfl⟩ hn1
 refine OA.app1 ?_
 refine OA.call (dst := (some 16)) (all := [(Pt rn1 0 0)]) rfl rfl rfl rfl rfl rfl rfl rfl (CQ.imp (cU32 (hd.of (by omega) (kb2 (by omega))) rn1 0#32 [] (by decide) (by rw [List.append_nil]; exact get_here)) ?_)
 rintro _ n2 _ ⟨rfl, rfl⟩ hn2
 refine OA.app1 ?_
 refine OA.p (some 2) (W 0#32) rfl rfl rfl rfl ?_
 refine OA.p (some 3) (.bool true) rfl rfl rfl rfl ?_
 refine OA.nil ?_
 intro _
 refine RA.ret env_ok ?_
 refine ⟨.inr rfl, [(W 0#32), (.bool true)], (resL_cons rfl (resL_cons rfl resL_nil)), rfl, (kc3 (by omega))⟩

theorem cReq49153 {σ : Store} (x : BitVec 32)   : PS Try.prog noDen 70 [(.agg ⟨[(.int .i64 49153), (.string (bstr (be4 x ++ (be2 5 ++ (be2 8 ++ (be4 0#32 ++ []))))))]⟩)] σ (.tuple #[W x, W 0#32, .bool true]) := by
 refine PS.body (E := env) env_ok rfl rfl (by show _ ≤ _; exact of_decide_eq_true (by kernel_rfl)) (fun n hd => ?_)
 refine RA.seq hd ?_
 refine RA.region env_ok ?_
 refine OA.op1 (dst := (some 1)) (v := (Pt n 0 0)) (n1 := (n + 1)) (w := (n, some ⟨[[(.int .i64 49153), (.string (bstr (be4 x ++ (be2 5 ++ (be2 8 ++ (be4 0#32 ++ []))))))]], 2, 35, true⟩)) rfl rfl rfl rfl (by omega) ?_
 refine OA.p (some 2) (.int .u32 0) rfl rfl rfl rfl ?_
 refine OA.p (some 3) (.int .u32 0) rfl rfl rfl rfl ?_
 refine OA.p (some 4) (.bool false) rfl rfl rfl rfl ?_
 refine OA.nil ?_
 intro _
 refine RA.seq hd ?_
 refine RA.seq hd ?_
 refine RA.region env_ok ?_
 refine OA.p (some 9) (Pt n 0 0) rfl rfl rfl rfl ?_
 refine OA.p (some 10) (.int .i64 49153) rfl rfl rfl (r_load1 rfl rfl rfl rfl rfl get_here rfl rfl) ?_
 refine OA.p (some 11) (.bool false) rfl rfl rfl (r_bin rfl rfl rfl (b_neq rfl)) ?_
 refine OA.p (some 12) (.bool false) rfl rfl rfl rfl ?_
 refine OA.off (dst := (some 13)) rfl rfl rfl ?_
 refine OA.off (dst := (some 14)) rfl rfl rfl ?_
 refine OA.off (dst := (some 15)) rfl rfl rfl ?_
 refine OA.p (some 16) (.bool false) rfl rfl rfl rfl ?_
 refine OA.p (some 17) (.bool false) rfl rfl rfl rfl ?_
 refine OA.off (dst := (some 18)) rfl rfl rfl ?_
 refine OA.off (dst := (some 19)) rfl rfl rfl ?_
 refine OA.off (dst := (some 20)) rfl rfl rfl ?_
 refine OA.p (some 21) (.bool false) rfl rfl rfl rfl ?_
 refine OA.nil ?_
 intro _
 refine RA.condF rfl ?_
 refine RA.skip env_ok ?_
 intro _
 refine RA.seq hd ?_
 refine RA.region env_ok ?_
 refine OA.p (some 22) (Pt n 0 1) rfl rfl rfl rfl ?_
 refine OA.p (some 23) (.string (bstr (be4 x ++ (be2 5 ++ (be2 8 ++ (be4 0#32 ++ [])))))) rfl rfl rfl (r_load1 rfl rfl rfl rfl rfl get_here rfl rfl) ?_
 refine OA.call (dst := (some 24)) (all := [(.string (bstr (be4 x ++ (be2 5 ++ (be2 8 ++ (be4 0#32 ++ []))))))]) rfl rfl rfl rfl rfl rfl rfl rfl (CQ.imp (cNewR (hd.of (by omega) (kb1 (by omega))) (be4 x ++ (be2 5 ++ (be2 8 ++ (be4 0#32 ++ []))))) ?_)
 rintro _ n1 _ ⟨rn1, p1n1, p2n1, rfl, rfl⟩ hn1
 refine OA.app1 ?_
 refine OA.p (some 5) (Pt rn1 0 0) rfl rfl rfl rfl ?_
 refine OA.nil ?_
 intro _
 refine RA.seq hd ?_
 refine RA.region env_ok ?_
 refine OA.p (some 25) (Pt rn1 0 0) rfl rfl rfl rfl ?_
 refine OA.call (dst := (some 26)) (all := [(Pt rn1 0 0)]) rfl rfl rfl rfl rfl rfl rfl rfl (CQ.imp (cU32 (hd.of (by omega) (kb2 (by omega))) rn1 x (be2 5 ++ (be2 8 ++ (be4 0#32 ++ []))) (by simp only [List.length_append, be2_len, be4_len, List.length_nil]; omega) get_here) ?_)
 rintro _ n2 _ ⟨rfl, rfl⟩ hn2
 refine OA.app1 ?_
 refine OA.p (some 6) (W x) rfl rfl rfl rfl ?_
 refine OA.nil ?_
 intro _
 refine RA.seq hd ?_
 refine RA.region env_ok ?_
 refine OA.p (some 28) (Pt rn1 0 0) rfl rfl rfl rfl ?_
 refine OA.call (dst := (some 29)) (all := [(Pt rn1 0 0)]) rfl rfl rfl rfl rfl rfl rfl rfl (CQ.imp (cPTake (hd.of (by omega) (kb3 (by omega))) rn1 [] (by decide) get_here) ?_)
 rintro _ n3 _ ⟨rfl, rfl⟩ hn3
 refine OA.app1 ?_
 refine OA.callP (dst := (some 30)) (all := [(.agg ⟨[(.int .i64 5), (.string (bstr (be4 0#32)))]⟩)]) (v := (.tuple ⟨[(W 0#32), (.bool true)]⟩)) (hd.of (by omega) (kb4 (by omega))) rfl rfl rfl rfl rfl rfl rfl rfl cAsAddr ?_
 intro n4 hn4
 refine OA.p (some 27) (.tuple ⟨[(W 0#32), (.bool true)]⟩) rfl rfl rfl rfl ?_
 refine OA.p (some 31) (W 0#32) rfl rfl rfl rfl ?_
 refine OA.p (some 32) (.bool true) rfl rfl rfl rfl ?_
 refine OA.p (some 7) (W 0#32) rfl rfl rfl rfl ?_
 refine OA.p (some 8) (.bool true) rfl rfl rfl rfl ?_
 refine OA.nil ?_
 intro _
 refine RA.rebase [(0, (.agg ⟨[(.int .i64 49153), (.string (bstr (be4 x ++ (be2 5 ++ (be2 8 ++ (be4 0#32 ++ []))))))]⟩)), (1, (Pt n 0 0)), (2, (.int .u32 0)), (3, (.int .u32 0)), (4, (.bool false)), (5, (Pt rn1 0 0)), (6, (W x)), (7, (W 0#32)), (8, (.bool true)), (21, (.bool false))] ⟨rfl, rfl, rfl, rfl, rfl, rfl, rfl, rfl, rfl, rfl, trivial⟩ (fun τr5 => ?_)
 refine RA.seq hd ?_
 refine RA.seq hd ?_
 refine RA.region env_ok ?_
 refine OA.p (some 33) (Pt rn1 0 0) rfl rfl rfl rfl ?_
 refine OA.call (dst := (some 34)) (all := [(Pt rn1 0 0)]) rfl rfl rfl rfl rfl rfl rfl rfl (CQ.imp (rEnd (hd.of (by omega) (kb4 (by omega))) rn1 (bstr []) rfl get_here) ?_)
 rintro _ n6 _ ⟨rfl, rfl⟩ hn6
 refine OA.app0 ?_
 refine OA.p (some 35) (.bool false) rfl rfl rfl (r_bin rfl rfl rfl (b_neq rfl)) ?_
 refine OA.p (some 36) (.bool false) rfl rfl rfl rfl ?_
 refine OA.p (some 37) (.bool true) rfl rfl rfl rfl ?_
 refine OA.p (some 38) (.bool false) rfl rfl rfl rfl ?_
 refine OA.p (some 39) (.bool false) rfl rfl rfl rfl ?_
 refine OA.nil ?_
 intro _
 refine RA.condF rfl ?_
 refine RA.skip env_ok ?_
 intro _
 refine RA.seq hd ?_
 refine RA.region env_ok ?_
 refine OA.p (some 40) (W x) rfl rfl rfl rfl ?_
 refine OA.p (some 41) (W 0#32) rfl rfl rfl rfl ?_
 refine OA.p (some 2) (W x) rfl rfl rfl rfl ?_
 refine OA.p (some 3) (W 0#32) rfl rfl rfl rfl ?_
 refine OA.p (some 4) (.bool true) rfl rfl rfl rfl ?_
 refine OA.nil ?_
 intro _
 refine RA.ret env_ok ?_
 refine ⟨.inr rfl, [(W x), (W 0#32), (.bool true)], (resL_cons rfl (resL_cons rfl (resL_cons rfl resL_nil))), rfl, (kc4 (by omega))⟩

theorem cReq49154 {σ : Store} (x : BitVec 32)   : PS Try.prog noDen 70 [(.agg ⟨[(.int .i64 49154), (.string (bstr (be4 x ++ (be2 5 ++ (be2 8 ++ (be4 0#32 ++ []))))))]⟩)] σ (.tuple #[W x, W 0#32, .bool true]) := by
 refine PS.body (E := env) env_ok rfl rfl (by show _ ≤ _; exact of_decide_eq_true (by kernel_rfl)) (fun n hd => ?_)
 refine RA.seq hd ?_
 refine RA.region env_ok ?_
 refine OA.op1 (dst := (some 1)) (v := (Pt n 0 0)) (n1 := (n + 1)) (w := (n, some ⟨[[(.int .i64 49154), (.string (bstr (be4 x ++ (be2 5 ++ (be2 8 ++ (be4 0#32 ++ []))))))]], 2, 35, true⟩)) rfl rfl rfl rfl (by omega) ?_
 refine OA.p (some 2) (.int .u32 0) rfl rfl rfl rfl ?_
 refine OA.p (some 3) (.int .u32 0) rfl rfl rfl rfl ?_
 refine OA.p (some 4) (.bool false) rfl rfl rfl rfl ?_
 refine OA.nil ?_
 intro _
 refine RA.seq hd ?_
 refine RA.seq hd ?_
 refine RA.region env_ok ?_
 refine OA.p (some 9) (Pt n 0 0) rfl rfl rfl rfl ?_
 refine OA.p (some 10) (.int .i64 49154) rfl rfl rfl (r_load1 rfl rfl rfl rfl rfl get_here rfl rfl) ?_
 refine OA.p (some 11) (.bool true) rfl rfl rfl (r_bin rfl rfl rfl (b_neq rfl)) ?_
 refine OA.p (some 12) (.bool true) rfl rfl rfl rfl ?_
 refine OA.p (some 13) (Pt n 0 0) rfl rfl rfl rfl ?_
 refine OA.p (some 14) (.int .i64 49154) rfl rfl rfl (r_load1 rfl rfl rfl rfl rfl get_here rfl rfl) ?_
 refine OA.p (some 15) (.bool false) rfl rfl rfl (r_bin rfl rfl rfl (b_neq rfl)) ?_
 refine OA.p (some 16) (.bool false) rfl rfl rfl rfl ?_
 refine OA.p (some 17) (.bool false) rfl rfl rfl rfl ?_
 refine OA.off (dst := (some 18)) rfl rfl rfl ?_
 refine OA.off (dst := (some 19)) rfl rfl rfl ?_
 refine OA.off (dst := (some 20)) rfl rfl rfl ?_
 refine OA.p (some 21) (.bool false) rfl rfl rfl rfl ?_
 refine OA.nil ?_
 intro _
 refine RA.condF rfl ?_
 refine RA.skip env_ok ?_
 intro _
 refine RA.seq hd ?_
 refine RA.region env_ok ?_
 refine OA.p (some 22) (Pt n 0 1) rfl rfl rfl rfl ?_
 refine OA.p (some 23) (.string (bstr (be4 x ++ (be2 5 ++ (be2 8 ++ (be4 0#32 ++ [])))))) rfl rfl rfl (r_load1 rfl rfl rfl rfl rfl get_here rfl rfl) ?_
 refine OA.call (dst := (some 24)) (all := [(.string (bstr (be4 x ++ (be2 5 ++ (be2 8 ++ (be4 0#32 ++ []))))))]) rfl rfl rfl rfl rfl rfl rfl rfl (CQ.imp (cNewR (hd.of (by omega) (kb1 (by omega))) (be4 x ++ (be2 5 ++ (be2 8 ++ (be4 0#32 ++ []))))) ?_)
 rintro _ n1 _ ⟨rn1, p1n1, p2n1, rfl, rfl⟩ hn1
 refine OA.app1 ?_
 refine OA.p (some 5) (Pt rn1 0 0) rfl rfl rfl rfl ?_
 refine OA.nil ?_
 intro _
 refine RA.seq hd ?_
 refine RA.region env_ok ?_
 refine OA.p (some 25) (Pt rn1 0 0) rfl rfl rfl rfl ?_
 refine OA.call (dst := (some 26)) (all := [(Pt rn1 0 0)]) rfl rfl rfl rfl rfl rfl rfl rfl (CQ.imp (cU32 (hd.of (by omega) (kb2 (by omega))) rn1 x (be2 5 ++ (be2 8 ++ (be4 0#32 ++ []))) (by simp only [List.length_append, be2_len, be4_len, List.length_nil]; omega) get_here) ?_)
 rintro _ n2 _ ⟨rfl, rfl⟩ hn2
 refine OA.app1 ?_
 refine OA.p (some 6) (W x) rfl rfl rfl rfl ?_
 refine OA.nil ?_
 intro _
 refine RA.seq hd ?_
 refine RA.region env_ok ?_
 refine OA.p (some 28) (Pt rn1 0 0) rfl rfl rfl rfl ?_
 refine OA.call (dst := (some 29)) (all := [(Pt rn1 0 0)]) rfl rfl rfl rfl rfl rfl rfl rfl (CQ.imp (cPTake (hd.of (by omega) (kb3 (by omega))) rn1 [] (by decide) get_here) ?_)
 rintro _ n3 _ ⟨rfl, rfl⟩ hn3
 refine OA.app1 ?_
 refine OA.callP (dst := (some 30)) (all := [(.agg ⟨[(.int .i64 5), (.string (bstr (be4 0#32)))]⟩)]) (v := (.tuple ⟨[(W 0#32), (.bool true)]⟩)) (hd.of (by omega) (kb4 (by omega))) rfl rfl rfl rfl rfl rfl rfl rfl cAsAddr ?_
 intro n4 hn4
 refine OA.p (some 27) (.tuple ⟨[(W 0#32), (.bool true)]⟩) rfl rfl rfl rfl ?_
 refine OA.p (some 31) (W 0#32) rfl rfl rfl rfl ?_
 refine OA.p (some 32) (.bool true) rfl rfl rfl rfl ?_
 refine OA.p (some 7) (W 0#32) rfl rfl rfl rfl ?_
 refine OA.p (some 8) (.bool true) rfl rfl rfl rfl ?_
 refine OA.nil ?_
 intro _
 refine RA.rebase [(0, (.agg ⟨[(.int .i64 49154), (.string (bstr (be4 x ++ (be2 5 ++ (be2 8 ++ (be4 0#32 ++ []))))))]⟩)), (1, (Pt n 0 0)), (2, (.int .u32 0)), (3, (.int .u32 0)), (4, (.bool false)), (5, (Pt rn1 0 0)), (6, (W x)), (7, (W 0#32)), (8, (.bool true)), (21, (.bool false))] ⟨rfl, rfl, rfl, rfl, rfl, rfl, rfl, rfl, rfl, rfl, trivial⟩ (fun τr5 => ?_)
 refine RA.seq hd ?_
 refine RA.seq hd ?_
 refine RA.region env_ok ?_
 refine OA.p (some 33) (Pt rn1 0 0) rfl rfl rfl rfl ?_
 refine OA.call (dst := (some 34)) (all := [(Pt rn1 0 0)]) rfl rfl rfl rfl rfl rfl rfl rfl (CQ.imp (rEnd (hd.of (by omega) (kb4 (by omega))) rn1 (bstr []) rfl get_here) ?_)
 rintro _ n6 _ ⟨rfl, rfl⟩ hn6
 refine OA.app0 ?_
 refine OA.p (some 35) (.bool false) rfl rfl rfl (r_bin rfl rfl rfl (b_neq rfl)) ?_
 refine OA.p (some 36) (.bool false) rfl rfl rfl rfl ?_
 refine OA.p (some 37) (.bool true) rfl rfl rfl rfl ?_
 refine OA.p (some 38) (.bool false) rfl rfl rfl rfl ?_
 refine OA.p (some 39) (.bool false) rfl rfl rfl rfl ?_
 refine OA.nil ?_
 intro _
 refine RA.condF rfl ?_
 refine RA.skip env_ok ?_
 intro _
 refine RA.seq hd ?_
 refine RA.region env_ok ?_
 refine OA.p (some 40) (W x) rfl rfl rfl rfl ?_
 refine OA.p (some 41) (W 0#32) rfl rfl rfl rfl ?_
 refine OA.p (some 2) (W x) rfl rfl rfl rfl ?_
 refine OA.p (some 3) (W 0#32) rfl rfl rfl rfl ?_
 refine OA.p (some 4) (.bool true) rfl rfl rfl rfl ?_
 refine OA.nil ?_
 intro _
 refine RA.ret env_ok ?_
 refine ⟨.inr rfl, [(W x), (W 0#32), (.bool true)], (resL_cons rfl (resL_cons rfl (resL_cons rfl resL_nil))), rfl, (kc4 (by omega))⟩

theorem cReq5 {σ : Store} (s : ByteArray)   : PS Try.prog noDen 70 [(.agg ⟨[(.int .i64 5), (.string s)]⟩)] σ (.tuple #[W 0#32, W 0#32, .bool false]) := by
 refine PS.body (E := env) env_ok rfl rfl (by show _ ≤ _; exact of_decide_eq_true (by kernel_rfl)) (fun n hd => ?_)
 refine RA.seq hd ?_
 refine RA.region env_ok ?_
 refine OA.op1 (dst := (some 1)) (v := (Pt n 0 0)) (n1 := (n + 1)) (w := (n, some ⟨[[(.int .i64 5), (.string s)]], 2, 35, true⟩)) rfl rfl rfl rfl (by omega) ?_
 refine OA.p (some 2) (.int .u32 0) rfl rfl rfl rfl ?_
 refine OA.p (some 3) (.int .u32 0) rfl rfl rfl rfl ?_
 refine OA.p (some 4) (.bool false) rfl rfl rfl rfl ?_
 refine OA.nil ?_
 intro _
 refine RA.seq hd ?_
 refine RA.seq hd ?_
 refine RA.region env_ok ?_
 refine OA.p (some 9) (Pt n 0 0) rfl rfl rfl rfl ?_
 refine OA.p (some 10) (.int .i64 5) rfl rfl rfl (r_load1 rfl rfl rfl rfl rfl get_here rfl rfl) ?_
 refine OA.p (some 11) (.bool true) rfl rfl rfl (r_bin rfl rfl rfl (b_neq rfl)) ?_
 refine OA.p (some 12) (.bool true) rfl rfl rfl rfl ?_
 refine OA.p (some 13) (Pt n 0 0) rfl rfl rfl rfl ?_
 refine OA.p (some 14) (.int .i64 5) rfl rfl rfl (r_load1 rfl rfl rfl rfl rfl get_here rfl rfl) ?_
 refine OA.p (some 15) (.bool true) rfl rfl rfl (r_bin rfl rfl rfl (b_neq rfl)) ?_
 refine OA.p (some 16) (.bool true) rfl rfl rfl rfl ?_
 refine OA.p (some 17) (.bool true) rfl rfl rfl rfl ?_
 refine OA.p (some 18) (Pt n 0 0) rfl rfl rfl rfl ?_
 refine OA.p (some 19) (.int .i64 5) rfl rfl rfl (r_load1 rfl rfl rfl rfl rfl get_here rfl rfl) ?_
 refine OA.p (some 20) (.bool true) rfl rfl rfl (r_bin rfl rfl rfl (b_neq rfl)) ?_
 refine OA.p (some 21) (.bool true) rfl rfl rfl rfl ?_
 refine OA.nil ?_
 intro _
 refine RA.condT rfl ?_
 refine RA.seq hd ?_
 refine RA.region env_ok ?_
 refine OA.p (some 2) (.int .u32 0) rfl rfl rfl rfl ?_
 refine OA.p (some 3) (.int .u32 0) rfl rfl rfl rfl ?_
 refine OA.p (some 4) (.bool false) rfl rfl rfl rfl ?_
 refine OA.nil ?_
 intro _
 refine RA.ret env_ok ?_
 refine ⟨.inr rfl, [(.int .u32 0), (.int .u32 0), (.bool false)], (resL_cons rfl (resL_cons rfl (resL_cons rfl resL_nil))), rfl, (kc1 (by omega))⟩

theorem cReq49160 {σ : Store} (s : ByteArray)   : PS Try.prog noDen 70 [(.agg ⟨[(.int .i64 49160), (.string s)]⟩)] σ (.tuple #[W 0#32, W 0#32, .bool false]) := by
 refine PS.body (E := env) env_ok rfl rfl (by show _ ≤ _; exact of_decide_eq_true (by kernel_rfl)) (fun n hd => ?_)
 refine RA.seq hd ?_
 refine RA.region env_ok ?_
 refine OA.op1 (dst := (some 1)) (v := (Pt n 0 0)) (n1 := (n + 1)) (w := (n, some ⟨[[(.int .i64 49160), (.string s)]], 2, 35, true⟩)) rfl rfl rfl rfl (by omega) ?_
 refine OA.p (some 2) (.int .u32 0) rfl rfl rfl rfl ?_
 refine OA.p (some 3) (.int .u32 0) rfl rfl rfl rfl ?_
 refine OA.p (some 4) (.bool false) rfl rfl rfl rfl ?_
 refine OA.nil ?_
 intro _
 refine RA.seq hd ?_
 refine RA.seq hd ?_
 refine RA.region env_ok ?_
 refine OA.p (some 9) (Pt n 0 0) rfl rfl rfl rfl ?_
 refine OA.p (some 10) (.int .i64 49160) rfl rfl rfl (r_load1 rfl rfl rfl rfl rfl get_here rfl rfl) ?_
 refine OA.p (some 11) (.bool true) rfl rfl rfl (r_bin rfl rfl rfl (b_neq rfl)) ?_
 refine OA.p (some 12) (.bool true) rfl rfl rfl rfl ?_
 refine OA.p (some 13) (Pt n 0 0) rfl rfl rfl rfl ?_
 refine OA.p (some 14) (.int .i64 49160) rfl rfl rfl (r_load1 rfl rfl rfl rfl rfl get_here rfl rfl) ?_
 refine OA.p (some 15) (.bool true) rfl rfl rfl (r_bin rfl rfl rfl (b_neq rfl)) ?_
 refine OA.p (some 16) (.bool true) rfl rfl rfl rfl ?_
 refine OA.p (some 17) (.bool true) rfl rfl rfl rfl ?_
 refine OA.p (some 18) (Pt n 0 0) rfl rfl rfl rfl ?_
 refine OA.p (some 19) (.int .i64 49160) rfl rfl rfl (r_load1 rfl rfl rfl rfl rfl get_here rfl rfl) ?_
 refine OA.p (some 20) (.bool true) rfl rfl rfl (r_bin rfl rfl rfl (b_neq rfl)) ?_
 refine OA.p (some 21) (.bool true) rfl rfl rfl rfl ?_
 refine OA.nil ?_
 intro _
 refine RA.condT rfl ?_
 refine RA.seq hd ?_
 refine RA.region env_ok ?_
 refine OA.p (some 2) (.int .u32 0) rfl rfl rfl rfl ?_
 refine OA.p (some 3) (.int .u32 0) rfl rfl rfl rfl ?_
 refine OA.p (some 4) (.bool false) rfl rfl rfl rfl ?_
 refine OA.nil ?_
 intro _
 refine RA.ret env_ok ?_
 refine ⟨.inr rfl, [(.int .u32 0), (.int .u32 0), (.bool false)], (resL_cons rfl (resL_cons rfl (resL_cons rfl resL_nil))), rfl, (kc1 (by omega))⟩
end Go.Proofs.Ytgajcmanompmcaa.Vt
