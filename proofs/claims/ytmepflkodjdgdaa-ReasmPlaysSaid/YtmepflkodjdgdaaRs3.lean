/- Rs3: walks through functions of the program, by the calculus; written by a program of this workplace. -/
import Derived.Test.YtmepflkodjdgdaaRs2
import Derived.Test.YtmepflkodjdgdaaVm6
namespace Go.Proofs.Ytmepflkodjdgdaa.Vt
open Go Go.Proofs Go.Proofs.YtmepflkodjdgdaaV
set_option maxRecDepth 100000
set_option linter.unusedVariables false
set_option linter.unusedSimpArgs false
def mkM (c : Prt) (pr : BitVec 32) (d : ByteArray) : Msg := if c.fl.val / 4 % 2 = 1 then ⟨((c.st : Nat) : Int), 0, true, pr, d⟩ else ⟨((c.st : Nat) : Int), ((c.ssn : Nat) : Int), false, pr, d⟩
theorem idx_neg {α : Type} {p : α → Bool} {l : List α} (h : idxZ p l < 0) : l.findIdx p = l.length := by
  have := fi_le (p := p) (l := l)
  unfold idxZ at h
  split at h <;> omega
theorem idx_pos {α : Type} {p : α → Bool} {l : List α} (h : ¬ idxZ p l < 0) : idxZ p l = ((l.findIdx p : Nat) : Int) := by
  unfold idxZ at h ⊢
  split at h
  · rename_i h1; rw [if_pos h1]
  · omega
theorem dcat_snoc {d : ByteArray} {l : List Prt} {g n k : Nat} (hk : k < n) (h : g + k < l.length) : dcat d (((l.drop g).take n).take (k + 1)) = dcat d (((l.drop g).take n).take k) ++ (l.getD (g + k) dPrt).data := by
  have e : ((l.drop g).take n).take (k + 1) = ((l.drop g).take n).take k ++ [l.getD (g + k) dPrt] := by
    have hl : k < ((l.drop g).take n).length := by rw [List.length_take, List.length_drop]; omega
    rw [List.take_succ_eq_append_getElem hl, List.getElem_take, List.getElem_drop, get_d h]
  rw [e]; unfold dcat; rw [List.foldl_append]; rfl
theorem dcat_le {l : List Prt} (h : ∀ x ∈ l, x.data.size ≤ 6) : ∀ {d : ByteArray} {m : Nat}, d.size ≤ m → (dcat d l).size ≤ m + 6 * l.length := by
  induction l with
  | nil => intro d m hd; unfold dcat; simpa using hd
  | cons a l ih =>
    intro d m hd
    have h1 := h a (List.mem_cons_self ..)
    have h2 := ih (fun x hx => h x (List.mem_cons_of_mem _ hx)) (d := d ++ a.data) (m := m + 6) (by rw [ByteArray.size_append]; omega)
    rw [List.length_cons]
    have h3 : dcat d (a :: l) = dcat (d ++ a.data) l := rfl
    rw [h3]; omega
theorem seg_le {l : List Prt} {g n k : Nat} (h : ∀ x ∈ l, x.data.size ≤ 6) : (dcat ByteArray.empty (((l.drop g).take n).take k)).size ≤ 6 * k := by
  have h1 := dcat_le (l := ((l.drop g).take n).take k) (fun x hx => h x (List.mem_of_mem_drop (List.mem_of_mem_take (List.mem_of_mem_take hx)))) (d := ByteArray.empty) (m := 0) (Nat.le_refl _)
  have h2 : (((l.drop g).take n).take k).length ≤ k := by rw [List.length_take]; omega
  omega
theorem ins_mem {α : Type} {l : List α} {i : Nat} {c x : α} : x ∈ insL l i c ↔ x = c ∨ x ∈ l := by
  unfold insL
  rw [List.mem_append, List.mem_append, List.mem_singleton]
  constructor
  · rintro ((h | h) | h)
    · exact .inr (List.mem_of_mem_take h)
    · exact .inl h
    · exact .inr (List.mem_of_mem_drop h)
  · rintro (h | h)
    · exact .inl (.inr h)
    · rw [← List.take_append_drop i l] at h
      rcases List.mem_append.1 h with h | h
      · exact .inl (.inl h)
      · exact .inr h
theorem cut_len {α : Type} {l : List α} {g u N : Nat} (hl : l.length = N) (hg : g ≤ u) (hu : u < N) : (l.take g ++ l.drop (u + 1)).length = N - (u + 1 - g) := by
  rw [List.length_append, List.length_take, List.length_drop]; omega
abbrev xRs31 (c : Prt) : List Value := [(.int .i64 0), (.int .i64 ((c.fl.val : Nat) : Int)), (W c.tsn), (.int .i64 ((c.st : Nat) : Int)), (.int .i64 ((c.ssn : Nat) : Int)), (W c.proto), (.string c.data), (.int .u32 0), (.int .u32 0), (.int .i64 0), (.int .i64 0), (.slice none 0 0), (.slice none 0 0), (.slice none 0 0), (.slice none 0 0)]
abbrev xRs32 (c : Prt) (l : List Prt) (i0 : Nat) (g : Nat) (u : Nat) (k : Nat) : List Value := [(.int .i64 ((c.st : Nat) : Int)), (.int .i64 ((c.ssn : Nat) : Int)), (.bool false), (W ((insL l i0 c).getD g dPrt).proto), (.string (dcat ByteArray.empty ((((insL l i0 c).drop g).take (u + 1 - g)).take k)))]
abbrev xRs33 (c : Prt) (l : List Prt) (i0 : Nat) (g : Nat) (u : Nat) (k : Nat) : List Value := [(.int .i64 ((c.st : Nat) : Int)), (.int .i64 0), (.bool true), (W ((insL l i0 c).getD g dPrt).proto), (.string (dcat ByteArray.empty ((((insL l i0 c).drop g).take (u + 1 - g)).take k)))]
abbrev xRs34 (c : Prt) (l : List Prt) (i0 : Nat) (g : Nat) : List Value := [(.int .i64 ((c.st : Nat) : Int)), (.int .i64 ((c.ssn : Nat) : Int)), (.bool false), (W ((insL l i0 c).getD g dPrt).proto), (.string ByteArray.empty)]
abbrev xRs35 (c : Prt) (l : List Prt) (i0 : Nat) (g : Nat) : List Value := [(.int .i64 ((c.st : Nat) : Int)), (.int .i64 ((c.ssn : Nat) : Int)), (.bool true), (W ((insL l i0 c).getD g dPrt).proto), (.string ByteArray.empty)]
theorem sAddN {n : Nat} {σ : Store} (hd : Dom n σ) (p jp K : Nat) (l : List Prt) (hl : l.length = K) (hK : K ≤ 900) (hpj : p ≠ jp) (c : Prt) (hA : arL (insL l (l.findIdx (lsP c)) c) (l.findIdx (lsP c)) = none) (hp : σ p = some ⟨[[(.slice (some ⟨jp, 0, none⟩) K 2)]], 1, 122, true⟩) (hjp : σ jp = some (oPrt l))  : CQ Try.prog noDen 30 [(Pt p 0 0), (.agg ⟨(cPrt c)⟩)] n σ (fun v n' d => ∃ jn, n ≤ jn ∧ jn < n' ∧ v = (.tuple ⟨[(.agg ⟨[(.int .i64 0), (.int .i64 0), (.bool false), (.int .u32 0), (.string ByteArray.empty)]⟩), (.bool false)]⟩) ∧ d = [(p, some ⟨[[(.slice (some ⟨jn, 0, none⟩) (K + 1) 2)]], 1, 122, true⟩), (jn, some (oPrt (insL l (l.findIdx (lsP c)) c))), (jp, none)]) := by
 have lhp := hd.lt hp
 have lhjp := hd.lt hjp
 refine CQ.body (E := env) env_ok hd rfl rfl (by show _ ≤ _; exact of_decide_eq_true (by kernel_rfl)) ?_
 refine RA.seq hd ?_
 refine RA.region env_ok ?_
 refine OA.op1 (dst := (some 3)) (v := (Pt n 0 0)) (n1 := (n + 1)) (w := (n, some ⟨[(cPrt c)], 15, 54, true⟩)) rfl rfl rfl rfl (by omega) ?_
 refine OA.op1 (dst := (some 4)) (v := (.pointer (some ⟨(n + 1), 0, some 0⟩))) (n1 := (n + 2)) (w := ((n + 1), some ⟨[[(.int .i64 0), (.int .i64 0), (.bool false), (.int .u32 0), (.string ByteArray.empty)]], 5, 29, true⟩)) rfl rfl rfl rfl (by omega) ?_
 refine OA.p (some 5) (.bool false) rfl rfl rfl rfl ?_
 refine OA.nil ?_
 intro _
 refine RA.seq hd ?_
 refine RA.seq hd ?_
 refine RA.region env_ok ?_
 refine OA.p (some 14) (Pt p 0 0) rfl rfl rfl rfl ?_
 refine OA.p (some 15) (.bool false) rfl rfl rfl rfl ?_
 refine OA.nil ?_
 intro _
 refine RA.condF rfl ?_
 refine RA.skip env_ok ?_
 intro _
 refine RA.seq hd ?_
 refine RA.region env_ok ?_
 refine OA.p (some 17) (Pt p 0 0) rfl rfl rfl rfl ?_
 refine OA.p (some 18) (Pt p 0 0) rfl rfl rfl rfl ?_
 refine OA.p (some 19) (Pt p 0 0) rfl rfl rfl rfl ?_
 refine OA.p (some 20) (.slice (some ⟨jp, 0, none⟩) K 2) rfl rfl rfl (r_load1 rfl rfl rfl rfl rfl (gt2 (by omega) hp) rfl rfl) ?_
 refine OA.p (some 21) (.func (.func 72) ⟨[]⟩ ⟨[(Pt n 0 0)]⟩) rfl rfl rfl rfl ?_
 refine OA.callP (dst := (some 22)) (all := [(.slice (some ⟨jp, 0, none⟩) K 2), (.func (.func 72) ⟨[]⟩ ⟨[(Pt n 0 0)]⟩)]) (v := (.int .i64 (idxZ (lsP c) l))) (hd.of (by omega) (kb2 (by omega))) rfl rfl rfl rfl rfl rfl rfl rfl (sIdx jp K l hl (by omega) (lsP c) n (gt2 (by omega) hjp) (fun x _ => sCl x c n (get_there (by omega) get_here))) ?_
 intro n1 hn1
 refine OA.p (some 6) (.int .i64 (idxZ (lsP c) l)) rfl rfl rfl rfl ?_
 refine OA.nil ?_
 intro _
 refine RA.seq hd (RA.imp (Q := fun x τ' n' D' => x = .normal ∧ ((∃ i0 : Nat, Has τ' [(0, (Pt p 0 0)), (3, (Pt n 0 0)), (4, (.pointer (some ⟨(n + 1), 0, some 0⟩))), (6, (.int .i64 ((i0 : Nat) : Int)))] ∧ (∃ D2, Less n n' D' D2 ∧ D2 = [(n, some ⟨[(cPrt c)], 15, 54, true⟩), ((n + 1), some ⟨[[(.int .i64 0), (.int .i64 0), (.bool false), (.int .u32 0), (.string ByteArray.empty)]], 5, 29, true⟩)]) ∧ n1 ≤ n' ∧ (∀ i_ ∈ keys [(n, some ⟨[(cPrt c)], 15, 54, true⟩), ((n + 1), some ⟨[[(.int .i64 0), (.int .i64 0), (.bool false), (.int .u32 0), (.string ByteArray.empty)]], 5, 29, true⟩)], i_ < n') ∧ i0 = (l.findIdx (lsP c)) ∧ i0 ≤ K))) ?_ ?_)
 ·
  refine RA.seq hd ?_
  refine RA.region env_ok ?_
  refine OA.p (some 23) (.int .i64 (idxZ (lsP c) l)) rfl rfl rfl rfl ?_
  by_cases hc1 : (idxZ (lsP c) l) < 0
  ·
   refine OA.p (some 24) (.bool true) rfl rfl rfl (Eq.trans (r_bin rfl rfl rfl (b_lss rfl)) (dT hc1)) ?_
   refine OA.nil ?_
   intro _
   refine RA.condT rfl ?_
   refine RA.region env_ok ?_
   refine OA.p (some 25) (Pt p 0 0) rfl rfl rfl rfl ?_
   refine OA.p (some 26) (Pt p 0 0) rfl rfl rfl rfl ?_
   refine OA.p (some 27) (Pt p 0 0) rfl rfl rfl rfl ?_
   refine OA.p (some 28) (.slice (some ⟨jp, 0, none⟩) K 2) rfl rfl rfl (r_load1 rfl rfl rfl rfl rfl (gt2 (by omega) hp) rfl rfl) ?_
   refine OA.p (some 29) (.int .i64 ((K : Nat) : Int)) rfl rfl rfl rfl ?_
   refine OA.p (some 6) (.int .i64 ((K : Nat) : Int)) rfl rfl rfl rfl ?_
   refine OA.nil ?_
   exact ⟨rfl, ⟨K, ⟨rfl, rfl, rfl, rfl, trivial⟩, ⟨[(n, some ⟨[(cPrt c)], 15, 54, true⟩), ((n + 1), some ⟨[[(.int .i64 0), (.int .i64 0), (.bool false), (.int .u32 0), (.string ByteArray.empty)]], 5, 29, true⟩)], (Less.of (fac (mm (fun _ => get_here) (fun _ => (get_there (by omega) get_here))) (fac (mm (fun _ => (get_there (by omega) get_here)) (fun _ => get_here)) fan)) (gone_of (by simp only [goneP, memP, List.cons_append, List.nil_append, true_or, or_true, true_and, and_true, or_false] <;> omega))), rfl⟩, by omega, (kb2 (by omega)), ⟨(by rw [idx_neg hc1]; exact hl.symm), by omega⟩⟩⟩
  ·
   refine OA.p (some 24) (.bool false) rfl rfl rfl (Eq.trans (r_bin rfl rfl rfl (b_lss rfl)) (dF hc1)) ?_
   refine OA.nil ?_
   intro _
   refine RA.condF rfl ?_
   refine RA.skip env_ok ?_
   exact ⟨rfl, ⟨(l.findIdx (lsP c)), ⟨rfl, rfl, rfl, (congrArg (Value.int .i64) (idx_pos hc1)), trivial⟩, ⟨[(n, some ⟨[(cPrt c)], 15, 54, true⟩), ((n + 1), some ⟨[[(.int .i64 0), (.int .i64 0), (.bool false), (.int .u32 0), (.string ByteArray.empty)]], 5, 29, true⟩)], (Less.of (fac (mm (fun _ => get_here) (fun _ => (get_there (by omega) get_here))) (fac (mm (fun _ => (get_there (by omega) get_here)) (fun _ => get_here)) fan)) (gone_of (by simp only [goneP, memP, List.cons_append, List.nil_append, true_or, or_true, true_and, and_true, or_false] <;> omega))), rfl⟩, by omega, (kb2 (by omega)), ⟨rfl, by have := fi_le (p := lsP c) (l := l); omega⟩⟩⟩
 ·
  rintro _ τ2 n2 Dn2 hmn2 ⟨rfl, hSn2⟩
  rcases hSn2 with ⟨i0, hHn2, ⟨_, hLn2, rfl⟩, hn2, hKn2, hIn2⟩
  intro _
  refine RA.weaken hd hLn2 ?_
  rw [Has.eq hHn2]
  have hKn2_0 : n < n2 := hKn2 _ (by simp only [keys, List.map_cons, List.map_nil, List.mem_cons, true_or, or_true])
  have hKn2_1 : (n + 1) < n2 := hKn2 _ (by simp only [keys, List.map_cons, List.map_nil, List.mem_cons, true_or, or_true])
  clear hKn2
  obtain ⟨hi0, hi1⟩ := hIn2
  rw [← hi0] at hA
  refine RA.seq hd ?_
  refine RA.par (md := [some [], some [], some [], some [], some [p], some [], some [n], some [], none, some [], some [], none]) env_ok (hd.of (by omega) (kb2 (by omega))) (by kernel_rfl) ?_
  refine PQ.pure (dst := (some 30)) (v := (Pt p 0 0)) rfl rfl rfl noStore (none_ok _ _) rfl ?_
  refine PQ.pure (dst := (some 31)) (v := (Pt p 0 0)) rfl rfl rfl noStore (none_ok _ _) rfl ?_
  refine PQ.pure (dst := (some 32)) (v := (Pt p 0 0)) rfl rfl rfl noStore (none_ok _ _) rfl ?_
  refine PQ.pure (dst := (some 33)) (v := (Pt p 0 0)) rfl rfl rfl noStore (none_ok _ _) rfl ?_
  refine PQ.pure (dst := (some 34)) (v := (.slice (some ⟨jp, 0, none⟩) K 2)) rfl rfl rfl (app [(p, some ⟨[[(.slice (some ⟨jp, 0, none⟩) K 2)]], 1, 122, true⟩)] noStore) (seen_one (V := []) (D := [(n, some ⟨[(cPrt c)], 15, 54, true⟩), ((n + 1), some ⟨[[(.int .i64 0), (.int .i64 0), (.bool false), (.int .u32 0), (.string ByteArray.empty)]], 5, 29, true⟩)]) (by kernel_rfl) (gt2 (by omega) hp)) (r_load1 rfl rfl rfl rfl rfl get_here rfl rfl) ?_
  refine PQ.pure (dst := (some 35)) (v := (.int .i64 ((i0 : Nat) : Int))) rfl rfl rfl noStore (none_ok _ _) rfl ?_
  refine PQ.pure (dst := (some 36)) (v := (.agg ⟨(xRs31 c)⟩)) rfl rfl rfl (app [(n, some ⟨[(cPrt c)], 15, 54, true⟩)] noStore) (seen_one (V := []) (D := [(n, some ⟨[(cPrt c)], 15, 54, true⟩), ((n + 1), some ⟨[[(.int .i64 0), (.int .i64 0), (.bool false), (.int .u32 0), (.string ByteArray.empty)]], 5, 29, true⟩)]) (by kernel_rfl) get_here) (r_loadA rfl rfl rfl rfl get_here rfl rfl rfl) ?_
  refine PQ.op (dst := (some 37)) (v := (.slice (some ⟨n2, 0, none⟩) 1 0)) (n1 := (n2 + 1)) (d1 := [(n2, some ⟨[(xRs31 c)], 15, 54, true⟩)]) rfl rfl rfl noStore (none_ok _ _) (by kernel_rfl) (by omega) (kp1 (wr_new (by omega) (by omega))) ?_
  refine PQ.call (dst := (some 38)) (all := [(.slice (some ⟨jp, 0, none⟩) K 2), (.int .i64 ((i0 : Nat) : Int)), (.slice (some ⟨n2, 0, none⟩) 1 0)]) rfl rfl rfl rfl rfl rfl rfl rfl _ (seen_any (V := [(n2, some ⟨[(xRs31 c)], 15, 54, true⟩)]) (D := [(n, some ⟨[(cPrt c)], 15, 54, true⟩), ((n + 1), some ⟨[[(.int .i64 0), (.int .i64 0), (.bool false), (.int .u32 0), (.string ByteArray.empty)]], 5, 29, true⟩)]) (by kernel_rfl)) (CQ.imp (CQ.keys (sIns (hd.of (by omega) (kb3 (by omega))) jp n2 K i0 0 54 l c hl (by omega) (by omega) (gt3 (by omega) hjp) get_here (by omega))) ?_)
  rintro _ n3 _ ⟨hkn3, ⟨hnn, rfl, rfl⟩⟩
  have hn3 := hkn3.1
  refine ⟨hn3, (kp2 (by first | exact wr_new (by omega) (by omega) | exact wr_old [0] (by kernel_rfl) (by omega) (by omega) (fac (lo0 rfl) fan)) (by first | exact wr_new (by omega) (by omega) | exact wr_old [0] (by kernel_rfl) (by omega) (by omega) (fac (lo0 rfl) fan))), ?_⟩
  refine PQ.pure (dst := (some 39)) (v := (Pt p 0 0)) rfl rfl rfl noStore (none_ok _ _) rfl ?_
  refine PQ.pure (dst := (some 40)) (v := (Pt p 0 0)) rfl rfl rfl noStore (none_ok _ _) rfl ?_
  refine PQ.op (dst := none) (v := (.tuple #[])) (n1 := n3) (d1 := [(p, some ⟨[[(.slice (some ⟨(n2 + 1), 0, none⟩) (K + 1) 2)]], 1, 122, true⟩)]) rfl rfl rfl _ (seen_any (V := [((n2 + 1), some (oPrt (insL l i0 c))), (jp, none), (n2, some ⟨[(xRs31 c)], 15, 54, true⟩)]) (D := [(n, some ⟨[(cPrt c)], 15, 54, true⟩), ((n + 1), some ⟨[[(.int .i64 0), (.int .i64 0), (.bool false), (.int .u32 0), (.string ByteArray.empty)]], 5, 29, true⟩)]) (by kernel_rfl)) (r_store rfl rfl rfl rfl rfl rfl rfl (gt5 (by omega) hp) rfl rfl (Nat.le_of_ble_eq_true rfl) rfl) (by omega) (kp1 (wr_tight (by kernel_rfl) (by omega))) ?_
  refine PQ.done (d := [(p, some ⟨[[(.slice (some ⟨(n2 + 1), 0, none⟩) (K + 1) 2)]], 1, 122, true⟩), ((n2 + 1), some (oPrt (insL l i0 c))), (jp, none), (n2, some ⟨[(xRs31 c)], 15, 54, true⟩)]) (by kernel_rfl) ?_
  intro _
  refine RA.seq hd ?_
  refine RA.region env_ok ?_
  refine OA.p (some 42) (Pt p 0 0) rfl rfl rfl rfl ?_
  refine OA.p (some 43) (.int .i64 ((i0 : Nat) : Int)) rfl rfl rfl rfl ?_
  refine OA.callP (dst := (some 44)) (all := [(Pt p 0 0), (.int .i64 ((i0 : Nat) : Int))]) (v := (.tuple ⟨[(.int .i64 0), (.int .i64 0), (.bool false)]⟩)) (hd.of (by omega) (kb6 (by omega))) rfl rfl rfl rfl rfl rfl rfl rfl (PS.to (sAr p (n2 + 1) (K + 1) (insL l i0 c) (show (insL l i0 c).length = K + 1 from by rw [insL_len, hl]) (by omega) i0 (by omega) get_here (get_there (by omega) get_here)) (by rw [hA]; rfl)) ?_
  intro n4 hn4
  refine OA.p (some 41) (.tuple ⟨[(.int .i64 0), (.int .i64 0), (.bool false)]⟩) rfl rfl rfl rfl ?_
  refine OA.p (some 45) (.int .i64 0) rfl rfl rfl rfl ?_
  refine OA.p (some 46) (.int .i64 0) rfl rfl rfl rfl ?_
  refine OA.p (some 47) (.bool false) rfl rfl rfl rfl ?_
  refine OA.p (some 7) (.int .i64 0) rfl rfl rfl rfl ?_
  refine OA.p (some 8) (.int .i64 0) rfl rfl rfl rfl ?_
  refine OA.p (some 9) (.bool false) rfl rfl rfl rfl ?_
  refine OA.nil ?_
  intro _
  refine RA.seq hd ?_
  refine RA.seq hd ?_
  refine RA.region env_ok ?_
  refine OA.p (some 48) (.bool false) rfl rfl rfl rfl ?_
  refine OA.p (some 49) (.bool true) rfl rfl rfl rfl ?_
  refine OA.nil ?_
  intro _
  refine RA.condT rfl ?_
  refine RA.seq hd ?_
  refine RA.region env_ok ?_
  refine OA.p (some 50) (.agg ⟨[(.int .i64 0), (.int .i64 0), (.bool false), (.int .u32 0), (.string ByteArray.empty)]⟩) rfl rfl rfl (by kernel_rfl) ?_
  refine OA.op1 (dst := none) (v := (.tuple #[])) (n1 := n4) (w := ((n + 1), some ⟨[[(.int .i64 0), (.int .i64 0), (.bool false), (.int .u32 0), (.string ByteArray.empty)]], 5, 29, true⟩)) rfl rfl rfl (r_store rfl rfl rfl rfl rfl rfl rfl (gt5 (by omega) get_here) rfl rfl (Nat.le_of_ble_eq_true rfl) rfl) (by omega) ?_
  refine OA.p (some 5) (.bool false) rfl rfl rfl rfl ?_
  refine OA.nil ?_
  intro _
  refine RA.weaken (D' := [((n + 1), some ⟨[[(.int .i64 0), (.int .i64 0), (.bool false), (.int .u32 0), (.string ByteArray.empty)]], 5, 29, true⟩), (p, some ⟨[[(.slice (some ⟨(n2 + 1), 0, none⟩) (K + 1) 2)]], 1, 122, true⟩), ((n2 + 1), some (oPrt (insL l i0 c))), (jp, none), (n2, some ⟨[(xRs31 c)], 15, 54, true⟩), (n, some ⟨[(cPrt c)], 15, 54, true⟩)]) hd (Less.of (fac (mm (fun _ => get_here) (fun _ => get_here)) (fac (mm (fun _ => (get_there (by omega) get_here)) (fun _ => (get_there (by omega) get_here))) (fac (mm (fun _ => (gt2 (by omega) get_here)) (fun _ => (gt2 (by omega) get_here))) (fac (mm (fun _ => (gt3 (by omega) get_here)) (fun _ => (gt3 (by omega) get_here))) (fac (mm (fun _ => (gt4 (by omega) get_here)) (fun _ => (gt4 (by omega) get_here))) (fac (mm (fun _ => (gt5 (by omega) get_here)) (fun _ => (gt5 (by omega) get_here))) fan)))))) (gone_of (by simp only [goneP, memP, List.cons_append, List.nil_append, true_or, or_true, true_and, and_true, or_false] <;> omega))) ?_
  refine RA.rebase [(0, (Pt p 0 0)), (3, (Pt n 0 0)), (4, (.pointer (some ⟨(n + 1), 0, some 0⟩))), (5, (.bool false)), (6, (.int .i64 ((i0 : Nat) : Int))), (7, (.int .i64 0)), (8, (.int .i64 0)), (9, (.bool false)), (49, (.bool true))] ⟨rfl, rfl, rfl, rfl, rfl, rfl, rfl, rfl, rfl, trivial⟩ (fun τr5 => ?_)
  refine RA.ret env_ok ?_
  refine ⟨.inr rfl, [(.agg ⟨[(.int .i64 0), (.int .i64 0), (.bool false), (.int .u32 0), (.string ByteArray.empty)]⟩), (.bool false)], (resL_cons (res_cellA rfl rfl rfl get_here rfl rfl rfl) (resL_cons rfl resL_nil)), [(p, some ⟨[[(.slice (some ⟨(n2 + 1), 0, none⟩) (K + 1) 2)]], 1, 122, true⟩), ((n2 + 1), some (oPrt (insL l i0 c))), (jp, none)], (Less.of (fac (mm (fun _ => get_here) (fun _ => (get_there (by omega) get_here))) (fac (mm (fun _ => (get_there (by omega) get_here)) (fun _ => (gt2 (by omega) get_here))) (fac (mm (fun _ => (gt2 (by omega) get_here)) (fun _ => (gt3 (by omega) get_here))) fan))) (gone_of (by simp only [goneP, memP, List.cons_append, List.nil_append, true_or, or_true, true_and, and_true, or_false] <;> omega))), ⟨(n2 + 1), by omega, by omega, rfl, by rw [← hi0]⟩⟩

theorem sAddY {n : Nat} {σ : Store} (hd : Dom n σ) (p jp K : Nat) (l : List Prt) (hl : l.length = K) (hK : K ≤ 900) (hpj : p ≠ jp) (c : Prt) (g u : Nat) (hA : arL (insL l (l.findIdx (lsP c)) c) (l.findIdx (lsP c)) = some (g, u)) (hgu : g ≤ u) (hu : u < K + 1) (hsz : ∀ x ∈ l, x.data.size ≤ 6) (hcs : c.data.size ≤ 6) (hp : σ p = some ⟨[[(.slice (some ⟨jp, 0, none⟩) K 2)]], 1, 122, true⟩) (hjp : σ jp = some (oPrt l))  : CQ Try.prog noDen 30 [(Pt p 0 0), (.agg ⟨(cPrt c)⟩)] n σ (fun v n' d => ∃ jn, n ≤ jn ∧ jn < n' ∧ v = .tuple #[(.agg ⟨(cMsg (mkM c ((insL l (l.findIdx (lsP c)) c).getD g dPrt).proto (dcat ByteArray.empty (((insL l (l.findIdx (lsP c)) c).drop g).take (u + 1 - g)))))⟩), .bool true] ∧ d = [(p, some ⟨[[(.slice (some ⟨jn, 0, none⟩) (K + 1 - (u + 1 - g)) 2)]], 1, 122, true⟩), (jn, some (oPrt ((insL l (l.findIdx (lsP c)) c).take g ++ (insL l (l.findIdx (lsP c)) c).drop (u + 1)))), (jp, none)]) := by
 have lhp := hd.lt hp
 have lhjp := hd.lt hjp
 refine CQ.body (E := env) env_ok hd rfl rfl (by show _ ≤ _; exact of_decide_eq_true (by kernel_rfl)) ?_
 refine RA.seq hd ?_
 refine RA.region env_ok ?_
 refine OA.op1 (dst := (some 3)) (v := (Pt n 0 0)) (n1 := (n + 1)) (w := (n, some ⟨[(cPrt c)], 15, 54, true⟩)) rfl rfl rfl rfl (by omega) ?_
 refine OA.op1 (dst := (some 4)) (v := (.pointer (some ⟨(n + 1), 0, some 0⟩))) (n1 := (n + 2)) (w := ((n + 1), some ⟨[[(.int .i64 0), (.int .i64 0), (.bool false), (.int .u32 0), (.string ByteArray.empty)]], 5, 29, true⟩)) rfl rfl rfl rfl (by omega) ?_
 refine OA.p (some 5) (.bool false) rfl rfl rfl rfl ?_
 refine OA.nil ?_
 intro _
 refine RA.seq hd ?_
 refine RA.seq hd ?_
 refine RA.region env_ok ?_
 refine OA.p (some 14) (Pt p 0 0) rfl rfl rfl rfl ?_
 refine OA.p (some 15) (.bool false) rfl rfl rfl rfl ?_
 refine OA.nil ?_
 intro _
 refine RA.condF rfl ?_
 refine RA.skip env_ok ?_
 intro _
 refine RA.seq hd ?_
 refine RA.region env_ok ?_
 refine OA.p (some 17) (Pt p 0 0) rfl rfl rfl rfl ?_
 refine OA.p (some 18) (Pt p 0 0) rfl rfl rfl rfl ?_
 refine OA.p (some 19) (Pt p 0 0) rfl rfl rfl rfl ?_
 refine OA.p (some 20) (.slice (some ⟨jp, 0, none⟩) K 2) rfl rfl rfl (r_load1 rfl rfl rfl rfl rfl (gt2 (by omega) hp) rfl rfl) ?_
 refine OA.p (some 21) (.func (.func 72) ⟨[]⟩ ⟨[(Pt n 0 0)]⟩) rfl rfl rfl rfl ?_
 refine OA.callP (dst := (some 22)) (all := [(.slice (some ⟨jp, 0, none⟩) K 2), (.func (.func 72) ⟨[]⟩ ⟨[(Pt n 0 0)]⟩)]) (v := (.int .i64 (idxZ (lsP c) l))) (hd.of (by omega) (kb2 (by omega))) rfl rfl rfl rfl rfl rfl rfl rfl (sIdx jp K l hl (by omega) (lsP c) n (gt2 (by omega) hjp) (fun x _ => sCl x c n (get_there (by omega) get_here))) ?_
 intro n1 hn1
 refine OA.p (some 6) (.int .i64 (idxZ (lsP c) l)) rfl rfl rfl rfl ?_
 refine OA.nil ?_
 intro _
 refine RA.seq hd (RA.imp (Q := fun x τ' n' D' => x = .normal ∧ ((∃ i0 : Nat, Has τ' [(0, (Pt p 0 0)), (3, (Pt n 0 0)), (4, (.pointer (some ⟨(n + 1), 0, some 0⟩))), (6, (.int .i64 ((i0 : Nat) : Int)))] ∧ (∃ D2, Less n n' D' D2 ∧ D2 = [(n, some ⟨[(cPrt c)], 15, 54, true⟩), ((n + 1), some ⟨[[(.int .i64 0), (.int .i64 0), (.bool false), (.int .u32 0), (.string ByteArray.empty)]], 5, 29, true⟩)]) ∧ n1 ≤ n' ∧ (∀ i_ ∈ keys [(n, some ⟨[(cPrt c)], 15, 54, true⟩), ((n + 1), some ⟨[[(.int .i64 0), (.int .i64 0), (.bool false), (.int .u32 0), (.string ByteArray.empty)]], 5, 29, true⟩)], i_ < n') ∧ i0 = (l.findIdx (lsP c)) ∧ i0 ≤ K))) ?_ ?_)
 ·
  refine RA.seq hd ?_
  refine RA.region env_ok ?_
  refine OA.p (some 23) (.int .i64 (idxZ (lsP c) l)) rfl rfl rfl rfl ?_
  by_cases hc1 : (idxZ (lsP c) l) < 0
  ·
   refine OA.p (some 24) (.bool true) rfl rfl rfl (Eq.trans (r_bin rfl rfl rfl (b_lss rfl)) (dT hc1)) ?_
   refine OA.nil ?_
   intro _
   refine RA.condT rfl ?_
   refine RA.region env_ok ?_
   refine OA.p (some 25) (Pt p 0 0) rfl rfl rfl rfl ?_
   refine OA.p (some 26) (Pt p 0 0) rfl rfl rfl rfl ?_
   refine OA.p (some 27) (Pt p 0 0) rfl rfl rfl rfl ?_
   refine OA.p (some 28) (.slice (some ⟨jp, 0, none⟩) K 2) rfl rfl rfl (r_load1 rfl rfl rfl rfl rfl (gt2 (by omega) hp) rfl rfl) ?_
   refine OA.p (some 29) (.int .i64 ((K : Nat) : Int)) rfl rfl rfl rfl ?_
   refine OA.p (some 6) (.int .i64 ((K : Nat) : Int)) rfl rfl rfl rfl ?_
   refine OA.nil ?_
   exact ⟨rfl, ⟨K, ⟨rfl, rfl, rfl, rfl, trivial⟩, ⟨[(n, some ⟨[(cPrt c)], 15, 54, true⟩), ((n + 1), some ⟨[[(.int .i64 0), (.int .i64 0), (.bool false), (.int .u32 0), (.string ByteArray.empty)]], 5, 29, true⟩)], (Less.of (fac (mm (fun _ => get_here) (fun _ => (get_there (by omega) get_here))) (fac (mm (fun _ => (get_there (by omega) get_here)) (fun _ => get_here)) fan)) (gone_of (by simp only [goneP, memP, List.cons_append, List.nil_append, true_or, or_true, true_and, and_true, or_false] <;> omega))), rfl⟩, by omega, (kb2 (by omega)), ⟨(by rw [idx_neg hc1]; exact hl.symm), by omega⟩⟩⟩
  ·
   refine OA.p (some 24) (.bool false) rfl rfl rfl (Eq.trans (r_bin rfl rfl rfl (b_lss rfl)) (dF hc1)) ?_
   refine OA.nil ?_
   intro _
   refine RA.condF rfl ?_
   refine RA.skip env_ok ?_
   exact ⟨rfl, ⟨(l.findIdx (lsP c)), ⟨rfl, rfl, rfl, (congrArg (Value.int .i64) (idx_pos hc1)), trivial⟩, ⟨[(n, some ⟨[(cPrt c)], 15, 54, true⟩), ((n + 1), some ⟨[[(.int .i64 0), (.int .i64 0), (.bool false), (.int .u32 0), (.string ByteArray.empty)]], 5, 29, true⟩)], (Less.of (fac (mm (fun _ => get_here) (fun _ => (get_there (by omega) get_here))) (fac (mm (fun _ => (get_there (by omega) get_here)) (fun _ => get_here)) fan)) (gone_of (by simp only [goneP, memP, List.cons_append, List.nil_append, true_or, or_true, true_and, and_true, or_false] <;> omega))), rfl⟩, by omega, (kb2 (by omega)), ⟨rfl, by have := fi_le (p := lsP c) (l := l); omega⟩⟩⟩
 ·
  rintro _ τ2 n2 Dn2 hmn2 ⟨rfl, hSn2⟩
  rcases hSn2 with ⟨i0, hHn2, ⟨_, hLn2, rfl⟩, hn2, hKn2, hIn2⟩
  intro _
  refine RA.weaken hd hLn2 ?_
  rw [Has.eq hHn2]
  have hKn2_0 : n < n2 := hKn2 _ (by simp only [keys, List.map_cons, List.map_nil, List.mem_cons, true_or, or_true])
  have hKn2_1 : (n + 1) < n2 := hKn2 _ (by simp only [keys, List.map_cons, List.map_nil, List.mem_cons, true_or, or_true])
  clear hKn2
  obtain ⟨hi0, hi1⟩ := hIn2
  rw [← hi0] at hA
  have hseg : ∀ x ∈ (insL l i0 c), x.data.size ≤ 6 := fun x hx => (ins_mem.1 hx).elim (fun e => by rw [e]; exact hcs) (hsz x)
  refine RA.seq hd ?_
  refine RA.par (md := [some [], some [], some [], some [], some [p], some [], some [n], some [], none, some [], some [], none]) env_ok (hd.of (by omega) (kb2 (by omega))) (by kernel_rfl) ?_
  refine PQ.pure (dst := (some 30)) (v := (Pt p 0 0)) rfl rfl rfl noStore (none_ok _ _) rfl ?_
  refine PQ.pure (dst := (some 31)) (v := (Pt p 0 0)) rfl rfl rfl noStore (none_ok _ _) rfl ?_
  refine PQ.pure (dst := (some 32)) (v := (Pt p 0 0)) rfl rfl rfl noStore (none_ok _ _) rfl ?_
  refine PQ.pure (dst := (some 33)) (v := (Pt p 0 0)) rfl rfl rfl noStore (none_ok _ _) rfl ?_
  refine PQ.pure (dst := (some 34)) (v := (.slice (some ⟨jp, 0, none⟩) K 2)) rfl rfl rfl (app [(p, some ⟨[[(.slice (some ⟨jp, 0, none⟩) K 2)]], 1, 122, true⟩)] noStore) (seen_one (V := []) (D := [(n, some ⟨[(cPrt c)], 15, 54, true⟩), ((n + 1), some ⟨[[(.int .i64 0), (.int .i64 0), (.bool false), (.int .u32 0), (.string ByteArray.empty)]], 5, 29, true⟩)]) (by kernel_rfl) (gt2 (by omega) hp)) (r_load1 rfl rfl rfl rfl rfl get_here rfl rfl) ?_
  refine PQ.pure (dst := (some 35)) (v := (.int .i64 ((i0 : Nat) : Int))) rfl rfl rfl noStore (none_ok _ _) rfl ?_
  refine PQ.pure (dst := (some 36)) (v := (.agg ⟨(xRs31 c)⟩)) rfl rfl rfl (app [(n, some ⟨[(cPrt c)], 15, 54, true⟩)] noStore) (seen_one (V := []) (D := [(n, some ⟨[(cPrt c)], 15, 54, true⟩), ((n + 1), some ⟨[[(.int .i64 0), (.int .i64 0), (.bool false), (.int .u32 0), (.string ByteArray.empty)]], 5, 29, true⟩)]) (by kernel_rfl) get_here) (r_loadA rfl rfl rfl rfl get_here rfl rfl rfl) ?_
  refine PQ.op (dst := (some 37)) (v := (.slice (some ⟨n2, 0, none⟩) 1 0)) (n1 := (n2 + 1)) (d1 := [(n2, some ⟨[(xRs31 c)], 15, 54, true⟩)]) rfl rfl rfl noStore (none_ok _ _) (by kernel_rfl) (by omega) (kp1 (wr_new (by omega) (by omega))) ?_
  refine PQ.call (dst := (some 38)) (all := [(.slice (some ⟨jp, 0, none⟩) K 2), (.int .i64 ((i0 : Nat) : Int)), (.slice (some ⟨n2, 0, none⟩) 1 0)]) rfl rfl rfl rfl rfl rfl rfl rfl _ (seen_any (V := [(n2, some ⟨[(xRs31 c)], 15, 54, true⟩)]) (D := [(n, some ⟨[(cPrt c)], 15, 54, true⟩), ((n + 1), some ⟨[[(.int .i64 0), (.int .i64 0), (.bool false), (.int .u32 0), (.string ByteArray.empty)]], 5, 29, true⟩)]) (by kernel_rfl)) (CQ.imp (CQ.keys (sIns (hd.of (by omega) (kb3 (by omega))) jp n2 K i0 0 54 l c hl (by omega) (by omega) (gt3 (by omega) hjp) get_here (by omega))) ?_)
  rintro _ n3 _ ⟨hkn3, ⟨hnn, rfl, rfl⟩⟩
  have hn3 := hkn3.1
  refine ⟨hn3, (kp2 (by first | exact wr_new (by omega) (by omega) | exact wr_old [0] (by kernel_rfl) (by omega) (by omega) (fac (lo0 rfl) fan)) (by first | exact wr_new (by omega) (by omega) | exact wr_old [0] (by kernel_rfl) (by omega) (by omega) (fac (lo0 rfl) fan))), ?_⟩
  refine PQ.pure (dst := (some 39)) (v := (Pt p 0 0)) rfl rfl rfl noStore (none_ok _ _) rfl ?_
  refine PQ.pure (dst := (some 40)) (v := (Pt p 0 0)) rfl rfl rfl noStore (none_ok _ _) rfl ?_
  refine PQ.op (dst := none) (v := (.tuple #[])) (n1 := n3) (d1 := [(p, some ⟨[[(.slice (some ⟨(n2 + 1), 0, none⟩) (K + 1) 2)]], 1, 122, true⟩)]) rfl rfl rfl _ (seen_any (V := [((n2 + 1), some (oPrt (insL l i0 c))), (jp, none), (n2, some ⟨[(xRs31 c)], 15, 54, true⟩)]) (D := [(n, some ⟨[(cPrt c)], 15, 54, true⟩), ((n + 1), some ⟨[[(.int .i64 0), (.int .i64 0), (.bool false), (.int .u32 0), (.string ByteArray.empty)]], 5, 29, true⟩)]) (by kernel_rfl)) (r_store rfl rfl rfl rfl rfl rfl rfl (gt5 (by omega) hp) rfl rfl (Nat.le_of_ble_eq_true rfl) rfl) (by omega) (kp1 (wr_tight (by kernel_rfl) (by omega))) ?_
  refine PQ.done (d := [(p, some ⟨[[(.slice (some ⟨(n2 + 1), 0, none⟩) (K + 1) 2)]], 1, 122, true⟩), ((n2 + 1), some (oPrt (insL l i0 c))), (jp, none), (n2, some ⟨[(xRs31 c)], 15, 54, true⟩)]) (by kernel_rfl) ?_
  intro _
  refine RA.seq hd ?_
  refine RA.region env_ok ?_
  refine OA.p (some 42) (Pt p 0 0) rfl rfl rfl rfl ?_
  refine OA.p (some 43) (.int .i64 ((i0 : Nat) : Int)) rfl rfl rfl rfl ?_
  refine OA.callP (dst := (some 44)) (all := [(Pt p 0 0), (.int .i64 ((i0 : Nat) : Int))]) (v := (.tuple ⟨[(.int .i64 ((g : Nat) : Int)), (.int .i64 ((u : Nat) : Int)), (.bool true)]⟩)) (hd.of (by omega) (kb6 (by omega))) rfl rfl rfl rfl rfl rfl rfl rfl (PS.to (sAr p (n2 + 1) (K + 1) (insL l i0 c) (show (insL l i0 c).length = K + 1 from by rw [insL_len, hl]) (by omega) i0 (by omega) get_here (get_there (by omega) get_here)) (by rw [hA]; rfl)) ?_
  intro n4 hn4
  refine OA.p (some 41) (.tuple ⟨[(.int .i64 ((g : Nat) : Int)), (.int .i64 ((u : Nat) : Int)), (.bool true)]⟩) rfl rfl rfl rfl ?_
  refine OA.p (some 45) (.int .i64 ((g : Nat) : Int)) rfl rfl rfl rfl ?_
  refine OA.p (some 46) (.int .i64 ((u : Nat) : Int)) rfl rfl rfl rfl ?_
  refine OA.p (some 47) (.bool true) rfl rfl rfl rfl ?_
  refine OA.p (some 7) (.int .i64 ((g : Nat) : Int)) rfl rfl rfl rfl ?_
  refine OA.p (some 8) (.int .i64 ((u : Nat) : Int)) rfl rfl rfl rfl ?_
  refine OA.p (some 9) (.bool true) rfl rfl rfl rfl ?_
  refine OA.nil ?_
  intro _
  refine RA.seq hd ?_
  refine RA.seq hd ?_
  refine RA.region env_ok ?_
  refine OA.p (some 48) (.bool true) rfl rfl rfl rfl ?_
  refine OA.p (some 49) (.bool false) rfl rfl rfl rfl ?_
  refine OA.nil ?_
  intro _
  refine RA.condF rfl ?_
  refine RA.skip env_ok ?_
  intro _
  refine RA.seq hd ?_
  refine RA.par (md := [some [], some [n], some [], some [n], some [], some [n], some [], some [], some [], some [], some [], some [p], some [], none, some [], none, some [], some [], none]) env_ok (hd.of (by omega) (kb6 (by omega))) (by kernel_rfl) ?_
  refine PQ.pure (dst := (some 51)) (v := (Pt n 0 3)) rfl rfl rfl noStore (none_ok _ _) rfl ?_
  refine PQ.pure (dst := (some 52)) (v := (.int .i64 ((c.st : Nat) : Int))) rfl rfl rfl (app [(n, some ⟨[(cPrt c)], 15, 54, true⟩)] noStore) (seen_one (V := []) (D := [(p, some ⟨[[(.slice (some ⟨(n2 + 1), 0, none⟩) (K + 1) 2)]], 1, 122, true⟩), ((n2 + 1), some (oPrt (insL l i0 c))), (jp, none), (n2, some ⟨[(xRs31 c)], 15, 54, true⟩), (n, some ⟨[(cPrt c)], 15, 54, true⟩), ((n + 1), some ⟨[[(.int .i64 0), (.int .i64 0), (.bool false), (.int .u32 0), (.string ByteArray.empty)]], 5, 29, true⟩)]) (by kernel_rfl) (gt4 (by omega) get_here)) (r_load1 rfl rfl rfl rfl rfl get_here rfl rfl) ?_
  refine PQ.pure (dst := (some 53)) (v := (Pt n 0 4)) rfl rfl rfl noStore (none_ok _ _) rfl ?_
  refine PQ.pure (dst := (some 54)) (v := (.int .i64 ((c.ssn : Nat) : Int))) rfl rfl rfl (app [(n, some ⟨[(cPrt c)], 15, 54, true⟩)] noStore) (seen_one (V := []) (D := [(p, some ⟨[[(.slice (some ⟨(n2 + 1), 0, none⟩) (K + 1) 2)]], 1, 122, true⟩), ((n2 + 1), some (oPrt (insL l i0 c))), (jp, none), (n2, some ⟨[(xRs31 c)], 15, 54, true⟩), (n, some ⟨[(cPrt c)], 15, 54, true⟩), ((n + 1), some ⟨[[(.int .i64 0), (.int .i64 0), (.bool false), (.int .u32 0), (.string ByteArray.empty)]], 5, 29, true⟩)]) (by kernel_rfl) (gt4 (by omega) get_here)) (r_load1 rfl rfl rfl rfl rfl get_here rfl rfl) ?_
  refine PQ.pure (dst := (some 55)) (v := (Pt n 0 1)) rfl rfl rfl noStore (none_ok _ _) rfl ?_
  refine PQ.pure (dst := (some 56)) (v := (.int .i64 ((c.fl.val : Nat) : Int))) rfl rfl rfl (app [(n, some ⟨[(cPrt c)], 15, 54, true⟩)] noStore) (seen_one (V := []) (D := [(p, some ⟨[[(.slice (some ⟨(n2 + 1), 0, none⟩) (K + 1) 2)]], 1, 122, true⟩), ((n2 + 1), some (oPrt (insL l i0 c))), (jp, none), (n2, some ⟨[(xRs31 c)], 15, 54, true⟩), (n, some ⟨[(cPrt c)], 15, 54, true⟩), ((n + 1), some ⟨[[(.int .i64 0), (.int .i64 0), (.bool false), (.int .u32 0), (.string ByteArray.empty)]], 5, 29, true⟩)]) (by kernel_rfl) (gt4 (by omega) get_here)) (r_load1 rfl rfl rfl rfl rfl get_here rfl rfl) ?_
  refine PQ.pure (dst := (some 57)) (v := (.int .i64 (((c.fl.val / 4 % 2 * 4) : Nat) : Int))) rfl rfl rfl noStore (none_ok _ _) (Eq.trans (r_bin rfl rfl rfl (b_andN ((c.fl.val : Nat) : Int) 4 (by decide))) (by rw [and_f4 c.fl])) ?_
  by_cases hc2 : (((c.fl.val / 4 % 2 * 4) : Nat) : Int) ≠ 0
  ·
   refine PQ.pure (dst := (some 58)) (v := (.bool true)) rfl rfl rfl noStore (none_ok _ _) (Eq.trans (r_bin rfl rfl rfl (b_neq rfl)) (dT hc2)) ?_
   refine PQ.pure (dst := (some 59)) (v := (Pt p 0 0)) rfl rfl rfl noStore (none_ok _ _) rfl ?_
   refine PQ.pure (dst := (some 60)) (v := (Pt p 0 0)) rfl rfl rfl noStore (none_ok _ _) rfl ?_
   refine PQ.pure (dst := (some 61)) (v := (Pt p 0 0)) rfl rfl rfl noStore (none_ok _ _) rfl ?_
   refine PQ.pure (dst := (some 62)) (v := (.slice (some ⟨(n2 + 1), 0, none⟩) (K + 1) 2)) rfl rfl rfl (app [(p, some ⟨[[(.slice (some ⟨(n2 + 1), 0, none⟩) (K + 1) 2)]], 1, 122, true⟩)] noStore) (seen_one (V := []) (D := [(p, some ⟨[[(.slice (some ⟨(n2 + 1), 0, none⟩) (K + 1) 2)]], 1, 122, true⟩), ((n2 + 1), some (oPrt (insL l i0 c))), (jp, none), (n2, some ⟨[(xRs31 c)], 15, 54, true⟩), (n, some ⟨[(cPrt c)], 15, 54, true⟩), ((n + 1), some ⟨[[(.int .i64 0), (.int .i64 0), (.bool false), (.int .u32 0), (.string ByteArray.empty)]], 5, 29, true⟩)]) (by kernel_rfl) get_here) (r_load1 rfl rfl rfl rfl rfl get_here rfl rfl) ?_
   refine PQ.pure (dst := (some 63)) (v := (.int .i64 ((g : Nat) : Int))) rfl rfl rfl noStore (none_ok _ _) rfl ?_
   refine PQ.pure (dst := (some 64)) (v := (.pointer (some ⟨(n2 + 1), g, some 0⟩))) rfl rfl rfl _ (seen_any (V := []) (D := [(p, some ⟨[[(.slice (some ⟨(n2 + 1), 0, none⟩) (K + 1) 2)]], 1, 122, true⟩), ((n2 + 1), some (oPrt (insL l i0 c))), (jp, none), (n2, some ⟨[(xRs31 c)], 15, 54, true⟩), (n, some ⟨[(cPrt c)], 15, 54, true⟩), ((n + 1), some ⟨[[(.int .i64 0), (.int .i64 0), (.bool false), (.int .u32 0), (.string ByteArray.empty)]], 5, 29, true⟩)]) (by kernel_rfl)) (r_iaS (l := g) rfl rfl rfl rfl rfl rfl (by omega) (by omega) (get_there (by omega) get_here) rfl (by omega)) ?_
   refine PQ.pure (dst := (some 65)) (v := (.pointer (some ⟨(n2 + 1), g, some 5⟩))) rfl rfl rfl noStore (none_ok _ _) rfl ?_
   refine PQ.pure (dst := (some 66)) (v := (W ((insL l i0 c).getD g dPrt).proto)) rfl rfl rfl _ (seen_any (V := []) (D := [(p, some ⟨[[(.slice (some ⟨(n2 + 1), 0, none⟩) (K + 1) 2)]], 1, 122, true⟩), ((n2 + 1), some (oPrt (insL l i0 c))), (jp, none), (n2, some ⟨[(xRs31 c)], 15, 54, true⟩), (n, some ⟨[(cPrt c)], 15, 54, true⟩), ((n + 1), some ⟨[[(.int .i64 0), (.int .i64 0), (.bool false), (.int .u32 0), (.string ByteArray.empty)]], 5, 29, true⟩)]) (by kernel_rfl)) (r_loadF (c := cPrt) dPrt rfl rfl rfl rfl rfl (get_there (by omega) get_here) (by have := (show (insL l i0 c).length = K + 1 from by rw [insL_len, hl]); omega) rfl) ?_
   refine PQ.pure (dst := (some 67)) (v := (.agg ⟨(xRs35 c l i0 g)⟩)) rfl rfl rfl noStore (none_ok _ _) (by kernel_rfl) ?_
   refine PQ.op (dst := (some 10)) (v := (Pt n4 0 0)) (n1 := (n4 + 1)) (d1 := [(n4, some ⟨[[(.int .i64 0), (.int .i64 0), (.bool false), (.int .u32 0), (.string ByteArray.empty)]], 5, 29, true⟩)]) rfl rfl rfl noStore (none_ok _ _) rfl (by omega) (kp1 (wr_new (by omega) (by omega))) ?_
   refine PQ.op (dst := none) (v := (.tuple #[])) (n1 := (n4 + 1)) (d1 := [(n4, some ⟨[(xRs35 c l i0 g)], 5, 29, true⟩)]) rfl rfl rfl _ (seen_any (V := [(n4, some ⟨[[(.int .i64 0), (.int .i64 0), (.bool false), (.int .u32 0), (.string ByteArray.empty)]], 5, 29, true⟩)]) (D := [(p, some ⟨[[(.slice (some ⟨(n2 + 1), 0, none⟩) (K + 1) 2)]], 1, 122, true⟩), ((n2 + 1), some (oPrt (insL l i0 c))), (jp, none), (n2, some ⟨[(xRs31 c)], 15, 54, true⟩), (n, some ⟨[(cPrt c)], 15, 54, true⟩), ((n + 1), some ⟨[[(.int .i64 0), (.int .i64 0), (.bool false), (.int .u32 0), (.string ByteArray.empty)]], 5, 29, true⟩)]) (by kernel_rfl)) (r_store rfl rfl rfl rfl rfl rfl rfl get_here rfl rfl (Nat.le_of_ble_eq_true rfl) rfl) (by omega) (kp1 (wr_tight (by kernel_rfl) (by omega))) ?_
   refine PQ.done (d := [(n4, some ⟨[(xRs35 c l i0 g)], 5, 29, true⟩), (n4, some ⟨[[(.int .i64 0), (.int .i64 0), (.bool false), (.int .u32 0), (.string ByteArray.empty)]], 5, 29, true⟩)]) (by kernel_rfl) ?_
   intro _
   refine RA.weaken (D' := [(n4, some ⟨[(xRs35 c l i0 g)], 5, 29, true⟩), (p, some ⟨[[(.slice (some ⟨(n2 + 1), 0, none⟩) (K + 1) 2)]], 1, 122, true⟩), ((n2 + 1), some (oPrt (insL l i0 c))), (jp, none), (n2, some ⟨[(xRs31 c)], 15, 54, true⟩), (n, some ⟨[(cPrt c)], 15, 54, true⟩), ((n + 1), some ⟨[[(.int .i64 0), (.int .i64 0), (.bool false), (.int .u32 0), (.string ByteArray.empty)]], 5, 29, true⟩)]) hd (Less.of (fac (mm (fun _ => get_here) (fun _ => get_here)) (fac (mm (fun _ => (get_there (by omega) get_here)) (fun _ => (gt2 (by omega) get_here))) (fac (mm (fun _ => (gt2 (by omega) get_here)) (fun _ => (gt3 (by omega) get_here))) (fac (mm (fun _ => (gt3 (by omega) get_here)) (fun _ => (gt4 (by omega) get_here))) (fac (mm (fun _ => (gt4 (by omega) get_here)) (fun _ => (gt5 (by omega) get_here))) (fac (mm (fun _ => (gt5 (by omega) get_here)) (fun _ => (gt6 (by omega) get_here))) (fac (mm (fun _ => (gt6 (by omega) get_here)) (fun _ => (gt7 (by omega) get_here))) fan))))))) (gone_of (by simp only [goneP, memP, List.cons_append, List.nil_append, true_or, or_true, true_and, and_true, or_false] <;> omega))) ?_
   refine RA.rebase [(0, (Pt p 0 0)), (3, (Pt n 0 0)), (4, (.pointer (some ⟨(n + 1), 0, some 0⟩))), (6, (.int .i64 ((i0 : Nat) : Int))), (7, (.int .i64 ((g : Nat) : Int))), (8, (.int .i64 ((u : Nat) : Int))), (9, (.bool true)), (10, (Pt n4 0 0)), (49, (.bool false))] ⟨rfl, rfl, rfl, rfl, rfl, rfl, rfl, rfl, rfl, trivial⟩ (fun τr5 => ?_)
   refine RA.seq hd ?_
   refine RA.region env_ok ?_
   refine OA.p (some 11) (.slice none 0 0) rfl rfl rfl rfl ?_
   refine OA.nil ?_
   intro _
   refine RA.seq hd ?_
   refine RA.seq hd ?_
   refine RA.region env_ok ?_
   refine OA.p (some 68) (Pt p 0 0) rfl rfl rfl rfl ?_
   refine OA.p (some 69) (Pt p 0 0) rfl rfl rfl rfl ?_
   refine OA.p (some 70) (Pt p 0 0) rfl rfl rfl rfl ?_
   refine OA.p (some 71) (.slice (some ⟨(n2 + 1), 0, none⟩) (K + 1) 2) rfl rfl rfl (r_load1 rfl rfl rfl rfl rfl (get_there (by omega) get_here) rfl rfl) ?_
   refine OA.p (some 72) (.int .i64 ((g : Nat) : Int)) rfl rfl rfl rfl ?_
   refine OA.p (some 73) (.int .i64 ((u : Nat) : Int)) rfl rfl rfl rfl ?_
   refine OA.p (some 74) (.int .i64 (((u + 1) : Nat) : Int)) rfl rfl rfl (r_bin rfl rfl rfl (b_add (i64_eq (by omega)))) ?_
   refine OA.p (some 75) (.slice (some ⟨(n2 + 1), g, none⟩) ((u + 1) - g) 2) rfl rfl rfl (r_cut2 (a := g) (b := (u + 1)) rfl rfl (fun _ => rfl) (fun _ => rfl) rfl rfl rfl (bound_int (by omega)) (bound_int (by omega)) (gt2 (by omega) get_here) rfl (by omega) (by omega) (by rw [List.length_map, show (insL l i0 c).length = K + 1 from by rw [insL_len, hl]]; omega) (by omega) (by omega)) ?_
   refine OA.p (some 76) (.int .i64 ((((u + 1) - g) : Nat) : Int)) rfl rfl rfl rfl ?_
   refine OA.p (some 77) (.int .i64 0) rfl rfl rfl rfl ?_
   refine OA.nil ?_
   intro _
   refine RA.block ?_
   refine RA.ph (sz := 1) (t := 5) (by decide) ?_
   show RA _ _ _ _ _ _ _ _ [((n4 + 1), some ⟨(bc (L ByteArray.empty)), 1, 5, true⟩), (n4, some ⟨[(xRs35 c l i0 g)], 5, 29, true⟩), (p, some ⟨[[(.slice (some ⟨(n2 + 1), 0, none⟩) (K + 1) 2)]], 1, 122, true⟩), ((n2 + 1), some (oPrt (insL l i0 c))), (jp, none), (n2, some ⟨[(xRs31 c)], 15, 54, true⟩), (n, some ⟨[(cPrt c)], 15, 54, true⟩), ((n + 1), some ⟨[[(.int .i64 0), (.int .i64 0), (.bool false), (.int .u32 0), (.string ByteArray.empty)]], 5, 29, true⟩)] _
   refine RA.leT (t := 11) (v := .slice none 0 0) (v' := (.slice (some ⟨(n4 + 1), 0, none⟩) ByteArray.empty.size 2)) rfl (vle_nil _ _) ?_
   refine RA.weaken (D' := [(p, some ⟨[[(.slice (some ⟨(n2 + 1), 0, none⟩) (K + 1) 2)]], 1, 122, true⟩), ((n2 + 1), some (oPrt (insL l i0 c))), (n, some ⟨[(cPrt c)], 15, 54, true⟩), ((n + 1), some ⟨[[(.int .i64 0), (.int .i64 0), (.bool false), (.int .u32 0), (.string ByteArray.empty)]], 5, 29, true⟩), (n4, some ⟨[(xRs35 c l i0 g)], 5, 29, true⟩), ((n4 + 1), some ⟨(bc (L ByteArray.empty)), 1, 5, true⟩), (jp, none)]) hd (Less.of (fac (mm (fun _ => get_here) (fun _ => (gt2 (by omega) get_here))) (fac (mm (fun _ => (get_there (by omega) get_here)) (fun _ => (gt3 (by omega) get_here))) (fac (mm (fun _ => (gt2 (by omega) get_here)) (fun _ => (gt6 (by omega) get_here))) (fac (mm (fun _ => (gt3 (by omega) get_here)) (fun _ => (gt7 (by omega) get_here))) (fac (mm (fun _ => (gt4 (by omega) get_here)) (fun _ => (get_there (by omega) get_here))) (fac (mm (fun _ => (gt5 (by omega) get_here)) (fun _ => get_here)) (fac (mm (fun _ => (gt6 (by omega) get_here)) (fun _ => (gt4 (by omega) get_here))) fan))))))) (gone_of (by simp only [goneP, memP, List.cons_append, List.nil_append, true_or, or_true, true_and, and_true, or_false] <;> omega))) ?_
   refine RA.loop hd (fun kk_ τ n' D => (∃ k : Nat, ∃ jd : Nat, kk_ = u + 1 - g - k ∧ (n4 + 2) ≤ n' ∧ Has τ [(0, (Pt p 0 0)), (3, (Pt n 0 0)), (4, (.pointer (some ⟨(n + 1), 0, some 0⟩))), (7, (.int .i64 ((g : Nat) : Int))), (8, (.int .i64 ((u : Nat) : Int))), (10, (Pt n4 0 0)), (11, (.slice (some ⟨jd, 0, none⟩) (dcat ByteArray.empty ((((insL l i0 c).drop g).take (u + 1 - g)).take k)).size 2)), (75, (.slice (some ⟨(n2 + 1), g, none⟩) ((u + 1) - g) 2)), (76, (.int .i64 ((((u + 1) - g) : Nat) : Int))), (77, (.int .i64 ((k : Nat) : Int)))] ∧ D = [(p, some ⟨[[(.slice (some ⟨(n2 + 1), 0, none⟩) (K + 1) 2)]], 1, 122, true⟩), ((n2 + 1), some (oPrt (insL l i0 c))), (n, some ⟨[(cPrt c)], 15, 54, true⟩), ((n + 1), some ⟨[[(.int .i64 0), (.int .i64 0), (.bool false), (.int .u32 0), (.string ByteArray.empty)]], 5, 29, true⟩), (n4, some ⟨[(xRs35 c l i0 g)], 5, 29, true⟩), (jd, some ⟨(bc (L (dcat ByteArray.empty ((((insL l i0 c).drop g).take (u + 1 - g)).take k)))), 1, 5, true⟩), (jp, none)] ∧ (∀ i ∈ keys D, i < n') ∧ k ≤ u + 1 - g ∧ n4 < jd ∧ (n2 + 1) < jd)) (u + 1 - g - 0) (⟨0, (n4 + 1), rfl, by omega, ⟨rfl, rfl, rfl, rfl, rfl, rfl, (by rfl), rfl, rfl, rfl, trivial⟩, (by rfl), (kb7 (by omega)), ⟨by omega, by omega, by omega⟩⟩) ?_
   rintro kn6 τ6 n6 _ ⟨k, jd, rfl, hn6, hHn6, rfl, hKn6, hIn6⟩
   rw [Has.eq hHn6]
   have hKn6_0 : p < n6 := hKn6 _ (by simp only [keys, List.map_cons, List.map_nil, List.mem_cons, true_or, or_true])
   have hKn6_1 : (n2 + 1) < n6 := hKn6 _ (by simp only [keys, List.map_cons, List.map_nil, List.mem_cons, true_or, or_true])
   have hKn6_2 : n < n6 := hKn6 _ (by simp only [keys, List.map_cons, List.map_nil, List.mem_cons, true_or, or_true])
   have hKn6_3 : (n + 1) < n6 := hKn6 _ (by simp only [keys, List.map_cons, List.map_nil, List.mem_cons, true_or, or_true])
   have hKn6_4 : n4 < n6 := hKn6 _ (by simp only [keys, List.map_cons, List.map_nil, List.mem_cons, true_or, or_true])
   have hKn6_5 : jd < n6 := hKn6 _ (by simp only [keys, List.map_cons, List.map_nil, List.mem_cons, true_or, or_true])
   have hKn6_6 : jp < n6 := hKn6 _ (by simp only [keys, List.map_cons, List.map_nil, List.mem_cons, true_or, or_true])
   clear hKn6
   obtain ⟨hk1, hk2, hk3⟩ := hIn6
   refine RA.seq hd ?_
   refine RA.region env_ok ?_
   by_cases hc3 : ((k : Nat) : Int) < ((((u + 1) - g) : Nat) : Int)
   ·
    have hs1 := seg_le (g := g) (n := u + 1 - g) (k := k) hseg
    have hs2 := hseg _ (getD_mem (d := dPrt) (l := (insL l i0 c)) (i := g + k) (by rw [insL_len]; omega))
    refine OA.p (some 78) (.bool true) rfl rfl rfl (Eq.trans (r_bin rfl rfl rfl (b_lss rfl)) (dT hc3)) ?_
    refine OA.nil ?_
    intro _
    refine RA.seq hd ?_
    refine RA.condT rfl ?_
    refine RA.skip env_ok ?_
    intro _
    refine RA.seq hd ?_
    refine RA.block ?_
    refine RA.seq hd ?_
    refine RA.region env_ok ?_
    refine OA.p (some 79) (.pointer (some ⟨(n2 + 1), (g + k), some 0⟩)) rfl rfl rfl (r_iaS (l := k) rfl rfl rfl rfl rfl rfl (by omega) (by omega) (get_there (by omega) get_here) rfl (by omega)) ?_
    refine OA.p (some 80) (.agg ⟨(cPrt ((insL l i0 c).getD (g + k) dPrt))⟩) rfl rfl rfl (r_loadR (c := cPrt) dPrt rfl rfl rfl rfl (get_there (by omega) get_here) (by have := (show (insL l i0 c).length = K + 1 from by rw [insL_len, hl]); omega) rfl) ?_
    refine OA.op1 (dst := (some 13)) (v := (Pt n6 0 0)) (n1 := (n6 + 1)) (w := (n6, some ⟨[[(.int .i64 0), (.int .i64 0), (.int .u32 0), (.int .i64 0), (.int .i64 0), (.int .u32 0), (.string ByteArray.empty), (.int .u32 0), (.int .u32 0), (.int .i64 0), (.int .i64 0), (.slice none 0 0), (.slice none 0 0), (.slice none 0 0), (.slice none 0 0)]], 15, 54, true⟩)) rfl rfl rfl rfl (by omega) ?_
    refine OA.op1 (dst := none) (v := (.tuple #[])) (n1 := (n6 + 1)) (w := (n6, some ⟨[(cPrt ((insL l i0 c).getD (g + k) dPrt))], 15, 54, true⟩)) rfl rfl rfl (r_store rfl rfl rfl rfl rfl rfl rfl get_here rfl rfl (Nat.le_of_ble_eq_true rfl) rfl) (by omega) ?_
    refine OA.nil ?_
    intro _
    refine RA.weaken (D' := [(n6, some ⟨[(cPrt ((insL l i0 c).getD (g + k) dPrt))], 15, 54, true⟩), (p, some ⟨[[(.slice (some ⟨(n2 + 1), 0, none⟩) (K + 1) 2)]], 1, 122, true⟩), ((n2 + 1), some (oPrt (insL l i0 c))), (n, some ⟨[(cPrt c)], 15, 54, true⟩), ((n + 1), some ⟨[[(.int .i64 0), (.int .i64 0), (.bool false), (.int .u32 0), (.string ByteArray.empty)]], 5, 29, true⟩), (n4, some ⟨[(xRs35 c l i0 g)], 5, 29, true⟩), (jd, some ⟨(bc (L (dcat ByteArray.empty ((((insL l i0 c).drop g).take (u + 1 - g)).take k)))), 1, 5, true⟩), (jp, none)]) hd (Less.of (fac (mm (fun _ => get_here) (fun _ => get_here)) (fac (mm (fun _ => (get_there (by omega) get_here)) (fun _ => (gt2 (by omega) get_here))) (fac (mm (fun _ => (gt2 (by omega) get_here)) (fun _ => (gt3 (by omega) get_here))) (fac (mm (fun _ => (gt3 (by omega) get_here)) (fun _ => (gt4 (by omega) get_here))) (fac (mm (fun _ => (gt4 (by omega) get_here)) (fun _ => (gt5 (by omega) get_here))) (fac (mm (fun _ => (gt5 (by omega) get_here)) (fun _ => (gt6 (by omega) get_here))) (fac (mm (fun _ => (gt6 (by omega) get_here)) (fun _ => (gt7 (by omega) get_here))) (fac (mm (fun _ => (gt7 (by omega) get_here)) (fun _ => (gt8 (by omega) get_here))) fan)))))))) (gone_of (by simp only [goneP, memP, List.cons_append, List.nil_append, true_or, or_true, true_and, and_true, or_false] <;> omega))) ?_
    refine RA.region env_ok ?_
    refine OA.p (some 81) (.slice (some ⟨jd, 0, none⟩) (dcat ByteArray.empty ((((insL l i0 c).drop g).take (u + 1 - g)).take k)).size 2) rfl rfl rfl rfl ?_
    refine OA.p (some 82) (Pt n6 0 6) rfl rfl rfl rfl ?_
    refine OA.p (some 83) (.string ((insL l i0 c).getD (g + k) dPrt).data) rfl rfl rfl (r_load1 rfl rfl rfl rfl rfl get_here rfl rfl) ?_
    refine OA.op (dst := (some 84)) (v := (.slice (some ⟨(n6 + 1), 0, none⟩) ((dcat ByteArray.empty ((((insL l i0 c).drop g).take (u + 1 - g)).take k)) ++ ((insL l i0 c).getD (g + k) dPrt).data).size 2)) (n1 := (n6 + 2)) (d1 := [((n6 + 1), some ⟨(bc (L ((dcat ByteArray.empty ((((insL l i0 c).drop g).take (u + 1 - g)).take k)) ++ ((insL l i0 c).getD (g + k) dPrt).data))), 1, 5, true⟩), (jd, none)]) (D' := [((n6 + 1), some ⟨(bc (L ((dcat ByteArray.empty ((((insL l i0 c).drop g).take (u + 1 - g)).take k)) ++ ((insL l i0 c).getD (g + k) dPrt).data))), 1, 5, true⟩), (jd, none), (n6, some ⟨[(cPrt ((insL l i0 c).getD (g + k) dPrt))], 15, 54, true⟩), (p, some ⟨[[(.slice (some ⟨(n2 + 1), 0, none⟩) (K + 1) 2)]], 1, 122, true⟩), ((n2 + 1), some (oPrt (insL l i0 c))), (n, some ⟨[(cPrt c)], 15, 54, true⟩), ((n + 1), some ⟨[[(.int .i64 0), (.int .i64 0), (.bool false), (.int .u32 0), (.string ByteArray.empty)]], 5, 29, true⟩), (n4, some ⟨[(xRs35 c l i0 g)], 5, 29, true⟩), (jd, some ⟨(bc (L (dcat ByteArray.empty ((((insL l i0 c).drop g).take (u + 1 - g)).take k)))), 1, 5, true⟩), (jp, none)]) rfl rfl rfl (r_appS2 (d := (dcat ByteArray.empty ((((insL l i0 c).drop g).take (u + 1 - g)).take k))) (s := ((insL l i0 c).getD (g + k) dPrt).data) rfl rfl rfl rfl rfl rfl rfl rfl rfl rfl (gt6 (by omega) get_here) (by omega) (of_decide_eq_true (by kernel_rfl))) (by omega) rfl ?_
    refine OA.p (some 11) (.slice (some ⟨(n6 + 1), 0, none⟩) ((dcat ByteArray.empty ((((insL l i0 c).drop g).take (u + 1 - g)).take k)) ++ ((insL l i0 c).getD (g + k) dPrt).data).size 2) rfl rfl rfl rfl ?_
    refine OA.nil ?_
    intro _
    refine RA.weaken (D' := [((n6 + 1), some ⟨(bc (L ((dcat ByteArray.empty ((((insL l i0 c).drop g).take (u + 1 - g)).take k)) ++ ((insL l i0 c).getD (g + k) dPrt).data))), 1, 5, true⟩), (jd, none), (n6, some ⟨[(cPrt ((insL l i0 c).getD (g + k) dPrt))], 15, 54, true⟩), (p, some ⟨[[(.slice (some ⟨(n2 + 1), 0, none⟩) (K + 1) 2)]], 1, 122, true⟩), ((n2 + 1), some (oPrt (insL l i0 c))), (n, some ⟨[(cPrt c)], 15, 54, true⟩), ((n + 1), some ⟨[[(.int .i64 0), (.int .i64 0), (.bool false), (.int .u32 0), (.string ByteArray.empty)]], 5, 29, true⟩), (n4, some ⟨[(xRs35 c l i0 g)], 5, 29, true⟩), (jp, none)]) hd (Less.of (fac (mm (fun _ => get_here) (fun _ => get_here)) (fac (mm (fun _ => (get_there (by omega) get_here)) (fun _ => (get_there (by omega) get_here))) (fac (mm (fun _ => (gt2 (by omega) get_here)) (fun _ => (gt2 (by omega) get_here))) (fac (mm (fun _ => (gt3 (by omega) get_here)) (fun _ => (gt3 (by omega) get_here))) (fac (mm (fun _ => (gt4 (by omega) get_here)) (fun _ => (gt4 (by omega) get_here))) (fac (mm (fun _ => (gt5 (by omega) get_here)) (fun _ => (gt5 (by omega) get_here))) (fac (mm (fun _ => (gt6 (by omega) get_here)) (fun _ => (gt6 (by omega) get_here))) (fac (mm (fun _ => (gt7 (by omega) get_here)) (fun _ => (gt7 (by omega) get_here))) (fac (mm (fun _ => (gt8 (by omega) get_here)) (fun _ => (gt9 (by omega) get_here))) fan))))))))) (gone_of (by simp only [goneP, memP, List.cons_append, List.nil_append, true_or, or_true, true_and, and_true, or_false] <;> omega))) ?_
    refine RA.region env_ok ?_
    refine OA.p (some 85) (.int .i64 (((k + 1) : Nat) : Int)) rfl rfl rfl (r_bin rfl rfl rfl (b_add (i64_eq (by omega)))) ?_
    refine OA.p (some 77) (.int .i64 (((k + 1) : Nat) : Int)) rfl rfl rfl rfl ?_
    refine OA.nil ?_
    refine ⟨u + 1 - g - (k + 1), by omega, [(p, some ⟨[[(.slice (some ⟨(n2 + 1), 0, none⟩) (K + 1) 2)]], 1, 122, true⟩), ((n2 + 1), some (oPrt (insL l i0 c))), (n, some ⟨[(cPrt c)], 15, 54, true⟩), ((n + 1), some ⟨[[(.int .i64 0), (.int .i64 0), (.bool false), (.int .u32 0), (.string ByteArray.empty)]], 5, 29, true⟩), (n4, some ⟨[(xRs35 c l i0 g)], 5, 29, true⟩), ((n6 + 1), some ⟨(bc (L ((dcat ByteArray.empty ((((insL l i0 c).drop g).take (u + 1 - g)).take k)) ++ ((insL l i0 c).getD (g + k) dPrt).data))), 1, 5, true⟩), (jp, none)], (Less.of (fac (mm (fun _ => get_here) (fun _ => (gt3 (by omega) get_here))) (fac (mm (fun _ => (get_there (by omega) get_here)) (fun _ => (gt4 (by omega) get_here))) (fac (mm (fun _ => (gt2 (by omega) get_here)) (fun _ => (gt5 (by omega) get_here))) (fac (mm (fun _ => (gt3 (by omega) get_here)) (fun _ => (gt6 (by omega) get_here))) (fac (mm (fun _ => (gt4 (by omega) get_here)) (fun _ => (gt7 (by omega) get_here))) (fac (mm (fun _ => (gt5 (by omega) get_here)) (fun _ => get_here)) (fac (mm (fun _ => (gt6 (by omega) get_here)) (fun _ => (gt8 (by omega) get_here))) fan))))))) (gone_of (by simp only [goneP, memP, List.cons_append, List.nil_append, true_or, or_true, true_and, and_true, or_false] <;> omega))), ⟨(k + 1), (n6 + 1), rfl, by omega, ⟨rfl, rfl, rfl, rfl, rfl, rfl, (by rw [dcat_snoc (by omega) (by rw [insL_len]; omega)] <;> rfl), rfl, rfl, rfl, trivial⟩, (by rw [dcat_snoc (by omega) (by rw [insL_len]; omega)]), (kb7 (by omega)), ⟨by omega, by omega, by omega⟩⟩⟩
   ·
    refine OA.p (some 78) (.bool false) rfl rfl rfl (Eq.trans (r_bin rfl rfl rfl (b_lss rfl)) (dF hc3)) ?_
    refine OA.nil ?_
    intro _
    refine RA.seq hd ?_
    refine RA.condF rfl ?_
    refine RA.exit env_ok ?_
    intro _
    refine RA.seq hd ?_
    refine RA.region env_ok ?_
    refine OA.p (some 86) (.slice (some ⟨jd, 0, none⟩) (dcat ByteArray.empty ((((insL l i0 c).drop g).take (u + 1 - g)).take k)).size 2) rfl rfl rfl rfl ?_
    refine OA.p (some 87) (.string (dcat ByteArray.empty ((((insL l i0 c).drop g).take (u + 1 - g)).take k))) rfl rfl rfl (r_b2sL (d := (dcat ByteArray.empty ((((insL l i0 c).drop g).take (u + 1 - g)).take k))) rfl rfl rfl rfl rfl rfl rfl rfl (gt5 (by omega) get_here)) ?_
    refine OA.p (some 88) (Pt n4 0 4) rfl rfl rfl rfl ?_
    refine OA.op1 (dst := none) (v := (.tuple #[])) (n1 := n6) (w := (n4, some ⟨[[(.int .i64 ((c.st : Nat) : Int)), (.int .i64 ((c.ssn : Nat) : Int)), (.bool true), (W ((insL l i0 c).getD g dPrt).proto), (.string (dcat ByteArray.empty ((((insL l i0 c).drop g).take (u + 1 - g)).take k)))]], 5, 29, true⟩)) rfl rfl rfl (r_store rfl rfl rfl rfl rfl rfl rfl (gt4 (by omega) get_here) rfl rfl (Nat.le_of_ble_eq_true rfl) rfl) (by omega) ?_
    refine OA.nil ?_
    intro _
    refine RA.weaken (D' := [(n4, some ⟨[[(.int .i64 ((c.st : Nat) : Int)), (.int .i64 ((c.ssn : Nat) : Int)), (.bool true), (W ((insL l i0 c).getD g dPrt).proto), (.string (dcat ByteArray.empty ((((insL l i0 c).drop g).take (u + 1 - g)).take k)))]], 5, 29, true⟩), (p, some ⟨[[(.slice (some ⟨(n2 + 1), 0, none⟩) (K + 1) 2)]], 1, 122, true⟩), ((n2 + 1), some (oPrt (insL l i0 c))), (n, some ⟨[(cPrt c)], 15, 54, true⟩), ((n + 1), some ⟨[[(.int .i64 0), (.int .i64 0), (.bool false), (.int .u32 0), (.string ByteArray.empty)]], 5, 29, true⟩), (jd, some ⟨(bc (L (dcat ByteArray.empty ((((insL l i0 c).drop g).take (u + 1 - g)).take k)))), 1, 5, true⟩), (jp, none)]) hd (Less.of (fac (mm (fun _ => get_here) (fun _ => get_here)) (fac (mm (fun _ => (get_there (by omega) get_here)) (fun _ => (get_there (by omega) get_here))) (fac (mm (fun _ => (gt2 (by omega) get_here)) (fun _ => (gt2 (by omega) get_here))) (fac (mm (fun _ => (gt3 (by omega) get_here)) (fun _ => (gt3 (by omega) get_here))) (fac (mm (fun _ => (gt4 (by omega) get_here)) (fun _ => (gt4 (by omega) get_here))) (fac (mm (fun _ => (gt5 (by omega) get_here)) (fun _ => (gt6 (by omega) get_here))) (fac (mm (fun _ => (gt6 (by omega) get_here)) (fun _ => (gt7 (by omega) get_here))) fan))))))) (gone_of (by simp only [goneP, memP, List.cons_append, List.nil_append, true_or, or_true, true_and, and_true, or_false] <;> omega))) ?_
    refine RA.seq hd ?_
    refine RA.seq hd ?_
    refine RA.region env_ok ?_
    refine OA.p (some 89) (Pt n4 0 2) rfl rfl rfl rfl ?_
    refine OA.p (some 90) (.bool true) rfl rfl rfl (r_load1 rfl rfl rfl rfl rfl get_here rfl rfl) ?_
    refine OA.nil ?_
    intro _
    refine RA.condT rfl ?_
    refine RA.region env_ok ?_
    refine OA.p (some 91) (Pt n4 0 1) rfl rfl rfl rfl ?_
    refine OA.op1 (dst := none) (v := (.tuple #[])) (n1 := n6) (w := (n4, some ⟨[(xRs33 c l i0 g u k)], 5, 29, true⟩)) rfl rfl rfl (r_store rfl rfl rfl rfl rfl rfl rfl get_here rfl rfl (Nat.le_of_ble_eq_true rfl) rfl) (by omega) ?_
    refine OA.nil ?_
    intro _
    refine RA.weaken (D' := [(n4, some ⟨[(xRs33 c l i0 g u k)], 5, 29, true⟩), (p, some ⟨[[(.slice (some ⟨(n2 + 1), 0, none⟩) (K + 1) 2)]], 1, 122, true⟩), ((n2 + 1), some (oPrt (insL l i0 c))), (n, some ⟨[(cPrt c)], 15, 54, true⟩), ((n + 1), some ⟨[[(.int .i64 0), (.int .i64 0), (.bool false), (.int .u32 0), (.string ByteArray.empty)]], 5, 29, true⟩), (jd, some ⟨(bc (L (dcat ByteArray.empty ((((insL l i0 c).drop g).take (u + 1 - g)).take k)))), 1, 5, true⟩), (jp, none)]) hd (Less.of (fac (mm (fun _ => get_here) (fun _ => get_here)) (fac (mm (fun _ => (get_there (by omega) get_here)) (fun _ => (gt2 (by omega) get_here))) (fac (mm (fun _ => (gt2 (by omega) get_here)) (fun _ => (gt3 (by omega) get_here))) (fac (mm (fun _ => (gt3 (by omega) get_here)) (fun _ => (gt4 (by omega) get_here))) (fac (mm (fun _ => (gt4 (by omega) get_here)) (fun _ => (gt5 (by omega) get_here))) (fac (mm (fun _ => (gt5 (by omega) get_here)) (fun _ => (gt6 (by omega) get_here))) (fac (mm (fun _ => (gt6 (by omega) get_here)) (fun _ => (gt7 (by omega) get_here))) fan))))))) (gone_of (by simp only [goneP, memP, List.cons_append, List.nil_append, true_or, or_true, true_and, and_true, or_false] <;> omega))) ?_
    refine RA.seq hd ?_
    refine RA.region env_ok ?_
    refine OA.p (some 92) (Pt p 0 0) rfl rfl rfl rfl ?_
    refine OA.p (some 93) (Pt p 0 0) rfl rfl rfl rfl ?_
    refine OA.p (some 94) (Pt p 0 0) rfl rfl rfl rfl ?_
    refine OA.p (some 95) (Pt p 0 0) rfl rfl rfl rfl ?_
    refine OA.p (some 96) (.slice (some ⟨(n2 + 1), 0, none⟩) (K + 1) 2) rfl rfl rfl (r_load1 rfl rfl rfl rfl rfl (get_there (by omega) get_here) rfl rfl) ?_
    refine OA.p (some 97) (.int .i64 ((g : Nat) : Int)) rfl rfl rfl rfl ?_
    refine OA.p (some 98) (.int .i64 ((u : Nat) : Int)) rfl rfl rfl rfl ?_
    refine OA.p (some 99) (.int .i64 (((u + 1) : Nat) : Int)) rfl rfl rfl (r_bin rfl rfl rfl (b_add (i64_eq (by omega)))) ?_
    refine OA.call (dst := (some 100)) (all := [(.slice (some ⟨(n2 + 1), 0, none⟩) (K + 1) 2), (.int .i64 ((g : Nat) : Int)), (.int .i64 (((u + 1) : Nat) : Int))]) rfl rfl rfl rfl rfl rfl rfl rfl (CQ.imp (sDel (hd.of (by omega) (kb7 (by omega))) (n2 + 1) (K + 1) g (u + 1) (insL l i0 c) (show (insL l i0 c).length = K + 1 from by rw [insL_len, hl]) (by omega) (by omega) (by omega) (gt2 (by omega) get_here)) ?_)
    rintro _ n7 _ ⟨rfl, rfl⟩ hn7
    refine OA.app1 ?_
    refine OA.p (some 101) (Pt p 0 0) rfl rfl rfl rfl ?_
    refine OA.p (some 102) (Pt p 0 0) rfl rfl rfl rfl ?_
    refine OA.op1 (dst := none) (v := (.tuple #[])) (n1 := n7) (w := (p, some ⟨[[(.slice (some ⟨(n2 + 1), 0, none⟩) (K + 1 - (u + 1 - g)) 2)]], 1, 122, true⟩)) rfl rfl rfl (r_store rfl rfl rfl rfl rfl rfl rfl (gt2 (by omega) get_here) rfl rfl (Nat.le_of_ble_eq_true rfl) rfl) (by omega) ?_
    refine OA.nil ?_
    intro _
    refine RA.weaken (D' := [(p, some ⟨[[(.slice (some ⟨(n2 + 1), 0, none⟩) (K + 1 - (u + 1 - g)) 2)]], 1, 122, true⟩), ((n2 + 1), some (oPrt ((insL l i0 c).take g ++ (insL l i0 c).drop (u + 1)))), (n4, some ⟨[(xRs33 c l i0 g u k)], 5, 29, true⟩), (n, some ⟨[(cPrt c)], 15, 54, true⟩), ((n + 1), some ⟨[[(.int .i64 0), (.int .i64 0), (.bool false), (.int .u32 0), (.string ByteArray.empty)]], 5, 29, true⟩), (jd, some ⟨(bc (L (dcat ByteArray.empty ((((insL l i0 c).drop g).take (u + 1 - g)).take k)))), 1, 5, true⟩), (jp, none)]) hd (Less.of (fac (mm (fun _ => get_here) (fun _ => get_here)) (fac (mm (fun _ => (get_there (by omega) get_here)) (fun _ => (get_there (by omega) get_here))) (fac (mm (fun _ => (gt2 (by omega) get_here)) (fun _ => (gt2 (by omega) get_here))) (fac (mm (fun _ => (gt3 (by omega) get_here)) (fun _ => (gt5 (by omega) get_here))) (fac (mm (fun _ => (gt4 (by omega) get_here)) (fun _ => (gt6 (by omega) get_here))) (fac (mm (fun _ => (gt5 (by omega) get_here)) (fun _ => (gt7 (by omega) get_here))) (fac (mm (fun _ => (gt6 (by omega) get_here)) (fun _ => (gt8 (by omega) get_here))) fan))))))) (gone_of (by simp only [goneP, memP, List.cons_append, List.nil_append, true_or, or_true, true_and, and_true, or_false] <;> omega))) ?_
    refine RA.seq hd ?_
    refine RA.region env_ok ?_
    refine OA.p (some 103) (.agg ⟨(xRs33 c l i0 g u k)⟩) rfl rfl rfl (r_loadA rfl rfl rfl rfl (gt2 (by omega) get_here) rfl rfl rfl) ?_
    refine OA.op1 (dst := none) (v := (.tuple #[])) (n1 := n7) (w := ((n + 1), some ⟨[(xRs33 c l i0 g u k)], 5, 29, true⟩)) rfl rfl rfl (r_store rfl rfl rfl rfl rfl rfl rfl (gt4 (by omega) get_here) rfl rfl (Nat.le_of_ble_eq_true rfl) rfl) (by omega) ?_
    refine OA.p (some 5) (.bool true) rfl rfl rfl rfl ?_
    refine OA.nil ?_
    intro _
    refine RA.weaken (D' := [((n + 1), some ⟨[(xRs33 c l i0 g u k)], 5, 29, true⟩), (p, some ⟨[[(.slice (some ⟨(n2 + 1), 0, none⟩) (K + 1 - (u + 1 - g)) 2)]], 1, 122, true⟩), ((n2 + 1), some (oPrt ((insL l i0 c).take g ++ (insL l i0 c).drop (u + 1)))), (n4, some ⟨[(xRs33 c l i0 g u k)], 5, 29, true⟩), (n, some ⟨[(cPrt c)], 15, 54, true⟩), (jd, some ⟨(bc (L (dcat ByteArray.empty ((((insL l i0 c).drop g).take (u + 1 - g)).take k)))), 1, 5, true⟩), (jp, none)]) hd (Less.of (fac (mm (fun _ => get_here) (fun _ => get_here)) (fac (mm (fun _ => (get_there (by omega) get_here)) (fun _ => (get_there (by omega) get_here))) (fac (mm (fun _ => (gt2 (by omega) get_here)) (fun _ => (gt2 (by omega) get_here))) (fac (mm (fun _ => (gt3 (by omega) get_here)) (fun _ => (gt3 (by omega) get_here))) (fac (mm (fun _ => (gt4 (by omega) get_here)) (fun _ => (gt4 (by omega) get_here))) (fac (mm (fun _ => (gt5 (by omega) get_here)) (fun _ => (gt6 (by omega) get_here))) (fac (mm (fun _ => (gt6 (by omega) get_here)) (fun _ => (gt7 (by omega) get_here))) fan))))))) (gone_of (by simp only [goneP, memP, List.cons_append, List.nil_append, true_or, or_true, true_and, and_true, or_false] <;> omega))) ?_
    refine RA.ret env_ok ?_
    refine ⟨.inr rfl, [(.agg ⟨(xRs33 c l i0 g u k)⟩), (.bool true)], (resL_cons (res_cellA rfl rfl rfl get_here rfl rfl rfl) (resL_cons rfl resL_nil)), [(p, some ⟨[[(.slice (some ⟨(n2 + 1), 0, none⟩) (K + 1 - (u + 1 - g)) 2)]], 1, 122, true⟩), ((n2 + 1), some (oPrt ((insL l i0 c).take g ++ (insL l i0 c).drop (u + 1)))), (jp, none)], (Less.of (fac (mm (fun _ => get_here) (fun _ => (get_there (by omega) get_here))) (fac (mm (fun _ => (get_there (by omega) get_here)) (fun _ => (gt2 (by omega) get_here))) (fac (mm (fun _ => (gt2 (by omega) get_here)) (fun _ => (gt6 (by omega) get_here))) fan))) (gone_of (by simp only [goneP, memP, List.cons_append, List.nil_append, true_or, or_true, true_and, and_true, or_false] <;> omega))), ⟨(n2 + 1), by omega, by omega, by rw [← hi0, show mkM c ((insL l i0 c).getD g dPrt).proto (dcat ByteArray.empty (((insL l i0 c).drop g).take (u + 1 - g))) = _ from if_pos (by omega), ← (show (((insL l i0 c).drop g).take (u + 1 - g)).take k = (((insL l i0 c).drop g).take (u + 1 - g)) from List.take_of_length_le (by rw [List.length_take]; omega))] <;> rfl, by rw [← hi0]⟩⟩
  ·
   refine PQ.pure (dst := (some 58)) (v := (.bool false)) rfl rfl rfl noStore (none_ok _ _) (Eq.trans (r_bin rfl rfl rfl (b_neq rfl)) (dF hc2)) ?_
   refine PQ.pure (dst := (some 59)) (v := (Pt p 0 0)) rfl rfl rfl noStore (none_ok _ _) rfl ?_
   refine PQ.pure (dst := (some 60)) (v := (Pt p 0 0)) rfl rfl rfl noStore (none_ok _ _) rfl ?_
   refine PQ.pure (dst := (some 61)) (v := (Pt p 0 0)) rfl rfl rfl noStore (none_ok _ _) rfl ?_
   refine PQ.pure (dst := (some 62)) (v := (.slice (some ⟨(n2 + 1), 0, none⟩) (K + 1) 2)) rfl rfl rfl (app [(p, some ⟨[[(.slice (some ⟨(n2 + 1), 0, none⟩) (K + 1) 2)]], 1, 122, true⟩)] noStore) (seen_one (V := []) (D := [(p, some ⟨[[(.slice (some ⟨(n2 + 1), 0, none⟩) (K + 1) 2)]], 1, 122, true⟩), ((n2 + 1), some (oPrt (insL l i0 c))), (jp, none), (n2, some ⟨[(xRs31 c)], 15, 54, true⟩), (n, some ⟨[(cPrt c)], 15, 54, true⟩), ((n + 1), some ⟨[[(.int .i64 0), (.int .i64 0), (.bool false), (.int .u32 0), (.string ByteArray.empty)]], 5, 29, true⟩)]) (by kernel_rfl) get_here) (r_load1 rfl rfl rfl rfl rfl get_here rfl rfl) ?_
   refine PQ.pure (dst := (some 63)) (v := (.int .i64 ((g : Nat) : Int))) rfl rfl rfl noStore (none_ok _ _) rfl ?_
   refine PQ.pure (dst := (some 64)) (v := (.pointer (some ⟨(n2 + 1), g, some 0⟩))) rfl rfl rfl _ (seen_any (V := []) (D := [(p, some ⟨[[(.slice (some ⟨(n2 + 1), 0, none⟩) (K + 1) 2)]], 1, 122, true⟩), ((n2 + 1), some (oPrt (insL l i0 c))), (jp, none), (n2, some ⟨[(xRs31 c)], 15, 54, true⟩), (n, some ⟨[(cPrt c)], 15, 54, true⟩), ((n + 1), some ⟨[[(.int .i64 0), (.int .i64 0), (.bool false), (.int .u32 0), (.string ByteArray.empty)]], 5, 29, true⟩)]) (by kernel_rfl)) (r_iaS (l := g) rfl rfl rfl rfl rfl rfl (by omega) (by omega) (get_there (by omega) get_here) rfl (by omega)) ?_
   refine PQ.pure (dst := (some 65)) (v := (.pointer (some ⟨(n2 + 1), g, some 5⟩))) rfl rfl rfl noStore (none_ok _ _) rfl ?_
   refine PQ.pure (dst := (some 66)) (v := (W ((insL l i0 c).getD g dPrt).proto)) rfl rfl rfl _ (seen_any (V := []) (D := [(p, some ⟨[[(.slice (some ⟨(n2 + 1), 0, none⟩) (K + 1) 2)]], 1, 122, true⟩), ((n2 + 1), some (oPrt (insL l i0 c))), (jp, none), (n2, some ⟨[(xRs31 c)], 15, 54, true⟩), (n, some ⟨[(cPrt c)], 15, 54, true⟩), ((n + 1), some ⟨[[(.int .i64 0), (.int .i64 0), (.bool false), (.int .u32 0), (.string ByteArray.empty)]], 5, 29, true⟩)]) (by kernel_rfl)) (r_loadF (c := cPrt) dPrt rfl rfl rfl rfl rfl (get_there (by omega) get_here) (by have := (show (insL l i0 c).length = K + 1 from by rw [insL_len, hl]); omega) rfl) ?_
   refine PQ.pure (dst := (some 67)) (v := (.agg ⟨(xRs34 c l i0 g)⟩)) rfl rfl rfl noStore (none_ok _ _) (by kernel_rfl) ?_
   refine PQ.op (dst := (some 10)) (v := (Pt n4 0 0)) (n1 := (n4 + 1)) (d1 := [(n4, some ⟨[[(.int .i64 0), (.int .i64 0), (.bool false), (.int .u32 0), (.string ByteArray.empty)]], 5, 29, true⟩)]) rfl rfl rfl noStore (none_ok _ _) rfl (by omega) (kp1 (wr_new (by omega) (by omega))) ?_
   refine PQ.op (dst := none) (v := (.tuple #[])) (n1 := (n4 + 1)) (d1 := [(n4, some ⟨[(xRs34 c l i0 g)], 5, 29, true⟩)]) rfl rfl rfl _ (seen_any (V := [(n4, some ⟨[[(.int .i64 0), (.int .i64 0), (.bool false), (.int .u32 0), (.string ByteArray.empty)]], 5, 29, true⟩)]) (D := [(p, some ⟨[[(.slice (some ⟨(n2 + 1), 0, none⟩) (K + 1) 2)]], 1, 122, true⟩), ((n2 + 1), some (oPrt (insL l i0 c))), (jp, none), (n2, some ⟨[(xRs31 c)], 15, 54, true⟩), (n, some ⟨[(cPrt c)], 15, 54, true⟩), ((n + 1), some ⟨[[(.int .i64 0), (.int .i64 0), (.bool false), (.int .u32 0), (.string ByteArray.empty)]], 5, 29, true⟩)]) (by kernel_rfl)) (r_store rfl rfl rfl rfl rfl rfl rfl get_here rfl rfl (Nat.le_of_ble_eq_true rfl) rfl) (by omega) (kp1 (wr_tight (by kernel_rfl) (by omega))) ?_
   refine PQ.done (d := [(n4, some ⟨[(xRs34 c l i0 g)], 5, 29, true⟩), (n4, some ⟨[[(.int .i64 0), (.int .i64 0), (.bool false), (.int .u32 0), (.string ByteArray.empty)]], 5, 29, true⟩)]) (by kernel_rfl) ?_
   intro _
   refine RA.weaken (D' := [(n4, some ⟨[(xRs34 c l i0 g)], 5, 29, true⟩), (p, some ⟨[[(.slice (some ⟨(n2 + 1), 0, none⟩) (K + 1) 2)]], 1, 122, true⟩), ((n2 + 1), some (oPrt (insL l i0 c))), (jp, none), (n2, some ⟨[(xRs31 c)], 15, 54, true⟩), (n, some ⟨[(cPrt c)], 15, 54, true⟩), ((n + 1), some ⟨[[(.int .i64 0), (.int .i64 0), (.bool false), (.int .u32 0), (.string ByteArray.empty)]], 5, 29, true⟩)]) hd (Less.of (fac (mm (fun _ => get_here) (fun _ => get_here)) (fac (mm (fun _ => (get_there (by omega) get_here)) (fun _ => (gt2 (by omega) get_here))) (fac (mm (fun _ => (gt2 (by omega) get_here)) (fun _ => (gt3 (by omega) get_here))) (fac (mm (fun _ => (gt3 (by omega) get_here)) (fun _ => (gt4 (by omega) get_here))) (fac (mm (fun _ => (gt4 (by omega) get_here)) (fun _ => (gt5 (by omega) get_here))) (fac (mm (fun _ => (gt5 (by omega) get_here)) (fun _ => (gt6 (by omega) get_here))) (fac (mm (fun _ => (gt6 (by omega) get_here)) (fun _ => (gt7 (by omega) get_here))) fan))))))) (gone_of (by simp only [goneP, memP, List.cons_append, List.nil_append, true_or, or_true, true_and, and_true, or_false] <;> omega))) ?_
   refine RA.rebase [(0, (Pt p 0 0)), (3, (Pt n 0 0)), (4, (.pointer (some ⟨(n + 1), 0, some 0⟩))), (6, (.int .i64 ((i0 : Nat) : Int))), (7, (.int .i64 ((g : Nat) : Int))), (8, (.int .i64 ((u : Nat) : Int))), (9, (.bool true)), (10, (Pt n4 0 0)), (49, (.bool false))] ⟨rfl, rfl, rfl, rfl, rfl, rfl, rfl, rfl, rfl, trivial⟩ (fun τr8 => ?_)
   refine RA.seq hd ?_
   refine RA.region env_ok ?_
   refine OA.p (some 11) (.slice none 0 0) rfl rfl rfl rfl ?_
   refine OA.nil ?_
   intro _
   refine RA.seq hd ?_
   refine RA.seq hd ?_
   refine RA.region env_ok ?_
   refine OA.p (some 68) (Pt p 0 0) rfl rfl rfl rfl ?_
   refine OA.p (some 69) (Pt p 0 0) rfl rfl rfl rfl ?_
   refine OA.p (some 70) (Pt p 0 0) rfl rfl rfl rfl ?_
   refine OA.p (some 71) (.slice (some ⟨(n2 + 1), 0, none⟩) (K + 1) 2) rfl rfl rfl (r_load1 rfl rfl rfl rfl rfl (get_there (by omega) get_here) rfl rfl) ?_
   refine OA.p (some 72) (.int .i64 ((g : Nat) : Int)) rfl rfl rfl rfl ?_
   refine OA.p (some 73) (.int .i64 ((u : Nat) : Int)) rfl rfl rfl rfl ?_
   refine OA.p (some 74) (.int .i64 (((u + 1) : Nat) : Int)) rfl rfl rfl (r_bin rfl rfl rfl (b_add (i64_eq (by omega)))) ?_
   refine OA.p (some 75) (.slice (some ⟨(n2 + 1), g, none⟩) ((u + 1) - g) 2) rfl rfl rfl (r_cut2 (a := g) (b := (u + 1)) rfl rfl (fun _ => rfl) (fun _ => rfl) rfl rfl rfl (bound_int (by omega)) (bound_int (by omega)) (gt2 (by omega) get_here) rfl (by omega) (by omega) (by rw [List.length_map, show (insL l i0 c).length = K + 1 from by rw [insL_len, hl]]; omega) (by omega) (by omega)) ?_
   refine OA.p (some 76) (.int .i64 ((((u + 1) - g) : Nat) : Int)) rfl rfl rfl rfl ?_
   refine OA.p (some 77) (.int .i64 0) rfl rfl rfl rfl ?_
   refine OA.nil ?_
   intro _
   refine RA.block ?_
   refine RA.ph (sz := 1) (t := 5) (by decide) ?_
   show RA _ _ _ _ _ _ _ _ [((n4 + 1), some ⟨(bc (L ByteArray.empty)), 1, 5, true⟩), (n4, some ⟨[(xRs34 c l i0 g)], 5, 29, true⟩), (p, some ⟨[[(.slice (some ⟨(n2 + 1), 0, none⟩) (K + 1) 2)]], 1, 122, true⟩), ((n2 + 1), some (oPrt (insL l i0 c))), (jp, none), (n2, some ⟨[(xRs31 c)], 15, 54, true⟩), (n, some ⟨[(cPrt c)], 15, 54, true⟩), ((n + 1), some ⟨[[(.int .i64 0), (.int .i64 0), (.bool false), (.int .u32 0), (.string ByteArray.empty)]], 5, 29, true⟩)] _
   refine RA.leT (t := 11) (v := .slice none 0 0) (v' := (.slice (some ⟨(n4 + 1), 0, none⟩) ByteArray.empty.size 2)) rfl (vle_nil _ _) ?_
   refine RA.weaken (D' := [(p, some ⟨[[(.slice (some ⟨(n2 + 1), 0, none⟩) (K + 1) 2)]], 1, 122, true⟩), ((n2 + 1), some (oPrt (insL l i0 c))), (n, some ⟨[(cPrt c)], 15, 54, true⟩), ((n + 1), some ⟨[[(.int .i64 0), (.int .i64 0), (.bool false), (.int .u32 0), (.string ByteArray.empty)]], 5, 29, true⟩), (n4, some ⟨[(xRs34 c l i0 g)], 5, 29, true⟩), ((n4 + 1), some ⟨(bc (L ByteArray.empty)), 1, 5, true⟩), (jp, none)]) hd (Less.of (fac (mm (fun _ => get_here) (fun _ => (gt2 (by omega) get_here))) (fac (mm (fun _ => (get_there (by omega) get_here)) (fun _ => (gt3 (by omega) get_here))) (fac (mm (fun _ => (gt2 (by omega) get_here)) (fun _ => (gt6 (by omega) get_here))) (fac (mm (fun _ => (gt3 (by omega) get_here)) (fun _ => (gt7 (by omega) get_here))) (fac (mm (fun _ => (gt4 (by omega) get_here)) (fun _ => (get_there (by omega) get_here))) (fac (mm (fun _ => (gt5 (by omega) get_here)) (fun _ => get_here)) (fac (mm (fun _ => (gt6 (by omega) get_here)) (fun _ => (gt4 (by omega) get_here))) fan))))))) (gone_of (by simp only [goneP, memP, List.cons_append, List.nil_append, true_or, or_true, true_and, and_true, or_false] <;> omega))) ?_
   refine RA.loop hd (fun kk_ τ n' D => (∃ k : Nat, ∃ jd : Nat, kk_ = u + 1 - g - k ∧ (n4 + 2) ≤ n' ∧ Has τ [(0, (Pt p 0 0)), (3, (Pt n 0 0)), (4, (.pointer (some ⟨(n + 1), 0, some 0⟩))), (7, (.int .i64 ((g : Nat) : Int))), (8, (.int .i64 ((u : Nat) : Int))), (10, (Pt n4 0 0)), (11, (.slice (some ⟨jd, 0, none⟩) (dcat ByteArray.empty ((((insL l i0 c).drop g).take (u + 1 - g)).take k)).size 2)), (75, (.slice (some ⟨(n2 + 1), g, none⟩) ((u + 1) - g) 2)), (76, (.int .i64 ((((u + 1) - g) : Nat) : Int))), (77, (.int .i64 ((k : Nat) : Int)))] ∧ D = [(p, some ⟨[[(.slice (some ⟨(n2 + 1), 0, none⟩) (K + 1) 2)]], 1, 122, true⟩), ((n2 + 1), some (oPrt (insL l i0 c))), (n, some ⟨[(cPrt c)], 15, 54, true⟩), ((n + 1), some ⟨[[(.int .i64 0), (.int .i64 0), (.bool false), (.int .u32 0), (.string ByteArray.empty)]], 5, 29, true⟩), (n4, some ⟨[(xRs34 c l i0 g)], 5, 29, true⟩), (jd, some ⟨(bc (L (dcat ByteArray.empty ((((insL l i0 c).drop g).take (u + 1 - g)).take k)))), 1, 5, true⟩), (jp, none)] ∧ (∀ i ∈ keys D, i < n') ∧ k ≤ u + 1 - g ∧ n4 < jd ∧ (n2 + 1) < jd)) (u + 1 - g - 0) (⟨0, (n4 + 1), rfl, by omega, ⟨rfl, rfl, rfl, rfl, rfl, rfl, (by rfl), rfl, rfl, rfl, trivial⟩, (by rfl), (kb7 (by omega)), ⟨by omega, by omega, by omega⟩⟩) ?_
   rintro kn9 τ9 n9 _ ⟨k, jd, rfl, hn9, hHn9, rfl, hKn9, hIn9⟩
   rw [Has.eq hHn9]
   have hKn9_0 : p < n9 := hKn9 _ (by simp only [keys, List.map_cons, List.map_nil, List.mem_cons, true_or, or_true])
   have hKn9_1 : (n2 + 1) < n9 := hKn9 _ (by simp only [keys, List.map_cons, List.map_nil, List.mem_cons, true_or, or_true])
   have hKn9_2 : n < n9 := hKn9 _ (by simp only [keys, List.map_cons, List.map_nil, List.mem_cons, true_or, or_true])
   have hKn9_3 : (n + 1) < n9 := hKn9 _ (by simp only [keys, List.map_cons, List.map_nil, List.mem_cons, true_or, or_true])
   have hKn9_4 : n4 < n9 := hKn9 _ (by simp only [keys, List.map_cons, List.map_nil, List.mem_cons, true_or, or_true])
   have hKn9_5 : jd < n9 := hKn9 _ (by simp only [keys, List.map_cons, List.map_nil, List.mem_cons, true_or, or_true])
   have hKn9_6 : jp < n9 := hKn9 _ (by simp only [keys, List.map_cons, List.map_nil, List.mem_cons, true_or, or_true])
   clear hKn9
   obtain ⟨hk1, hk2, hk3⟩ := hIn9
   refine RA.seq hd ?_
   refine RA.region env_ok ?_
   by_cases hc4 : ((k : Nat) : Int) < ((((u + 1) - g) : Nat) : Int)
   ·
    have hs1 := seg_le (g := g) (n := u + 1 - g) (k := k) hseg
    have hs2 := hseg _ (getD_mem (d := dPrt) (l := (insL l i0 c)) (i := g + k) (by rw [insL_len]; omega))
    refine OA.p (some 78) (.bool true) rfl rfl rfl (Eq.trans (r_bin rfl rfl rfl (b_lss rfl)) (dT hc4)) ?_
    refine OA.nil ?_
    intro _
    refine RA.seq hd ?_
    refine RA.condT rfl ?_
    refine RA.skip env_ok ?_
    intro _
    refine RA.seq hd ?_
    refine RA.block ?_
    refine RA.seq hd ?_
    refine RA.region env_ok ?_
    refine OA.p (some 79) (.pointer (some ⟨(n2 + 1), (g + k), some 0⟩)) rfl rfl rfl (r_iaS (l := k) rfl rfl rfl rfl rfl rfl (by omega) (by omega) (get_there (by omega) get_here) rfl (by omega)) ?_
    refine OA.p (some 80) (.agg ⟨(cPrt ((insL l i0 c).getD (g + k) dPrt))⟩) rfl rfl rfl (r_loadR (c := cPrt) dPrt rfl rfl rfl rfl (get_there (by omega) get_here) (by have := (show (insL l i0 c).length = K + 1 from by rw [insL_len, hl]); omega) rfl) ?_
    refine OA.op1 (dst := (some 13)) (v := (Pt n9 0 0)) (n1 := (n9 + 1)) (w := (n9, some ⟨[[(.int .i64 0), (.int .i64 0), (.int .u32 0), (.int .i64 0), (.int .i64 0), (.int .u32 0), (.string ByteArray.empty), (.int .u32 0), (.int .u32 0), (.int .i64 0), (.int .i64 0), (.slice none 0 0), (.slice none 0 0), (.slice none 0 0), (.slice none 0 0)]], 15, 54, true⟩)) rfl rfl rfl rfl (by omega) ?_
    refine OA.op1 (dst := none) (v := (.tuple #[])) (n1 := (n9 + 1)) (w := (n9, some ⟨[(cPrt ((insL l i0 c).getD (g + k) dPrt))], 15, 54, true⟩)) rfl rfl rfl (r_store rfl rfl rfl rfl rfl rfl rfl get_here rfl rfl (Nat.le_of_ble_eq_true rfl) rfl) (by omega) ?_
    refine OA.nil ?_
    intro _
    refine RA.weaken (D' := [(n9, some ⟨[(cPrt ((insL l i0 c).getD (g + k) dPrt))], 15, 54, true⟩), (p, some ⟨[[(.slice (some ⟨(n2 + 1), 0, none⟩) (K + 1) 2)]], 1, 122, true⟩), ((n2 + 1), some (oPrt (insL l i0 c))), (n, some ⟨[(cPrt c)], 15, 54, true⟩), ((n + 1), some ⟨[[(.int .i64 0), (.int .i64 0), (.bool false), (.int .u32 0), (.string ByteArray.empty)]], 5, 29, true⟩), (n4, some ⟨[(xRs34 c l i0 g)], 5, 29, true⟩), (jd, some ⟨(bc (L (dcat ByteArray.empty ((((insL l i0 c).drop g).take (u + 1 - g)).take k)))), 1, 5, true⟩), (jp, none)]) hd (Less.of (fac (mm (fun _ => get_here) (fun _ => get_here)) (fac (mm (fun _ => (get_there (by omega) get_here)) (fun _ => (gt2 (by omega) get_here))) (fac (mm (fun _ => (gt2 (by omega) get_here)) (fun _ => (gt3 (by omega) get_here))) (fac (mm (fun _ => (gt3 (by omega) get_here)) (fun _ => (gt4 (by omega) get_here))) (fac (mm (fun _ => (gt4 (by omega) get_here)) (fun _ => (gt5 (by omega) get_here))) (fac (mm (fun _ => (gt5 (by omega) get_here)) (fun _ => (gt6 (by omega) get_here))) (fac (mm (fun _ => (gt6 (by omega) get_here)) (fun _ => (gt7 (by omega) get_here))) (fac (mm (fun _ => (gt7 (by omega) get_here)) (fun _ => (gt8 (by omega) get_here))) fan)))))))) (gone_of (by simp only [goneP, memP, List.cons_append, List.nil_append, true_or, or_true, true_and, and_true, or_false] <;> omega))) ?_
    refine RA.region env_ok ?_
    refine OA.p (some 81) (.slice (some ⟨jd, 0, none⟩) (dcat ByteArray.empty ((((insL l i0 c).drop g).take (u + 1 - g)).take k)).size 2) rfl rfl rfl rfl ?_
    refine OA.p (some 82) (Pt n9 0 6) rfl rfl rfl rfl ?_
    refine OA.p (some 83) (.string ((insL l i0 c).getD (g + k) dPrt).data) rfl rfl rfl (r_load1 rfl rfl rfl rfl rfl get_here rfl rfl) ?_
    refine OA.op (dst := (some 84)) (v := (.slice (some ⟨(n9 + 1), 0, none⟩) ((dcat ByteArray.empty ((((insL l i0 c).drop g).take (u + 1 - g)).take k)) ++ ((insL l i0 c).getD (g + k) dPrt).data).size 2)) (n1 := (n9 + 2)) (d1 := [((n9 + 1), some ⟨(bc (L ((dcat ByteArray.empty ((((insL l i0 c).drop g).take (u + 1 - g)).take k)) ++ ((insL l i0 c).getD (g + k) dPrt).data))), 1, 5, true⟩), (jd, none)]) (D' := [((n9 + 1), some ⟨(bc (L ((dcat ByteArray.empty ((((insL l i0 c).drop g).take (u + 1 - g)).take k)) ++ ((insL l i0 c).getD (g + k) dPrt).data))), 1, 5, true⟩), (jd, none), (n9, some ⟨[(cPrt ((insL l i0 c).getD (g + k) dPrt))], 15, 54, true⟩), (p, some ⟨[[(.slice (some ⟨(n2 + 1), 0, none⟩) (K + 1) 2)]], 1, 122, true⟩), ((n2 + 1), some (oPrt (insL l i0 c))), (n, some ⟨[(cPrt c)], 15, 54, true⟩), ((n + 1), some ⟨[[(.int .i64 0), (.int .i64 0), (.bool false), (.int .u32 0), (.string ByteArray.empty)]], 5, 29, true⟩), (n4, some ⟨[(xRs34 c l i0 g)], 5, 29, true⟩), (jd, some ⟨(bc (L (dcat ByteArray.empty ((((insL l i0 c).drop g).take (u + 1 - g)).take k)))), 1, 5, true⟩), (jp, none)]) rfl rfl rfl (r_appS2 (d := (dcat ByteArray.empty ((((insL l i0 c).drop g).take (u + 1 - g)).take k))) (s := ((insL l i0 c).getD (g + k) dPrt).data) rfl rfl rfl rfl rfl rfl rfl rfl rfl rfl (gt6 (by omega) get_here) (by omega) (of_decide_eq_true (by kernel_rfl))) (by omega) rfl ?_
    refine OA.p (some 11) (.slice (some ⟨(n9 + 1), 0, none⟩) ((dcat ByteArray.empty ((((insL l i0 c).drop g).take (u + 1 - g)).take k)) ++ ((insL l i0 c).getD (g + k) dPrt).data).size 2) rfl rfl rfl rfl ?_
    refine OA.nil ?_
    intro _
    refine RA.weaken (D' := [((n9 + 1), some ⟨(bc (L ((dcat ByteArray.empty ((((insL l i0 c).drop g).take (u + 1 - g)).take k)) ++ ((insL l i0 c).getD (g + k) dPrt).data))), 1, 5, true⟩), (jd, none), (n9, some ⟨[(cPrt ((insL l i0 c).getD (g + k) dPrt))], 15, 54, true⟩), (p, some ⟨[[(.slice (some ⟨(n2 + 1), 0, none⟩) (K + 1) 2)]], 1, 122, true⟩), ((n2 + 1), some (oPrt (insL l i0 c))), (n, some ⟨[(cPrt c)], 15, 54, true⟩), ((n + 1), some ⟨[[(.int .i64 0), (.int .i64 0), (.bool false), (.int .u32 0), (.string ByteArray.empty)]], 5, 29, true⟩), (n4, some ⟨[(xRs34 c l i0 g)], 5, 29, true⟩), (jp, none)]) hd (Less.of (fac (mm (fun _ => get_here) (fun _ => get_here)) (fac (mm (fun _ => (get_there (by omega) get_here)) (fun _ => (get_there (by omega) get_here))) (fac (mm (fun _ => (gt2 (by omega) get_here)) (fun _ => (gt2 (by omega) get_here))) (fac (mm (fun _ => (gt3 (by omega) get_here)) (fun _ => (gt3 (by omega) get_here))) (fac (mm (fun _ => (gt4 (by omega) get_here)) (fun _ => (gt4 (by omega) get_here))) (fac (mm (fun _ => (gt5 (by omega) get_here)) (fun _ => (gt5 (by omega) get_here))) (fac (mm (fun _ => (gt6 (by omega) get_here)) (fun _ => (gt6 (by omega) get_here))) (fac (mm (fun _ => (gt7 (by omega) get_here)) (fun _ => (gt7 (by omega) get_here))) (fac (mm (fun _ => (gt8 (by omega) get_here)) (fun _ => (gt9 (by omega) get_here))) fan))))))))) (gone_of (by simp only [goneP, memP, List.cons_append, List.nil_append, true_or, or_true, true_and, and_true, or_false] <;> omega))) ?_
    refine RA.region env_ok ?_
    refine OA.p (some 85) (.int .i64 (((k + 1) : Nat) : Int)) rfl rfl rfl (r_bin rfl rfl rfl (b_add (i64_eq (by omega)))) ?_
    refine OA.p (some 77) (.int .i64 (((k + 1) : Nat) : Int)) rfl rfl rfl rfl ?_
    refine OA.nil ?_
    refine ⟨u + 1 - g - (k + 1), by omega, [(p, some ⟨[[(.slice (some ⟨(n2 + 1), 0, none⟩) (K + 1) 2)]], 1, 122, true⟩), ((n2 + 1), some (oPrt (insL l i0 c))), (n, some ⟨[(cPrt c)], 15, 54, true⟩), ((n + 1), some ⟨[[(.int .i64 0), (.int .i64 0), (.bool false), (.int .u32 0), (.string ByteArray.empty)]], 5, 29, true⟩), (n4, some ⟨[(xRs34 c l i0 g)], 5, 29, true⟩), ((n9 + 1), some ⟨(bc (L ((dcat ByteArray.empty ((((insL l i0 c).drop g).take (u + 1 - g)).take k)) ++ ((insL l i0 c).getD (g + k) dPrt).data))), 1, 5, true⟩), (jp, none)], (Less.of (fac (mm (fun _ => get_here) (fun _ => (gt3 (by omega) get_here))) (fac (mm (fun _ => (get_there (by omega) get_here)) (fun _ => (gt4 (by omega) get_here))) (fac (mm (fun _ => (gt2 (by omega) get_here)) (fun _ => (gt5 (by omega) get_here))) (fac (mm (fun _ => (gt3 (by omega) get_here)) (fun _ => (gt6 (by omega) get_here))) (fac (mm (fun _ => (gt4 (by omega) get_here)) (fun _ => (gt7 (by omega) get_here))) (fac (mm (fun _ => (gt5 (by omega) get_here)) (fun _ => get_here)) (fac (mm (fun _ => (gt6 (by omega) get_here)) (fun _ => (gt8 (by omega) get_here))) fan))))))) (gone_of (by simp only [goneP, memP, List.cons_append, List.nil_append, true_or, or_true, true_and, and_true, or_false] <;> omega))), ⟨(k + 1), (n9 + 1), rfl, by omega, ⟨rfl, rfl, rfl, rfl, rfl, rfl, (by rw [dcat_snoc (by omega) (by rw [insL_len]; omega)] <;> rfl), rfl, rfl, rfl, trivial⟩, (by rw [dcat_snoc (by omega) (by rw [insL_len]; omega)]), (kb7 (by omega)), ⟨by omega, by omega, by omega⟩⟩⟩
   ·
    refine OA.p (some 78) (.bool false) rfl rfl rfl (Eq.trans (r_bin rfl rfl rfl (b_lss rfl)) (dF hc4)) ?_
    refine OA.nil ?_
    intro _
    refine RA.seq hd ?_
    refine RA.condF rfl ?_
    refine RA.exit env_ok ?_
    intro _
    refine RA.seq hd ?_
    refine RA.region env_ok ?_
    refine OA.p (some 86) (.slice (some ⟨jd, 0, none⟩) (dcat ByteArray.empty ((((insL l i0 c).drop g).take (u + 1 - g)).take k)).size 2) rfl rfl rfl rfl ?_
    refine OA.p (some 87) (.string (dcat ByteArray.empty ((((insL l i0 c).drop g).take (u + 1 - g)).take k))) rfl rfl rfl (r_b2sL (d := (dcat ByteArray.empty ((((insL l i0 c).drop g).take (u + 1 - g)).take k))) rfl rfl rfl rfl rfl rfl rfl rfl (gt5 (by omega) get_here)) ?_
    refine OA.p (some 88) (Pt n4 0 4) rfl rfl rfl rfl ?_
    refine OA.op1 (dst := none) (v := (.tuple #[])) (n1 := n9) (w := (n4, some ⟨[(xRs32 c l i0 g u k)], 5, 29, true⟩)) rfl rfl rfl (r_store rfl rfl rfl rfl rfl rfl rfl (gt4 (by omega) get_here) rfl rfl (Nat.le_of_ble_eq_true rfl) rfl) (by omega) ?_
    refine OA.nil ?_
    intro _
    refine RA.weaken (D' := [(n4, some ⟨[(xRs32 c l i0 g u k)], 5, 29, true⟩), (p, some ⟨[[(.slice (some ⟨(n2 + 1), 0, none⟩) (K + 1) 2)]], 1, 122, true⟩), ((n2 + 1), some (oPrt (insL l i0 c))), (n, some ⟨[(cPrt c)], 15, 54, true⟩), ((n + 1), some ⟨[[(.int .i64 0), (.int .i64 0), (.bool false), (.int .u32 0), (.string ByteArray.empty)]], 5, 29, true⟩), (jd, some ⟨(bc (L (dcat ByteArray.empty ((((insL l i0 c).drop g).take (u + 1 - g)).take k)))), 1, 5, true⟩), (jp, none)]) hd (Less.of (fac (mm (fun _ => get_here) (fun _ => get_here)) (fac (mm (fun _ => (get_there (by omega) get_here)) (fun _ => (get_there (by omega) get_here))) (fac (mm (fun _ => (gt2 (by omega) get_here)) (fun _ => (gt2 (by omega) get_here))) (fac (mm (fun _ => (gt3 (by omega) get_here)) (fun _ => (gt3 (by omega) get_here))) (fac (mm (fun _ => (gt4 (by omega) get_here)) (fun _ => (gt4 (by omega) get_here))) (fac (mm (fun _ => (gt5 (by omega) get_here)) (fun _ => (gt6 (by omega) get_here))) (fac (mm (fun _ => (gt6 (by omega) get_here)) (fun _ => (gt7 (by omega) get_here))) fan))))))) (gone_of (by simp only [goneP, memP, List.cons_append, List.nil_append, true_or, or_true, true_and, and_true, or_false] <;> omega))) ?_
    refine RA.seq hd ?_
    refine RA.seq hd ?_
    refine RA.region env_ok ?_
    refine OA.p (some 89) (Pt n4 0 2) rfl rfl rfl rfl ?_
    refine OA.p (some 90) (.bool false) rfl rfl rfl (r_load1 rfl rfl rfl rfl rfl get_here rfl rfl) ?_
    refine OA.nil ?_
    intro _
    refine RA.condF rfl ?_
    refine RA.skip env_ok ?_
    intro _
    refine RA.seq hd ?_
    refine RA.region env_ok ?_
    refine OA.p (some 92) (Pt p 0 0) rfl rfl rfl rfl ?_
    refine OA.p (some 93) (Pt p 0 0) rfl rfl rfl rfl ?_
    refine OA.p (some 94) (Pt p 0 0) rfl rfl rfl rfl ?_
    refine OA.p (some 95) (Pt p 0 0) rfl rfl rfl rfl ?_
    refine OA.p (some 96) (.slice (some ⟨(n2 + 1), 0, none⟩) (K + 1) 2) rfl rfl rfl (r_load1 rfl rfl rfl rfl rfl (get_there (by omega) get_here) rfl rfl) ?_
    refine OA.p (some 97) (.int .i64 ((g : Nat) : Int)) rfl rfl rfl rfl ?_
    refine OA.p (some 98) (.int .i64 ((u : Nat) : Int)) rfl rfl rfl rfl ?_
    refine OA.p (some 99) (.int .i64 (((u + 1) : Nat) : Int)) rfl rfl rfl (r_bin rfl rfl rfl (b_add (i64_eq (by omega)))) ?_
    refine OA.call (dst := (some 100)) (all := [(.slice (some ⟨(n2 + 1), 0, none⟩) (K + 1) 2), (.int .i64 ((g : Nat) : Int)), (.int .i64 (((u + 1) : Nat) : Int))]) rfl rfl rfl rfl rfl rfl rfl rfl (CQ.imp (sDel (hd.of (by omega) (kb7 (by omega))) (n2 + 1) (K + 1) g (u + 1) (insL l i0 c) (show (insL l i0 c).length = K + 1 from by rw [insL_len, hl]) (by omega) (by omega) (by omega) (gt2 (by omega) get_here)) ?_)
    rintro _ n10 _ ⟨rfl, rfl⟩ hn10
    refine OA.app1 ?_
    refine OA.p (some 101) (Pt p 0 0) rfl rfl rfl rfl ?_
    refine OA.p (some 102) (Pt p 0 0) rfl rfl rfl rfl ?_
    refine OA.op1 (dst := none) (v := (.tuple #[])) (n1 := n10) (w := (p, some ⟨[[(.slice (some ⟨(n2 + 1), 0, none⟩) (K + 1 - (u + 1 - g)) 2)]], 1, 122, true⟩)) rfl rfl rfl (r_store rfl rfl rfl rfl rfl rfl rfl (gt2 (by omega) get_here) rfl rfl (Nat.le_of_ble_eq_true rfl) rfl) (by omega) ?_
    refine OA.nil ?_
    intro _
    refine RA.weaken (D' := [(p, some ⟨[[(.slice (some ⟨(n2 + 1), 0, none⟩) (K + 1 - (u + 1 - g)) 2)]], 1, 122, true⟩), ((n2 + 1), some (oPrt ((insL l i0 c).take g ++ (insL l i0 c).drop (u + 1)))), (n4, some ⟨[(xRs32 c l i0 g u k)], 5, 29, true⟩), (n, some ⟨[(cPrt c)], 15, 54, true⟩), ((n + 1), some ⟨[[(.int .i64 0), (.int .i64 0), (.bool false), (.int .u32 0), (.string ByteArray.empty)]], 5, 29, true⟩), (jd, some ⟨(bc (L (dcat ByteArray.empty ((((insL l i0 c).drop g).take (u + 1 - g)).take k)))), 1, 5, true⟩), (jp, none)]) hd (Less.of (fac (mm (fun _ => get_here) (fun _ => get_here)) (fac (mm (fun _ => (get_there (by omega) get_here)) (fun _ => (get_there (by omega) get_here))) (fac (mm (fun _ => (gt2 (by omega) get_here)) (fun _ => (gt2 (by omega) get_here))) (fac (mm (fun _ => (gt3 (by omega) get_here)) (fun _ => (gt5 (by omega) get_here))) (fac (mm (fun _ => (gt4 (by omega) get_here)) (fun _ => (gt6 (by omega) get_here))) (fac (mm (fun _ => (gt5 (by omega) get_here)) (fun _ => (gt7 (by omega) get_here))) (fac (mm (fun _ => (gt6 (by omega) get_here)) (fun _ => (gt8 (by omega) get_here))) fan))))))) (gone_of (by simp only [goneP, memP, List.cons_append, List.nil_append, true_or, or_true, true_and, and_true, or_false] <;> omega))) ?_
    refine RA.seq hd ?_
    refine RA.region env_ok ?_
    refine OA.p (some 103) (.agg ⟨(xRs32 c l i0 g u k)⟩) rfl rfl rfl (r_loadA rfl rfl rfl rfl (gt2 (by omega) get_here) rfl rfl rfl) ?_
    refine OA.op1 (dst := none) (v := (.tuple #[])) (n1 := n10) (w := ((n + 1), some ⟨[(xRs32 c l i0 g u k)], 5, 29, true⟩)) rfl rfl rfl (r_store rfl rfl rfl rfl rfl rfl rfl (gt4 (by omega) get_here) rfl rfl (Nat.le_of_ble_eq_true rfl) rfl) (by omega) ?_
    refine OA.p (some 5) (.bool true) rfl rfl rfl rfl ?_
    refine OA.nil ?_
    intro _
    refine RA.weaken (D' := [((n + 1), some ⟨[(xRs32 c l i0 g u k)], 5, 29, true⟩), (p, some ⟨[[(.slice (some ⟨(n2 + 1), 0, none⟩) (K + 1 - (u + 1 - g)) 2)]], 1, 122, true⟩), ((n2 + 1), some (oPrt ((insL l i0 c).take g ++ (insL l i0 c).drop (u + 1)))), (n4, some ⟨[(xRs32 c l i0 g u k)], 5, 29, true⟩), (n, some ⟨[(cPrt c)], 15, 54, true⟩), (jd, some ⟨(bc (L (dcat ByteArray.empty ((((insL l i0 c).drop g).take (u + 1 - g)).take k)))), 1, 5, true⟩), (jp, none)]) hd (Less.of (fac (mm (fun _ => get_here) (fun _ => get_here)) (fac (mm (fun _ => (get_there (by omega) get_here)) (fun _ => (get_there (by omega) get_here))) (fac (mm (fun _ => (gt2 (by omega) get_here)) (fun _ => (gt2 (by omega) get_here))) (fac (mm (fun _ => (gt3 (by omega) get_here)) (fun _ => (gt3 (by omega) get_here))) (fac (mm (fun _ => (gt4 (by omega) get_here)) (fun _ => (gt4 (by omega) get_here))) (fac (mm (fun _ => (gt5 (by omega) get_here)) (fun _ => (gt6 (by omega) get_here))) (fac (mm (fun _ => (gt6 (by omega) get_here)) (fun _ => (gt7 (by omega) get_here))) fan))))))) (gone_of (by simp only [goneP, memP, List.cons_append, List.nil_append, true_or, or_true, true_and, and_true, or_false] <;> omega))) ?_
    refine RA.ret env_ok ?_
    refine ⟨.inr rfl, [(.agg ⟨(xRs32 c l i0 g u k)⟩), (.bool true)], (resL_cons (res_cellA rfl rfl rfl get_here rfl rfl rfl) (resL_cons rfl resL_nil)), [(p, some ⟨[[(.slice (some ⟨(n2 + 1), 0, none⟩) (K + 1 - (u + 1 - g)) 2)]], 1, 122, true⟩), ((n2 + 1), some (oPrt ((insL l i0 c).take g ++ (insL l i0 c).drop (u + 1)))), (jp, none)], (Less.of (fac (mm (fun _ => get_here) (fun _ => (get_there (by omega) get_here))) (fac (mm (fun _ => (get_there (by omega) get_here)) (fun _ => (gt2 (by omega) get_here))) (fac (mm (fun _ => (gt2 (by omega) get_here)) (fun _ => (gt6 (by omega) get_here))) fan))) (gone_of (by simp only [goneP, memP, List.cons_append, List.nil_append, true_or, or_true, true_and, and_true, or_false] <;> omega))), ⟨(n2 + 1), by omega, by omega, by rw [← hi0, show mkM c ((insL l i0 c).getD g dPrt).proto (dcat ByteArray.empty (((insL l i0 c).drop g).take (u + 1 - g))) = _ from if_neg (by omega), ← (show (((insL l i0 c).drop g).take (u + 1 - g)).take k = (((insL l i0 c).drop g).take (u + 1 - g)) from List.take_of_length_le (by rw [List.length_take]; omega))] <;> rfl, by rw [← hi0]⟩⟩

theorem sLen {σ : Store} (p jp K : Nat) (hp : σ p = some ⟨[[(.slice (some ⟨jp, 0, none⟩) K 2)]], 1, 122, true⟩)  : PS Try.prog noDen 32 [(Pt p 0 0)] σ (.int .i64 ((K : Nat) : Int)) := by
 refine PS.body (E := env) env_ok rfl rfl (by show _ ≤ _; exact of_decide_eq_true (by kernel_rfl)) (fun n hd => ?_)
 have lhp := hd.lt hp
 refine RA.seq hd ?_
 refine RA.region env_ok ?_
 refine OA.p (some 2) (.int .i64 0) rfl rfl rfl rfl ?_
 refine OA.nil ?_
 intro _
 refine RA.seq hd ?_
 refine RA.seq hd ?_
 refine RA.region env_ok ?_
 refine OA.p (some 3) (Pt p 0 0) rfl rfl rfl rfl ?_
 refine OA.p (some 4) (.bool false) rfl rfl rfl rfl ?_
 refine OA.nil ?_
 intro _
 refine RA.condF rfl ?_
 refine RA.skip env_ok ?_
 intro _
 refine RA.seq hd ?_
 refine RA.region env_ok ?_
 refine OA.p (some 5) (Pt p 0 0) rfl rfl rfl rfl ?_
 refine OA.p (some 6) (Pt p 0 0) rfl rfl rfl rfl ?_
 refine OA.p (some 7) (Pt p 0 0) rfl rfl rfl rfl ?_
 refine OA.p (some 8) (.slice (some ⟨jp, 0, none⟩) K 2) rfl rfl rfl (r_load1 rfl rfl rfl rfl rfl hp rfl rfl) ?_
 refine OA.p (some 9) (.int .i64 ((K : Nat) : Int)) rfl rfl rfl rfl ?_
 refine OA.p (some 2) (.int .i64 ((K : Nat) : Int)) rfl rfl rfl rfl ?_
 refine OA.nil ?_
 intro _
 refine RA.ret env_ok ?_
 refine ⟨.inr rfl, [(.int .i64 ((K : Nat) : Int))], (resL_cons rfl resL_nil), rfl, (fun i hi => by cases hi)⟩
end Go.Proofs.Ytmepflkodjdgdaa.Vt
