/- Np4: walks through functions of the program, by the calculus; written by a program of this workplace. -/
import Derived.Test.YtnjknabighmedaaNp3
import Derived.Test.YtnjknabighmedaaVm5
namespace Go.Proofs.Ytnjknabighmedaa.Vt
open Go Go.Proofs Go.Proofs.YtnjknabighmedaaV
set_option maxRecDepth 100000
set_option linter.unusedVariables false
set_option linter.unusedSimpArgs false
abbrev xNp41 (l : List Item) (a : Act) : Item := (Item.mk (((l.set a.pos.toNat (Item.mk ((l.getD a.pos.toNat dItem).leg) ((l.getD a.pos.toNat dItem).nat) ((l.getD a.pos.toNat dItem).fr) ((l.getD a.pos.toNat dItem).to) (bentS (l.getD a.pos.toNat dItem).s a.bit) ((l.getD a.pos.toNat dItem).bent))).getD a.pos.toNat dItem).leg) (((l.set a.pos.toNat (Item.mk ((l.getD a.pos.toNat dItem).leg) ((l.getD a.pos.toNat dItem).nat) ((l.getD a.pos.toNat dItem).fr) ((l.getD a.pos.toNat dItem).to) (bentS (l.getD a.pos.toNat dItem).s a.bit) ((l.getD a.pos.toNat dItem).bent))).getD a.pos.toNat dItem).nat) (((l.set a.pos.toNat (Item.mk ((l.getD a.pos.toNat dItem).leg) ((l.getD a.pos.toNat dItem).nat) ((l.getD a.pos.toNat dItem).fr) ((l.getD a.pos.toNat dItem).to) (bentS (l.getD a.pos.toNat dItem).s a.bit) ((l.getD a.pos.toNat dItem).bent))).getD a.pos.toNat dItem).fr) (((l.set a.pos.toNat (Item.mk ((l.getD a.pos.toNat dItem).leg) ((l.getD a.pos.toNat dItem).nat) ((l.getD a.pos.toNat dItem).fr) ((l.getD a.pos.toNat dItem).to) (bentS (l.getD a.pos.toNat dItem).s a.bit) ((l.getD a.pos.toNat dItem).bent))).getD a.pos.toNat dItem).to) (((l.set a.pos.toNat (Item.mk ((l.getD a.pos.toNat dItem).leg) ((l.getD a.pos.toNat dItem).nat) ((l.getD a.pos.toNat dItem).fr) ((l.getD a.pos.toNat dItem).to) (bentS (l.getD a.pos.toNat dItem).s a.bit) ((l.getD a.pos.toNat dItem).bent))).getD a.pos.toNat dItem).s) true)
abbrev xNp42 (l : List Item) (a : Act) : List Value := [(.int .i64 (l.getD a.pos.toNat dItem).leg), (.int .i64 (l.getD a.pos.toNat dItem).nat), (W (l.getD a.pos.toNat dItem).fr), (W (l.getD a.pos.toNat dItem).to), (.string (l.getD a.pos.toNat dItem).s), (.bool (l.getD a.pos.toNat dItem).bent)]
abbrev xNp43 (l : List Item) (a : Act) : Item := (Item.mk ((l.getD a.pos.toNat dItem).leg) ((l.getD a.pos.toNat dItem).nat) ((l.getD a.pos.toNat dItem).fr) ((l.getD a.pos.toNat dItem).to) (bentS (l.getD a.pos.toNat dItem).s a.bit) ((l.getD a.pos.toNat dItem).bent))
abbrev xNp44 (q : Nat) (a : Act) : List Value := [(.pointer (some ⟨q, 0, some 0⟩)), (.agg ⟨[(.int .i64 a.leg), (.int .i64 a.nat), (W a.fr), (W a.to), (.string (a.s.extract 0 (min a.s.size 10))), (.bool a.bent)]⟩)]
abbrev xNp45 : List Value := [(.int .i64 0), (.int .i64 0), (.int .i64 0), (.int .u32 0), (.int .u32 0), (.string ByteArray.empty), (.bool false), (.int .i64 0), (.int .i64 0)]
abbrev xNp46 (a : Act) : List Value := [(.int .i64 a.leg), (.int .i64 a.nat), (W a.fr), (W a.to), (.string (a.s.extract 0 (min a.s.size 10))), (.bool a.bent)]
abbrev xNp47 : List Value := [(.int .i64 0), (.int .i64 0), (.int .u32 0), (.int .u32 0), (.string ByteArray.empty), (.bool false)]
set_option maxHeartbeats 4000000 in
theorem nPlays {σ : Store} (lv : Value) (ls : List Act) (hr : RowP σ 67 9 lv (ls.map cAct))   : PS Try.prog noDen 9 [lv] σ (.bool true) := by
 refine PS.body (E := env) env_ok rfl rfl (by show _ ≤ _; exact of_decide_eq_true (by kernel_rfl)) (fun n hd => ?_)
 refine RA.seq hd ?_
 refine RA.region env_ok ?_
 refine OA.p (some 2) (.bool false) rfl rfl rfl rfl ?_
 refine OA.nil ?_
 intro _
 refine RA.seq hd ?_
 refine RA.region env_ok ?_
 refine OA.call (dst := (some 14)) (all := []) rfl rfl rfl rfl rfl rfl rfl rfl (CQ.imp (nNew (hd.up (by omega))) ?_)
 rintro _ n1 _ ⟨q, hqa, hqb, rfl, rfl⟩ hn1
 refine OA.app1 ?_
 refine OA.op1 (dst := (some 15)) (v := (.slice (some ⟨n1, 0, none⟩) 0 0)) (n1 := (n1 + 1)) (w := (n1, some (oItem ([] : List Item)))) rfl rfl rfl (by kernel_rfl) (by omega) ?_
 refine OA.p (some 3) (Pt q 0 0) rfl rfl rfl rfl ?_
 refine OA.p (some 4) (.slice (some ⟨n1, 0, none⟩) 0 0) rfl rfl rfl rfl ?_
 refine OA.nil ?_
 intro _
 refine RA.seq hd ?_
 refine RA.seq hd ?_
 refine RA.region env_ok ?_
 refine OA.callP (dst := (some 16)) (all := []) (v := (.bool true)) (hd.of (by omega) (kb2 (by omega))) rfl rfl rfl rfl rfl rfl rfl rfl awake ?_
 intro n2 hn2
 refine OA.p (some 17) (.bool false) rfl rfl rfl rfl ?_
 refine OA.nil ?_
 intro _
 refine RA.condF rfl ?_
 refine RA.skip env_ok ?_
 intro _
 refine RA.seq hd ?_
 refine RA.seq hd ?_
 refine RA.region env_ok ?_
 refine OA.p (some 5) (.int .i64 0) rfl rfl rfl rfl ?_
 refine OA.nil ?_
 intro _
 refine RA.block ?_
 refine RA.weaken (D' := [(q, some ⟨[[(.slice none 0 0), (.int .i64 0)]], 2, 115, true⟩), (n1, some (oItem ([] : List Item)))]) hd (Less.of (fac (mm (fun _ => get_here) (fun _ => (get_there (by omega) get_here))) (fac (mm (fun _ => (get_there (by omega) get_here)) (fun _ => get_here)) fan)) (gone_of (by simp only [goneP, memP, List.cons_append, List.nil_append, true_or, or_true, true_and, and_true, or_false] <;> omega))) ?_
 refine RA.loop hd (fun kk_ τ n' D => (∃ i : Nat, ∃ jq : Nat, kk_ = (80 - i) ∧ n2 ≤ n' ∧ Has τ [(0, lv), (3, (Pt q 0 0)), (4, (.slice (some ⟨jq, 0, none⟩) 0 0)), (5, (.int .i64 ((i : Nat) : Int)))] ∧ D = [(q, some ⟨[[(.slice none 0 0), (.int .i64 0)]], 2, 115, true⟩), (jq, some (oItem ([] : List Item)))] ∧ (∀ i ∈ keys D, i < n') ∧ i ≤ 80 ∧ i ≤ ls.length ∧ n ≤ jq ∧ q ≠ jq) ∨ (∃ i : Nat, ∃ N : Nat, ∃ l : List Item, ∃ j : Nat, ∃ jq : Nat, kk_ = (80 - i) ∧ n2 ≤ n' ∧ Has τ [(0, lv), (3, (Pt q 0 0)), (4, (.slice (some ⟨jq, 0, none⟩) N 0)), (5, (.int .i64 ((i : Nat) : Int)))] ∧ D = [(q, some ⟨[[(.slice (some ⟨j, 0, none⟩) N 0), (.int .i64 0)]], 2, 115, true⟩), (j, some (oItem l)), (jq, some (oItem l))] ∧ (∀ i ∈ keys D, i < n') ∧ l.length = N ∧ N ≤ i ∧ i ≤ 80 ∧ i ≤ ls.length ∧ n ≤ j ∧ n ≤ jq ∧ q ≠ j ∧ q ≠ jq ∧ j ≠ jq ∧ SZ l)) ((80 - 0)) (.inl (⟨0, n1, rfl, by omega, ⟨rfl, rfl, rfl, rfl, trivial⟩, rfl, (kb2 (by omega)), ⟨by omega, by omega, by omega, by omega⟩⟩)) ?_
 rintro kn3 τ3 n3 Dn3 hSn3
 rcases hSn3 with ⟨i, jq, rfl, hn3, hHn3, rfl, hKn3, hIn3⟩ | ⟨i, N, l, j, jq, rfl, hn3, hHn3, rfl, hKn3, hIn3⟩
 ·
  rw [Has.eq hHn3]
  have hKn3_0 : q < n3 := hKn3 _ (by simp only [keys, List.map_cons, List.map_nil, List.mem_cons, true_or, or_true])
  have hKn3_1 : jq < n3 := hKn3 _ (by simp only [keys, List.map_cons, List.map_nil, List.mem_cons, true_or, or_true])
  clear hKn3
  obtain ⟨hi80, hil, hjq, hqjq⟩ := hIn3
  refine RA.seq hd ?_
  refine RA.seq hd ?_
  refine RA.region env_ok ?_
  refine OA.p (some 18) (.int .i64 ((i : Nat) : Int)) rfl rfl rfl rfl ?_
  refine OA.p (some 19) lv rfl rfl rfl rfl ?_
  refine OA.p (some 20) (.int .i64 ((ls.length : Nat) : Int)) rfl rfl rfl (r_lenP (c := cAct) rfl rfl rfl rfl rfl rfl hr rfl) ?_
  by_cases hc1 : ((i : Nat) : Int) < ((ls.length : Nat) : Int)
  ·
   obtain ⟨rest, hat⟩ := hr.get (m := i) (by omega)
   have lathat := hd.lt hat
   obtain ⟨a, ha⟩ : ∃ a, a = ls.getD i dAct := ⟨_, rfl⟩
   refine OA.p (some 21) (.bool true) rfl rfl rfl (Eq.trans (r_bin rfl rfl rfl (b_lss rfl)) (dT hc1)) ?_
   refine OA.p (some 22) (.bool true) rfl rfl rfl rfl ?_
   refine OA.p (some 23) (.int .i64 ((i : Nat) : Int)) rfl rfl rfl rfl ?_
   by_cases hc2 : ((i : Nat) : Int) < 80
   ·
    refine OA.p (some 24) (.bool true) rfl rfl rfl (Eq.trans (r_bin rfl rfl rfl (b_lss rfl)) (dT hc2)) ?_
    refine OA.p (some 25) (.bool true) rfl rfl rfl rfl ?_
    refine OA.nil ?_
    intro _
    refine RA.condT rfl ?_
    refine RA.skip env_ok ?_
    intro _
    refine RA.seq hd ?_
    refine RA.block ?_
    refine RA.seq hd ?_
    refine RA.region env_ok ?_
    refine OA.p (some 28) lv rfl rfl rfl rfl ?_
    refine OA.p (some 29) (.int .i64 ((i : Nat) : Int)) rfl rfl rfl rfl ?_
    refine OA.p (some 30) (.pointer (some ⟨(rk lv), i, some 0⟩)) rfl rfl rfl (r_iaP (c := cAct) (m := i) rfl rfl rfl rfl rfl rfl hr rfl (by omega) (gt2 (by omega) hat) rfl) ?_
    refine OA.p (some 31) (.agg ⟨(cAct a)⟩) rfl rfl rfl (by rw [ha]; exact r_loadA (e := cAct (ls.getD i dAct)) rfl rfl rfl rfl (gt2 (by omega) hat) (mp_getA (by omega)) rfl rfl) ?_
    refine OA.op1 (dst := (some 6)) (v := (Pt n3 0 0)) (n1 := (n3 + 1)) (w := (n3, some ⟨[xNp45], 9, 67, true⟩)) rfl rfl rfl rfl (by omega) ?_
    refine OA.op1 (dst := none) (v := (.tuple #[])) (n1 := (n3 + 1)) (w := (n3, some ⟨[(cAct a)], 9, 67, true⟩)) rfl rfl rfl (r_store rfl rfl rfl rfl rfl rfl rfl get_here rfl rfl (Nat.le_of_ble_eq_true rfl) rfl) (by omega) ?_
    refine OA.nil ?_
    intro _
    refine RA.seq hd ?_
    refine RA.region env_ok ?_
    refine OA.p (some 32) (Pt n3 0 7) rfl rfl rfl rfl ?_
    refine OA.p (some 33) (.int .i64 a.pos) rfl rfl rfl (r_load1 rfl rfl rfl rfl rfl get_here rfl rfl) ?_
    by_cases hc3 : 0 ≤ a.pos
    ·
     refine OA.p (some 34) (.bool true) rfl rfl rfl (Eq.trans (r_bin rfl rfl rfl (b_geq rfl)) (dT hc3)) ?_
     refine OA.p (some 35) (.bool true) rfl rfl rfl rfl ?_
     refine OA.p (some 36) (Pt n3 0 7) rfl rfl rfl rfl ?_
     refine OA.p (some 37) (.int .i64 a.pos) rfl rfl rfl (r_load1 rfl rfl rfl rfl rfl get_here rfl rfl) ?_
     refine OA.p (some 38) (.slice (some ⟨jq, 0, none⟩) 0 0) rfl rfl rfl rfl ?_
     refine OA.p (some 39) (.int .i64 0) rfl rfl rfl rfl ?_
     by_cases hc4 : a.pos < 0
     ·
      refine OA.p (some 40) (.bool true) rfl rfl rfl (Eq.trans (r_bin rfl rfl rfl (b_lss rfl)) (dT hc4)) ?_
      refine OA.p (some 41) (.bool true) rfl rfl rfl rfl ?_
      refine OA.p (some 7) (.bool true) rfl rfl rfl rfl ?_
      refine OA.nil ?_
      intro _
      refine RA.rebase [(0, lv), (3, (Pt q 0 0)), (4, (.slice (some ⟨jq, 0, none⟩) 0 0)), (5, (.int .i64 ((i : Nat) : Int))), (6, (Pt n3 0 0)), (7, (.bool true)), (25, (.bool true))] ⟨rfl, rfl, rfl, rfl, rfl, rfl, rfl, trivial⟩ (fun τr4 => ?_)
      refine RA.seq hd (RA.imp (Q := fun x τ' n' D' => x = .normal ∧ ((∃ jq2 : Nat, Has τ' [(0, lv), (3, (Pt q 0 0)), (4, (.slice (some ⟨jq2, 0, none⟩) 0 0)), (5, (.int .i64 ((i : Nat) : Int)))] ∧ (∃ D2, Less n n' D' D2 ∧ D2 = [(q, some ⟨[[(.slice none 0 0), (.int .i64 0)]], 2, 115, true⟩), (jq2, some (oItem ([] : List Item)))]) ∧ (n3 + 1) ≤ n' ∧ (∀ i ∈ keys [(q, some ⟨[[(.slice none 0 0), (.int .i64 0)]], 2, 115, true⟩), (jq2, some (oItem ([] : List Item)))], i < n') ∧ n ≤ jq2 ∧ q ≠ jq2) ∨ (∃ N2 : Nat, ∃ l2 : List Item, ∃ j2 : Nat, ∃ jq2 : Nat, Has τ' [(0, lv), (3, (Pt q 0 0)), (4, (.slice (some ⟨jq2, 0, none⟩) N2 0)), (5, (.int .i64 ((i : Nat) : Int)))] ∧ (∃ D2, Less n n' D' D2 ∧ D2 = [(q, some ⟨[[(.slice (some ⟨j2, 0, none⟩) N2 0), (.int .i64 0)]], 2, 115, true⟩), (j2, some (oItem l2)), (jq2, some (oItem l2))]) ∧ (n3 + 1) ≤ n' ∧ (∀ i ∈ keys [(q, some ⟨[[(.slice (some ⟨j2, 0, none⟩) N2 0), (.int .i64 0)]], 2, 115, true⟩), (j2, some (oItem l2)), (jq2, some (oItem l2))], i < n') ∧ l2.length = N2 ∧ N2 ≤ i + 1 ∧ n ≤ j2 ∧ n ≤ jq2 ∧ q ≠ j2 ∧ q ≠ jq2 ∧ j2 ≠ jq2 ∧ SZ l2))) ?_ ?_)
      ·
       refine RA.seq hd ?_
       refine RA.region env_ok ?_
       refine OA.p (some 42) (Pt n3 0 0) rfl rfl rfl rfl ?_
       refine OA.p (some 43) (.int .i64 a.what) rfl rfl rfl (r_load1 rfl rfl rfl rfl rfl get_here rfl rfl) ?_
       refine OA.p (some 44) (.int .i64 (a.what.tmod 5)) rfl rfl rfl (r_bin rfl rfl rfl (b_rem (by decide) rfl)) ?_
       refine OA.nil ?_
       intro _
       refine RA.block ?_
       refine RA.seq hd ?_
       refine RA.region env_ok ?_
       by_cases hc5 : (a.what.tmod 5) = 2
       ·
        refine OA.p (some 71) (.bool true) rfl rfl rfl (Eq.trans (r_bin rfl rfl rfl (b_eql rfl)) (dT hc5)) ?_
        refine OA.p (some 70) (.bool true) rfl rfl rfl rfl ?_
        refine OA.nil ?_
        intro _
        refine RA.condT rfl ?_
        refine RA.seq hd ?_
        refine RA.region env_ok ?_
        refine OA.p (some 73) (Pt q 0 0) rfl rfl rfl rfl ?_
        refine OA.p (some 74) (Pt n3 0 7) rfl rfl rfl rfl ?_
        refine OA.p (some 75) (.int .i64 a.pos) rfl rfl rfl (r_load1 rfl rfl rfl rfl rfl get_here rfl rfl) ?_
        refine OA.call (dst := (some 76)) (all := [(Pt q 0 0), (.int .i64 a.pos)]) rfl rfl rfl rfl rfl rfl rfl rfl (CQ.imp (nTakeOA (hd.of (by omega) (kb4 (by omega))) q a.pos (gt2 (by omega) get_here)) ?_)
        rintro _ n5 _ ⟨rfl, rfl⟩ hn5
        refine OA.app0 ?_
        refine OA.p (some 72) (.tuple ⟨[(.agg ⟨(cItem dItem)⟩), (.bool false)]⟩) rfl rfl rfl rfl ?_
        refine OA.p (some 77) (.agg ⟨(cItem dItem)⟩) rfl rfl rfl rfl ?_
        refine OA.p (some 78) (.bool false) rfl rfl rfl rfl ?_
        refine OA.op1 (dst := (some 8)) (v := (Pt n5 0 0)) (n1 := (n5 + 1)) (w := (n5, some ⟨[xNp47], 6, 59, true⟩)) rfl rfl rfl rfl (by omega) ?_
        refine OA.op1 (dst := none) (v := (.tuple #[])) (n1 := (n5 + 1)) (w := (n5, some ⟨[(cItem dItem)], 6, 59, true⟩)) rfl rfl rfl (r_store rfl rfl rfl rfl rfl rfl rfl get_here rfl rfl (Nat.le_of_ble_eq_true rfl) rfl) (by omega) ?_
        refine OA.p (some 9) (.bool false) rfl rfl rfl rfl ?_
        refine OA.nil ?_
        intro _
        refine RA.seq hd ?_
        refine RA.seq hd ?_
        refine RA.par (md := [some [], some [], some [], some [], some [], some [], some [n5], some [], some [], some [n3], some [jq], some [jq], some [], some [], some []]) env_ok (hd.of (by omega) (kb6 (by omega))) (by kernel_rfl) ?_
        refine PQ.pure (dst := (some 79)) (v := (.bool false)) rfl rfl rfl noStore (none_ok _ _) rfl ?_
        refine PQ.pure (dst := (some 80)) (v := (.bool true)) rfl rfl rfl noStore (none_ok _ _) rfl ?_
        refine PQ.pure (dst := (some 81)) (v := (.bool true)) rfl rfl rfl noStore (none_ok _ _) rfl ?_
        refine PQ.pure (dst := (some 82)) (v := (.bool true)) rfl rfl rfl noStore (none_ok _ _) rfl ?_
        refine PQ.off (dst := (some 83)) rfl rfl rfl ?_
        refine PQ.off (dst := (some 84)) rfl rfl rfl ?_
        refine PQ.off (dst := (some 85)) rfl rfl rfl ?_
        refine PQ.off (dst := (some 86)) rfl rfl rfl ?_
        refine PQ.off (dst := (some 87)) rfl rfl rfl ?_
        refine PQ.off (dst := (some 88)) rfl rfl rfl ?_
        refine PQ.off (dst := (some 89)) rfl rfl rfl ?_
        refine PQ.off (dst := (some 90)) rfl rfl rfl ?_
        refine PQ.off (dst := (some 91)) rfl rfl rfl ?_
        refine PQ.off (dst := (some 92)) rfl rfl rfl ?_
        refine PQ.pure (dst := (some 93)) (v := (.bool true)) rfl rfl rfl noStore (none_ok _ _) rfl ?_
        refine PQ.done (d := []) (by kernel_rfl) ?_
        intro _
        refine RA.rebase [(0, lv), (3, (Pt q 0 0)), (4, (.slice (some ⟨jq, 0, none⟩) 0 0)), (5, (.int .i64 ((i : Nat) : Int))), (6, (Pt n3 0 0)), (7, (.bool true)), (8, (Pt n5 0 0)), (9, (.bool false)), (25, (.bool true)), (44, (.int .i64 (a.what.tmod 5))), (70, (.bool true)), (93, (.bool true))] ⟨rfl, rfl, rfl, rfl, rfl, rfl, rfl, rfl, rfl, rfl, rfl, rfl, trivial⟩ (fun τr6 => ?_)
        refine RA.condT rfl ?_
        refine RA.seq hd ?_
        refine RA.region env_ok ?_
        refine OA.p (some 2) (.bool false) rfl rfl rfl rfl ?_
        refine OA.nil ?_
        intro _
        refine RA.ret env_ok ?_
        exfalso
        omega
       ·
        refine OA.p (some 71) (.bool false) rfl rfl rfl (Eq.trans (r_bin rfl rfl rfl (b_eql rfl)) (dF hc5)) ?_
        refine OA.p (some 70) (.bool false) rfl rfl rfl rfl ?_
        refine OA.nil ?_
        intro _
        refine RA.condF rfl ?_
        refine RA.seq hd ?_
        refine RA.region env_ok ?_
        by_cases hc6 : (a.what.tmod 5) = 3
        ·
         refine OA.p (some 108) (.bool true) rfl rfl rfl (Eq.trans (r_bin rfl rfl rfl (b_eql rfl)) (dT hc6)) ?_
         refine OA.p (some 107) (.bool true) rfl rfl rfl rfl ?_
         refine OA.nil ?_
         intro _
         refine RA.condT rfl ?_
         refine RA.seq hd ?_
         refine RA.seq hd ?_
         refine RA.region env_ok ?_
         refine OA.p (some 109) (Pt q 0 0) rfl rfl rfl rfl ?_
         refine OA.p (some 110) (Pt n3 0 7) rfl rfl rfl rfl ?_
         refine OA.p (some 111) (.int .i64 a.pos) rfl rfl rfl (r_load1 rfl rfl rfl rfl rfl get_here rfl rfl) ?_
         refine OA.call (dst := (some 112)) (all := [(Pt q 0 0), (.int .i64 a.pos)]) rfl rfl rfl rfl rfl rfl rfl rfl (CQ.imp (nDoubleOA (hd.of (by omega) (kb4 (by omega))) q a.pos (gt2 (by omega) get_here)) ?_)
         rintro _ n7 _ ⟨rfl, rfl⟩ hn7
         refine OA.app0 ?_
         refine OA.p (some 113) (.bool true) rfl rfl rfl rfl ?_
         refine OA.p (some 114) (.bool true) rfl rfl rfl rfl ?_
         refine OA.nil ?_
         intro _
         refine RA.condT rfl ?_
         refine RA.seq hd ?_
         refine RA.region env_ok ?_
         refine OA.p (some 2) (.bool false) rfl rfl rfl rfl ?_
         refine OA.nil ?_
         intro _
         refine RA.ret env_ok ?_
         exfalso
         omega
        ·
         refine OA.p (some 108) (.bool false) rfl rfl rfl (Eq.trans (r_bin rfl rfl rfl (b_eql rfl)) (dF hc6)) ?_
         refine OA.p (some 107) (.bool false) rfl rfl rfl rfl ?_
         refine OA.nil ?_
         intro _
         refine RA.condF rfl ?_
         refine RA.seq hd ?_
         refine RA.region env_ok ?_
         by_cases hc7 : (a.what.tmod 5) = 4
         ·
          refine OA.p (some 127) (.bool true) rfl rfl rfl (Eq.trans (r_bin rfl rfl rfl (b_eql rfl)) (dT hc7)) ?_
          refine OA.p (some 126) (.bool true) rfl rfl rfl rfl ?_
          refine OA.nil ?_
          intro _
          refine RA.condT rfl ?_
          refine RA.seq hd ?_
          refine RA.region env_ok ?_
          refine OA.p (some 128) (.bool true) rfl rfl rfl rfl ?_
          refine OA.p (some 129) (.bool true) rfl rfl rfl rfl ?_
          refine OA.p (some 130) (.slice (some ⟨jq, 0, none⟩) 0 0) rfl rfl rfl rfl ?_
          refine OA.p (some 131) (Pt n3 0 7) rfl rfl rfl rfl ?_
          refine OA.p (some 132) (.int .i64 a.pos) rfl rfl rfl (r_load1 rfl rfl rfl rfl rfl get_here rfl rfl) ?_
          refine OA.p (some 133) (.pointer (some ⟨jq, a.pos.toNat, some 0⟩)) rfl rfl rfl (r_iaS (l := a.pos.toNat) rfl rfl rfl rfl rfl rfl (by omega) (by omega) (gt3 (by omega) get_here) rfl (by omega)) ?_
          refine OA.p (some 134) (.pointer (some ⟨jq, a.pos.toNat, some 5⟩)) rfl rfl rfl rfl ?_
          by_cases hc8 : (([] : List Item).getD a.pos.toNat dItem).bent = true
          ·
           refine OA.p (some 135) (.bool true) rfl rfl rfl (Eq.trans (r_loadF (c := cItem) dItem rfl rfl rfl rfl rfl (gt3 (by omega) get_here) (by have := (show ([] : List Item).length = 0 from rfl); omega) rfl) (bT hc8)) ?_
           refine OA.p (some 136) (.bool false) rfl rfl rfl rfl ?_
           refine OA.p (some 137) (.bool false) rfl rfl rfl rfl ?_
           refine OA.p (some 138) (.bool false) rfl rfl rfl rfl ?_
           refine OA.off (dst := (some 139)) rfl rfl rfl ?_
           refine OA.off (dst := (some 140)) rfl rfl rfl ?_
           refine OA.off (dst := (some 141)) rfl rfl rfl ?_
           refine OA.off (dst := (some 142)) rfl rfl rfl ?_
           refine OA.off (dst := (some 143)) rfl rfl rfl ?_
           refine OA.off (dst := (some 144)) rfl rfl rfl ?_
           refine OA.off (dst := (some 145)) rfl rfl rfl ?_
           refine OA.off (dst := (some 146)) rfl rfl rfl ?_
           refine OA.p (some 147) (.bool false) rfl rfl rfl rfl ?_
           refine OA.p (some 10) (.bool false) rfl rfl rfl rfl ?_
           refine OA.nil ?_
           intro _
           refine RA.rebase [(0, lv), (3, (Pt q 0 0)), (4, (.slice (some ⟨jq, 0, none⟩) 0 0)), (5, (.int .i64 ((i : Nat) : Int))), (6, (Pt n3 0 0)), (7, (.bool true)), (10, (.bool false)), (25, (.bool true)), (44, (.int .i64 (a.what.tmod 5))), (70, (.bool false)), (107, (.bool false)), (126, (.bool true))] ⟨rfl, rfl, rfl, rfl, rfl, rfl, rfl, rfl, rfl, rfl, rfl, rfl, trivial⟩ (fun τr8 => ?_)
           refine RA.seq hd ?_
           refine RA.seq hd ?_
           refine RA.region env_ok ?_
           refine OA.p (some 148) (Pt q 0 0) rfl rfl rfl rfl ?_
           refine OA.p (some 149) (Pt n3 0 7) rfl rfl rfl rfl ?_
           refine OA.p (some 150) (.int .i64 a.pos) rfl rfl rfl (r_load1 rfl rfl rfl rfl rfl get_here rfl rfl) ?_
           refine OA.p (some 151) (Pt n3 0 8) rfl rfl rfl rfl ?_
           refine OA.p (some 152) (.int .i64 a.bit) rfl rfl rfl (r_load1 rfl rfl rfl rfl rfl get_here rfl rfl) ?_
           refine OA.call (dst := (some 153)) (all := [(Pt q 0 0), (.int .i64 a.pos), (.int .i64 a.bit)]) rfl rfl rfl rfl rfl rfl rfl rfl (CQ.imp (nBendOA (hd.of (by omega) (kb4 (by omega))) q a.pos a.bit (gt2 (by omega) get_here)) ?_)
           rintro _ n9 _ ⟨rfl, rfl⟩ hn9
           refine OA.app0 ?_
           refine OA.p (some 154) (.bool false) rfl rfl rfl rfl ?_
           refine OA.p (some 155) (.bool false) rfl rfl rfl rfl ?_
           refine OA.nil ?_
           intro _
           refine RA.condF rfl ?_
           refine RA.skip env_ok ?_
           intro _
           refine RA.seq hd ?_
           refine RA.region env_ok ?_
           refine OA.p (some 156) (.bool false) rfl rfl rfl rfl ?_
           refine OA.nil ?_
           intro _
           refine RA.condF rfl ?_
           refine RA.skip env_ok ?_
           exact ⟨rfl, .inl (⟨jq, ⟨rfl, rfl, rfl, rfl, trivial⟩, ⟨[(q, some ⟨[[(.slice none 0 0), (.int .i64 0)]], 2, 115, true⟩), (jq, some (oItem ([] : List Item)))], (Less.of (fac (mm (fun _ => get_here) (fun _ => (gt2 (by omega) get_here))) (fac (mm (fun _ => (get_there (by omega) get_here)) (fun _ => (gt3 (by omega) get_here))) fan)) (gone_of (by simp only [goneP, memP, List.cons_append, List.nil_append, true_or, or_true, true_and, and_true, or_false] <;> omega))), rfl⟩, by omega, (kb2 (by omega)), ⟨by omega, by omega⟩⟩)⟩
          ·
           refine OA.p (some 135) (.bool false) rfl rfl rfl (Eq.trans (r_loadF (c := cItem) dItem rfl rfl rfl rfl rfl (gt3 (by omega) get_here) (by have := (show ([] : List Item).length = 0 from rfl); omega) rfl) (bF hc8)) ?_
           refine OA.p (some 136) (.bool true) rfl rfl rfl rfl ?_
           refine OA.p (some 137) (.bool true) rfl rfl rfl rfl ?_
           refine OA.p (some 138) (.bool true) rfl rfl rfl rfl ?_
           refine OA.p (some 139) (.slice (some ⟨jq, 0, none⟩) 0 0) rfl rfl rfl rfl ?_
           refine OA.p (some 140) (Pt n3 0 7) rfl rfl rfl rfl ?_
           refine OA.p (some 141) (.int .i64 a.pos) rfl rfl rfl (r_load1 rfl rfl rfl rfl rfl get_here rfl rfl) ?_
           refine OA.p (some 142) (.pointer (some ⟨jq, a.pos.toNat, some 0⟩)) rfl rfl rfl (r_iaS (l := a.pos.toNat) rfl rfl rfl rfl rfl rfl (by omega) (by omega) (gt3 (by omega) get_here) rfl (by omega)) ?_
           refine OA.p (some 143) (.pointer (some ⟨jq, a.pos.toNat, some 2⟩)) rfl rfl rfl rfl ?_
           refine OA.p (some 144) (.pointer (some ⟨jq, a.pos.toNat, some 4⟩)) rfl rfl rfl rfl ?_
           refine OA.p (some 145) (.string (([] : List Item).getD a.pos.toNat dItem).s) rfl rfl rfl (r_loadF (c := cItem) dItem rfl rfl rfl rfl rfl (gt3 (by omega) get_here) (by have := (show ([] : List Item).length = 0 from rfl); omega) rfl) ?_
           by_cases hc9 : (([] : List Item).getD a.pos.toNat dItem).s = (ByteArray.mk #[])
           ·
            refine OA.p (some 146) (.bool false) rfl rfl rfl (Eq.trans (r_neqS rfl rfl rfl) (ndT hc9)) ?_
            refine OA.p (some 147) (.bool false) rfl rfl rfl rfl ?_
            refine OA.p (some 10) (.bool false) rfl rfl rfl rfl ?_
            refine OA.nil ?_
            intro _
            refine RA.rebase [(0, lv), (3, (Pt q 0 0)), (4, (.slice (some ⟨jq, 0, none⟩) 0 0)), (5, (.int .i64 ((i : Nat) : Int))), (6, (Pt n3 0 0)), (7, (.bool true)), (10, (.bool false)), (25, (.bool true)), (44, (.int .i64 (a.what.tmod 5))), (70, (.bool false)), (107, (.bool false)), (126, (.bool true))] ⟨rfl, rfl, rfl, rfl, rfl, rfl, rfl, rfl, rfl, rfl, rfl, rfl, trivial⟩ (fun τr10 => ?_)
            refine RA.seq hd ?_
            refine RA.seq hd ?_
            refine RA.region env_ok ?_
            refine OA.p (some 148) (Pt q 0 0) rfl rfl rfl rfl ?_
            refine OA.p (some 149) (Pt n3 0 7) rfl rfl rfl rfl ?_
            refine OA.p (some 150) (.int .i64 a.pos) rfl rfl rfl (r_load1 rfl rfl rfl rfl rfl get_here rfl rfl) ?_
            refine OA.p (some 151) (Pt n3 0 8) rfl rfl rfl rfl ?_
            refine OA.p (some 152) (.int .i64 a.bit) rfl rfl rfl (r_load1 rfl rfl rfl rfl rfl get_here rfl rfl) ?_
            refine OA.call (dst := (some 153)) (all := [(Pt q 0 0), (.int .i64 a.pos), (.int .i64 a.bit)]) rfl rfl rfl rfl rfl rfl rfl rfl (CQ.imp (nBendOA (hd.of (by omega) (kb4 (by omega))) q a.pos a.bit (gt2 (by omega) get_here)) ?_)
            rintro _ n11 _ ⟨rfl, rfl⟩ hn11
            refine OA.app0 ?_
            refine OA.p (some 154) (.bool false) rfl rfl rfl rfl ?_
            refine OA.p (some 155) (.bool false) rfl rfl rfl rfl ?_
            refine OA.nil ?_
            intro _
            refine RA.condF rfl ?_
            refine RA.skip env_ok ?_
            intro _
            refine RA.seq hd ?_
            refine RA.region env_ok ?_
            refine OA.p (some 156) (.bool false) rfl rfl rfl rfl ?_
            refine OA.nil ?_
            intro _
            refine RA.condF rfl ?_
            refine RA.skip env_ok ?_
            exact ⟨rfl, .inl (⟨jq, ⟨rfl, rfl, rfl, rfl, trivial⟩, ⟨[(q, some ⟨[[(.slice none 0 0), (.int .i64 0)]], 2, 115, true⟩), (jq, some (oItem ([] : List Item)))], (Less.of (fac (mm (fun _ => get_here) (fun _ => (gt2 (by omega) get_here))) (fac (mm (fun _ => (get_there (by omega) get_here)) (fun _ => (gt3 (by omega) get_here))) fan)) (gone_of (by simp only [goneP, memP, List.cons_append, List.nil_append, true_or, or_true, true_and, and_true, or_false] <;> omega))), rfl⟩, by omega, (kb2 (by omega)), ⟨by omega, by omega⟩⟩)⟩
           ·
            refine OA.p (some 146) (.bool true) rfl rfl rfl (Eq.trans (r_neqS rfl rfl rfl) (ndF hc9)) ?_
            refine OA.p (some 147) (.bool true) rfl rfl rfl rfl ?_
            refine OA.p (some 10) (.bool true) rfl rfl rfl rfl ?_
            refine OA.nil ?_
            intro _
            refine RA.rebase [(0, lv), (3, (Pt q 0 0)), (4, (.slice (some ⟨jq, 0, none⟩) 0 0)), (5, (.int .i64 ((i : Nat) : Int))), (6, (Pt n3 0 0)), (7, (.bool true)), (10, (.bool true)), (25, (.bool true)), (44, (.int .i64 (a.what.tmod 5))), (70, (.bool false)), (107, (.bool false)), (126, (.bool true))] ⟨rfl, rfl, rfl, rfl, rfl, rfl, rfl, rfl, rfl, rfl, rfl, rfl, trivial⟩ (fun τr12 => ?_)
            refine RA.seq hd ?_
            refine RA.seq hd ?_
            refine RA.region env_ok ?_
            refine OA.p (some 148) (Pt q 0 0) rfl rfl rfl rfl ?_
            refine OA.p (some 149) (Pt n3 0 7) rfl rfl rfl rfl ?_
            refine OA.p (some 150) (.int .i64 a.pos) rfl rfl rfl (r_load1 rfl rfl rfl rfl rfl get_here rfl rfl) ?_
            refine OA.p (some 151) (Pt n3 0 8) rfl rfl rfl rfl ?_
            refine OA.p (some 152) (.int .i64 a.bit) rfl rfl rfl (r_load1 rfl rfl rfl rfl rfl get_here rfl rfl) ?_
            refine OA.call (dst := (some 153)) (all := [(Pt q 0 0), (.int .i64 a.pos), (.int .i64 a.bit)]) rfl rfl rfl rfl rfl rfl rfl rfl (CQ.imp (nBendOA (hd.of (by omega) (kb4 (by omega))) q a.pos a.bit (gt2 (by omega) get_here)) ?_)
            rintro _ n13 _ ⟨rfl, rfl⟩ hn13
            refine OA.app0 ?_
            refine OA.p (some 154) (.bool true) rfl rfl rfl rfl ?_
            refine OA.p (some 155) (.bool true) rfl rfl rfl rfl ?_
            refine OA.nil ?_
            intro _
            refine RA.condT rfl ?_
            refine RA.seq hd ?_
            refine RA.region env_ok ?_
            refine OA.p (some 2) (.bool false) rfl rfl rfl rfl ?_
            refine OA.nil ?_
            intro _
            refine RA.ret env_ok ?_
            exfalso
            omega
         ·
          refine OA.p (some 127) (.bool false) rfl rfl rfl (Eq.trans (r_bin rfl rfl rfl (b_eql rfl)) (dF hc7)) ?_
          refine OA.p (some 126) (.bool false) rfl rfl rfl rfl ?_
          refine OA.nil ?_
          intro _
          refine RA.condF rfl ?_
          refine RA.seq hd ?_
          refine RA.region env_ok ?_
          refine OA.p (some 45) (Pt n3 0 1) rfl rfl rfl rfl ?_
          refine OA.p (some 46) (.agg ⟨[(.int .i64 a.leg), (.int .i64 a.nat), (W a.fr), (W a.to), (.string a.s), (.bool a.bent)]⟩) rfl rfl rfl (r_loadA rfl rfl rfl rfl get_here rfl rfl rfl) ?_
          refine OA.op1 (dst := (some 11)) (v := (.pointer (some ⟨(n3 + 1), 0, some 0⟩))) (n1 := (n3 + 2)) (w := ((n3 + 1), some ⟨[xNp47], 6, 59, true⟩)) rfl rfl rfl rfl (by omega) ?_
          refine OA.op1 (dst := none) (v := (.tuple #[])) (n1 := (n3 + 2)) (w := ((n3 + 1), some ⟨[[(.int .i64 a.leg), (.int .i64 a.nat), (W a.fr), (W a.to), (.string a.s), (.bool a.bent)]], 6, 59, true⟩)) rfl rfl rfl (r_store rfl rfl rfl rfl rfl rfl rfl get_here rfl rfl (Nat.le_of_ble_eq_true rfl) rfl) (by omega) ?_
          refine OA.nil ?_
          intro _
          refine RA.seq hd ?_
          refine RA.region env_ok ?_
          refine OA.p (some 47) (Pt n3 0 1) rfl rfl rfl rfl ?_
          refine OA.p (some 48) (Pt n3 0 3) rfl rfl rfl rfl ?_
          refine OA.p (some 49) (Pt n3 0 5) rfl rfl rfl rfl ?_
          refine OA.p (some 50) (.string a.s) rfl rfl rfl (r_load1 rfl rfl rfl rfl rfl (gt2 (by omega) get_here) rfl rfl) ?_
          refine OA.p (some 51) (Pt n3 0 1) rfl rfl rfl rfl ?_
          refine OA.p (some 52) (Pt n3 0 3) rfl rfl rfl rfl ?_
          refine OA.p (some 53) (Pt n3 0 5) rfl rfl rfl rfl ?_
          refine OA.p (some 54) (.string a.s) rfl rfl rfl (r_load1 rfl rfl rfl rfl rfl (gt2 (by omega) get_here) rfl rfl) ?_
          refine OA.p (some 55) (.int .i64 ((a.s.size : Nat) : Int)) rfl rfl rfl rfl ?_
          refine OA.p (some 56) (.int .i64 (((min a.s.size 10) : Nat) : Int)) rfl rfl rfl (r_min (a := a.s.size) (b := 10) rfl rfl rfl) ?_
          refine OA.p (some 57) (.string (a.s.extract 0 (min a.s.size 10))) rfl rfl rfl (r_cut (a := 0) (b := (min a.s.size 10)) rfl rfl (fun _ => rfl) (fun _ => rfl) rfl rfl rfl bound_nat (by omega) (by omega) rfl) ?_
          refine OA.p (some 58) (.pointer (some ⟨(n3 + 1), 0, some 2⟩)) rfl rfl rfl rfl ?_
          refine OA.p (some 59) (.pointer (some ⟨(n3 + 1), 0, some 4⟩)) rfl rfl rfl rfl ?_
          refine OA.op1 (dst := none) (v := (.tuple #[])) (n1 := (n3 + 2)) (w := ((n3 + 1), some ⟨[(xNp46 a)], 6, 59, true⟩)) rfl rfl rfl (r_store rfl rfl rfl rfl rfl rfl rfl get_here rfl rfl (Nat.le_of_ble_eq_true rfl) rfl) (by omega) ?_
          refine OA.nil ?_
          intro _
          refine RA.weaken (D' := [((n3 + 1), some ⟨[(xNp46 a)], 6, 59, true⟩), (n3, some ⟨[(cAct a)], 9, 67, true⟩), (q, some ⟨[[(.slice none 0 0), (.int .i64 0)]], 2, 115, true⟩), (jq, some (oItem ([] : List Item)))]) hd (Less.of (fac (mm (fun _ => get_here) (fun _ => get_here)) (fac (mm (fun _ => (get_there (by omega) get_here)) (fun _ => (gt3 (by omega) get_here))) (fac (mm (fun _ => (gt2 (by omega) get_here)) (fun _ => (gt5 (by omega) get_here))) (fac (mm (fun _ => (gt3 (by omega) get_here)) (fun _ => (gt6 (by omega) get_here))) fan)))) (gone_of (by simp only [goneP, memP, List.cons_append, List.nil_append, true_or, or_true, true_and, and_true, or_false] <;> omega))) ?_
          refine RA.rebase [(0, lv), (3, (Pt q 0 0)), (4, (.slice (some ⟨jq, 0, none⟩) 0 0)), (5, (.int .i64 ((i : Nat) : Int))), (6, (Pt n3 0 0)), (7, (.bool true)), (11, (.pointer (some ⟨(n3 + 1), 0, some 0⟩))), (25, (.bool true)), (44, (.int .i64 (a.what.tmod 5))), (70, (.bool false)), (107, (.bool false)), (126, (.bool false))] ⟨rfl, rfl, rfl, rfl, rfl, rfl, rfl, rfl, rfl, rfl, rfl, rfl, trivial⟩ (fun τr14 => ?_)
          refine RA.seq hd ?_
          refine RA.seq hd ?_
          refine RA.region env_ok ?_
          refine OA.p (some 60) (Pt q 0 0) rfl rfl rfl rfl ?_
          refine OA.p (some 61) (.agg ⟨(xNp46 a)⟩) rfl rfl rfl (r_loadA rfl rfl rfl rfl get_here rfl rfl rfl) ?_
          refine OA.call (dst := (some 62)) (all := (xNp44 q a)) rfl rfl rfl rfl rfl rfl rfl rfl (CQ.imp (nPutA (hd.of (by omega) (kb4 (by omega))) q (Item.mk a.leg a.nat a.fr a.to (a.s.extract 0 (min a.s.size 10)) a.bent) (gt2 (by omega) get_here)) ?_)
          rintro _ n15 _ ⟨in15, hin15a, hin15b, rfl, rfl⟩ hn15
          refine OA.app2 ?_
          refine OA.p (some 63) (.bool false) rfl rfl rfl rfl ?_
          refine OA.nil ?_
          intro _
          refine RA.condF rfl ?_
          refine RA.skip env_ok ?_
          intro _
          refine RA.par (md := [some [], some [], none, some [(n3 + 1)], some [], none, some []]) env_ok (hd.of (by omega) (kb6 (by omega))) (by kernel_rfl) ?_
          refine PQ.op (dst := (some 64)) (v := (.slice (some ⟨n15, 0, none⟩) 0 0)) (n1 := (n15 + 1)) (d1 := [(n15, some (oItem ([] : List Item)))]) rfl rfl rfl noStore (none_ok _ _) (by kernel_rfl) (by omega) (kp1 (wr_new (by omega) (by omega))) ?_
          refine PQ.pure (dst := (some 65)) (v := (.slice (some ⟨jq, 0, none⟩) 0 0)) rfl rfl rfl noStore (none_ok _ _) rfl ?_
          refine PQ.pure (dst := (some 66)) (v := (.slice (some ⟨n15, 0, none⟩) 0 0)) rfl rfl rfl _ (seen_any (V := [(n15, some (oItem ([] : List Item)))]) (D := [(q, some ⟨[[(.slice (some ⟨in15, 0, none⟩) 1 0), (.int .i64 0)]], 2, 115, true⟩), (in15, some (oItem [(Item.mk a.leg a.nat a.fr a.to (a.s.extract 0 (min a.s.size 10)) a.bent)])), ((n3 + 1), some ⟨[(xNp46 a)], 6, 59, true⟩), (n3, some ⟨[(cAct a)], 9, 67, true⟩), (q, some ⟨[[(.slice none 0 0), (.int .i64 0)]], 2, 115, true⟩), (jq, some (oItem ([] : List Item)))]) (by kernel_rfl)) (r_appendZ rfl rfl rfl rfl (.inl ⟨_, _, _, rfl⟩) rfl rfl rfl rfl rfl (by decide) (by omega)) ?_
          refine PQ.pure (dst := (some 67)) (v := (.agg ⟨(xNp46 a)⟩)) rfl rfl rfl (app [((n3 + 1), some ⟨[(xNp46 a)], 6, 59, true⟩)] noStore) (seen_one (V := []) (D := [(q, some ⟨[[(.slice (some ⟨in15, 0, none⟩) 1 0), (.int .i64 0)]], 2, 115, true⟩), (in15, some (oItem [(Item.mk a.leg a.nat a.fr a.to (a.s.extract 0 (min a.s.size 10)) a.bent)])), ((n3 + 1), some ⟨[(xNp46 a)], 6, 59, true⟩), (n3, some ⟨[(cAct a)], 9, 67, true⟩), (q, some ⟨[[(.slice none 0 0), (.int .i64 0)]], 2, 115, true⟩), (jq, some (oItem ([] : List Item)))]) (by kernel_rfl) (gt2 (by omega) get_here)) (r_loadA rfl rfl rfl rfl get_here rfl rfl rfl) ?_
          refine PQ.op (dst := (some 68)) (v := (.slice (some ⟨(n15 + 1), 0, none⟩) 1 0)) (n1 := (n15 + 2)) (d1 := [((n15 + 1), some ⟨[(xNp46 a)], 6, 59, true⟩)]) rfl rfl rfl noStore (none_ok _ _) (by kernel_rfl) (by omega) (kp1 (wr_new (by omega) (by omega))) ?_
          refine PQ.op (dst := (some 69)) (v := (.slice (some ⟨(n15 + 2), 0, none⟩) 1 0)) (n1 := (n15 + 3)) (d1 := [((n15 + 2), some (oItem [(Item.mk a.leg a.nat a.fr a.to (a.s.extract 0 (min a.s.size 10)) a.bent)])), (n15, none)]) rfl rfl rfl _ (seen_any (V := [((n15 + 1), some ⟨[(xNp46 a)], 6, 59, true⟩), (n15, some (oItem ([] : List Item)))]) (D := [(q, some ⟨[[(.slice (some ⟨in15, 0, none⟩) 1 0), (.int .i64 0)]], 2, 115, true⟩), (in15, some (oItem [(Item.mk a.leg a.nat a.fr a.to (a.s.extract 0 (min a.s.size 10)) a.bent)])), ((n3 + 1), some ⟨[(xNp46 a)], 6, 59, true⟩), (n3, some ⟨[(cAct a)], 9, 67, true⟩), (q, some ⟨[[(.slice none 0 0), (.int .i64 0)]], 2, 115, true⟩), (jq, some (oItem ([] : List Item)))]) (by kernel_rfl)) (r_appendR (c := cItem) (l' := [(Item.mk a.leg a.nat a.fr a.to (a.s.extract 0 (min a.s.size 10)) a.bent)]) rfl rfl rfl rfl rfl rfl rfl rfl rfl rfl (by decide) (get_there (by omega) get_here) get_here (by rw [show ([] : List Item).length = 0 from rfl]) rfl (by omega) (of_decide_eq_true (by kernel_rfl)) (by omega)) (by omega) (kp2 (wr_new (by omega) (by omega)) (wr_tight (by kernel_rfl) (by omega))) ?_
          refine PQ.pure (dst := (some 4)) (v := (.slice (some ⟨(n15 + 2), 0, none⟩) 1 0)) rfl rfl rfl noStore (none_ok _ _) rfl ?_
          refine PQ.done (d := [((n15 + 2), some (oItem [(Item.mk a.leg a.nat a.fr a.to (a.s.extract 0 (min a.s.size 10)) a.bent)])), (n15, none), ((n15 + 1), some ⟨[(xNp46 a)], 6, 59, true⟩), (n15, some (oItem ([] : List Item)))]) (by kernel_rfl) ?_
          exact ⟨rfl, .inr (⟨1, [(Item.mk a.leg a.nat a.fr a.to (a.s.extract 0 (min a.s.size 10)) a.bent)], in15, (n15 + 2), ⟨rfl, rfl, rfl, rfl, trivial⟩, ⟨[(q, some ⟨[[(.slice (some ⟨in15, 0, none⟩) 1 0), (.int .i64 0)]], 2, 115, true⟩), (in15, some (oItem [(Item.mk a.leg a.nat a.fr a.to (a.s.extract 0 (min a.s.size 10)) a.bent)])), ((n15 + 2), some (oItem [(Item.mk a.leg a.nat a.fr a.to (a.s.extract 0 (min a.s.size 10)) a.bent)]))], (Less.of (fac (mm (fun _ => get_here) (fun _ => (gt4 (by omega) get_here))) (fac (mm (fun _ => (get_there (by omega) get_here)) (fun _ => (gt5 (by omega) get_here))) (fac (mm (fun _ => (gt2 (by omega) get_here)) (fun _ => get_here)) fan))) (gone_of (by simp only [goneP, memP, List.cons_append, List.nil_append, true_or, or_true, true_and, and_true, or_false] <;> omega))), rfl⟩, by omega, (kb3 (by omega)), ⟨rfl, by omega, by omega, by omega, by omega, by omega, by omega, SZ.one (cut10 _)⟩⟩)⟩
      ·
       rintro _ τ16 n16 Dn16 hmn16 ⟨rfl, hSn16⟩
       rcases hSn16 with ⟨jq2, hHn16, ⟨_, hLn16, rfl⟩, hn16, hKn16, hIn16⟩ | ⟨N2, l2, j2, jq2, hHn16, ⟨_, hLn16, rfl⟩, hn16, hKn16, hIn16⟩
       ·
        intro _
        refine RA.weaken hd hLn16 ?_
        rw [Has.eq hHn16]
        have hKn16_0 : q < n16 := hKn16 _ (by simp only [keys, List.map_cons, List.map_nil, List.mem_cons, true_or, or_true])
        have hKn16_1 : jq2 < n16 := hKn16 _ (by simp only [keys, List.map_cons, List.map_nil, List.mem_cons, true_or, or_true])
        clear hKn16
        obtain ⟨hjq, hqjq⟩ := hIn16
        refine RA.seq hd ?_
        refine RA.region env_ok ?_
        refine OA.p (some 181) (Pt q 0 0) rfl rfl rfl rfl ?_
        refine OA.callP (dst := (some 182)) (all := [(Pt q 0 0)]) (v := (.slice none 0 0)) (hd.of (by omega) (kb2 (by omega))) rfl rfl rfl rfl rfl rfl rfl rfl (nAllA q get_here) ?_
        intro n17 hn17
        refine OA.p (some 12) (.slice none 0 0) rfl rfl rfl rfl ?_
        refine OA.nil ?_
        intro _
        refine RA.seq hd ?_
        refine RA.seq hd ?_
        refine RA.region env_ok ?_
        refine OA.p (some 183) (.slice none 0 0) rfl rfl rfl rfl ?_
        refine OA.p (some 184) (.int .i64 0) rfl rfl rfl rfl ?_
        refine OA.p (some 185) (.slice (some ⟨jq2, 0, none⟩) 0 0) rfl rfl rfl rfl ?_
        refine OA.p (some 186) (.int .i64 0) rfl rfl rfl rfl ?_
        refine OA.p (some 187) (.bool false) rfl rfl rfl (r_bin rfl rfl rfl (b_neq rfl)) ?_
        refine OA.p (some 188) (.bool false) rfl rfl rfl rfl ?_
        refine OA.p (some 189) (Pt q 0 0) rfl rfl rfl rfl ?_
        refine OA.callP (dst := (some 190)) (all := [(Pt q 0 0)]) (v := (.int .i64 0)) (hd.of (by omega) (kb2 (by omega))) rfl rfl rfl rfl rfl rfl rfl rfl (nLenA q get_here) ?_
        intro n18 hn18
        refine OA.p (some 191) (.slice (some ⟨jq2, 0, none⟩) 0 0) rfl rfl rfl rfl ?_
        refine OA.p (some 192) (.int .i64 0) rfl rfl rfl rfl ?_
        refine OA.p (some 193) (.bool false) rfl rfl rfl (r_bin rfl rfl rfl (b_neq rfl)) ?_
        refine OA.p (some 194) (.bool false) rfl rfl rfl rfl ?_
        refine OA.nil ?_
        intro _
        refine RA.condF rfl ?_
        refine RA.skip env_ok ?_
        intro _
        refine RA.seq hd ?_
        refine RA.region env_ok ?_
        refine OA.p (some 13) (.int .i64 0) rfl rfl rfl rfl ?_
        refine OA.nil ?_
        intro _
        refine RA.block ?_
        refine RA.unroll hd ?_
        refine RA.seq hd ?_
        refine RA.seq hd ?_
        refine RA.region env_ok ?_
        refine OA.p (some 195) (.int .i64 0) rfl rfl rfl rfl ?_
        refine OA.p (some 196) (.slice (some ⟨jq2, 0, none⟩) 0 0) rfl rfl rfl rfl ?_
        refine OA.p (some 197) (.int .i64 0) rfl rfl rfl rfl ?_
        refine OA.p (some 198) (.bool false) rfl rfl rfl (r_bin rfl rfl rfl (b_lss rfl)) ?_
        refine OA.nil ?_
        intro _
        refine RA.condF rfl ?_
        refine RA.exit env_ok ?_
        intro _
        refine RA.region env_ok ?_
        refine OA.p (some 26) (.int .i64 ((i : Nat) : Int)) rfl rfl rfl rfl ?_
        refine OA.p (some 27) (.int .i64 (((i + 1) : Nat) : Int)) rfl rfl rfl (r_bin rfl rfl rfl (b_add (i64_eq (by omega)))) ?_
        refine OA.p (some 5) (.int .i64 (((i + 1) : Nat) : Int)) rfl rfl rfl rfl ?_
        refine OA.nil ?_
        refine ⟨(80 - (i + 1)), by omega, [(q, some ⟨[[(.slice none 0 0), (.int .i64 0)]], 2, 115, true⟩), (jq2, some (oItem ([] : List Item)))], (Less.refl _ _ _), .inl (⟨(i + 1), jq2, rfl, by omega, ⟨rfl, rfl, rfl, rfl, trivial⟩, rfl, (kb2 (by omega)), ⟨by omega, by omega, by omega, by omega⟩⟩)⟩
       ·
        intro _
        refine RA.weaken hd hLn16 ?_
        rw [Has.eq hHn16]
        have hKn16_0 : q < n16 := hKn16 _ (by simp only [keys, List.map_cons, List.map_nil, List.mem_cons, true_or, or_true])
        have hKn16_1 : j2 < n16 := hKn16 _ (by simp only [keys, List.map_cons, List.map_nil, List.mem_cons, true_or, or_true])
        have hKn16_2 : jq2 < n16 := hKn16 _ (by simp only [keys, List.map_cons, List.map_nil, List.mem_cons, true_or, or_true])
        clear hKn16
        obtain ⟨hl, hNi, hj, hjq, hqj, hqjq, hjj, hsz⟩ := hIn16
        refine RA.seq hd ?_
        refine RA.region env_ok ?_
        refine OA.p (some 181) (Pt q 0 0) rfl rfl rfl rfl ?_
        refine OA.call (dst := (some 182)) (all := [(Pt q 0 0)]) rfl rfl rfl rfl rfl rfl rfl rfl (CQ.imp (nAll (hd.of (by omega) (kb3 (by omega))) q j2 N2 l2 hl (by omega) (by omega) get_here (get_there (by omega) get_here)) ?_)
        rintro _ n19 _ ⟨in19, hin19a, hin19b, rfl, rfl⟩ hn19
        refine OA.app1 ?_
        refine OA.p (some 12) (.slice (some ⟨in19, 0, none⟩) N2 0) rfl rfl rfl rfl ?_
        refine OA.nil ?_
        intro _
        refine RA.seq hd ?_
        refine RA.seq hd ?_
        refine RA.region env_ok ?_
        refine OA.p (some 183) (.slice (some ⟨in19, 0, none⟩) N2 0) rfl rfl rfl rfl ?_
        refine OA.p (some 184) (.int .i64 ((N2 : Nat) : Int)) rfl rfl rfl rfl ?_
        refine OA.p (some 185) (.slice (some ⟨jq2, 0, none⟩) N2 0) rfl rfl rfl rfl ?_
        refine OA.p (some 186) (.int .i64 ((N2 : Nat) : Int)) rfl rfl rfl rfl ?_
        refine OA.p (some 187) (.bool false) rfl rfl rfl (r_bin rfl rfl rfl (b_neq (decide_eq_false (fun h => h rfl)))) ?_
        refine OA.p (some 188) (.bool false) rfl rfl rfl rfl ?_
        refine OA.p (some 189) (Pt q 0 0) rfl rfl rfl rfl ?_
        refine OA.callP (dst := (some 190)) (all := [(Pt q 0 0)]) (v := (.int .i64 ((N2 : Nat) : Int))) (hd.of (by omega) (kb4 (by omega))) rfl rfl rfl rfl rfl rfl rfl rfl (nLenB q j2 N2 (get_there (by omega) get_here)) ?_
        intro n20 hn20
        refine OA.p (some 191) (.slice (some ⟨jq2, 0, none⟩) N2 0) rfl rfl rfl rfl ?_
        refine OA.p (some 192) (.int .i64 ((N2 : Nat) : Int)) rfl rfl rfl rfl ?_
        refine OA.p (some 193) (.bool false) rfl rfl rfl (r_bin rfl rfl rfl (b_neq (decide_eq_false (fun h => h rfl)))) ?_
        refine OA.p (some 194) (.bool false) rfl rfl rfl rfl ?_
        refine OA.nil ?_
        intro _
        refine RA.condF rfl ?_
        refine RA.skip env_ok ?_
        intro _
        refine RA.seq hd ?_
        refine RA.region env_ok ?_
        refine OA.p (some 13) (.int .i64 0) rfl rfl rfl rfl ?_
        refine OA.nil ?_
        intro _
        refine RA.block ?_
        refine RA.loop hd (fun kk_ τ n' D => (∃ kk : Nat, kk_ = (N2 - kk) ∧ n20 ≤ n' ∧ Has τ [(0, lv), (3, (Pt q 0 0)), (4, (.slice (some ⟨jq2, 0, none⟩) N2 0)), (5, (.int .i64 ((i : Nat) : Int))), (12, (.slice (some ⟨in19, 0, none⟩) N2 0)), (13, (.int .i64 ((kk : Nat) : Int)))] ∧ D = [(in19, some (oItem l2)), (q, some ⟨[[(.slice (some ⟨j2, 0, none⟩) N2 0), (.int .i64 0)]], 2, 115, true⟩), (j2, some (oItem l2)), (jq2, some (oItem l2))] ∧ (∀ i ∈ keys D, i < n') ∧ kk ≤ N2)) ((N2 - 0)) (⟨0, rfl, by omega, ⟨rfl, rfl, rfl, rfl, rfl, rfl, trivial⟩, rfl, (kb4 (by omega)), by omega⟩) ?_
        rintro kn21 τ21 n21 _ ⟨kk, rfl, hn21, hHn21, rfl, hKn21, hIn21⟩
        rw [Has.eq hHn21]
        have hKn21_0 : in19 < n21 := hKn21 _ (by simp only [keys, List.map_cons, List.map_nil, List.mem_cons, true_or, or_true])
        have hKn21_1 : q < n21 := hKn21 _ (by simp only [keys, List.map_cons, List.map_nil, List.mem_cons, true_or, or_true])
        have hKn21_2 : j2 < n21 := hKn21 _ (by simp only [keys, List.map_cons, List.map_nil, List.mem_cons, true_or, or_true])
        have hKn21_3 : jq2 < n21 := hKn21 _ (by simp only [keys, List.map_cons, List.map_nil, List.mem_cons, true_or, or_true])
        clear hKn21
        refine RA.seq hd ?_
        refine RA.seq hd ?_
        refine RA.region env_ok ?_
        refine OA.p (some 195) (.int .i64 ((kk : Nat) : Int)) rfl rfl rfl rfl ?_
        refine OA.p (some 196) (.slice (some ⟨jq2, 0, none⟩) N2 0) rfl rfl rfl rfl ?_
        refine OA.p (some 197) (.int .i64 ((N2 : Nat) : Int)) rfl rfl rfl rfl ?_
        by_cases hc10 : ((kk : Nat) : Int) < ((N2 : Nat) : Int)
        ·
         refine OA.p (some 198) (.bool true) rfl rfl rfl (Eq.trans (r_bin rfl rfl rfl (b_lss rfl)) (dT hc10)) ?_
         refine OA.nil ?_
         intro _
         refine RA.condT rfl ?_
         refine RA.skip env_ok ?_
         intro _
         refine RA.seq hd ?_
         refine RA.block ?_
         refine RA.seq hd ?_
         refine RA.par (md := [some [], some [], some [in19], some [in19], some [], some [], some [jq2], some [jq2], some []]) env_ok (hd.of (by omega) (kb4 (by omega))) (by kernel_rfl) ?_
         refine PQ.pure (dst := (some 201)) (v := (.slice (some ⟨in19, 0, none⟩) N2 0)) rfl rfl rfl noStore (none_ok _ _) rfl ?_
         refine PQ.pure (dst := (some 202)) (v := (.int .i64 ((kk : Nat) : Int))) rfl rfl rfl noStore (none_ok _ _) rfl ?_
         refine PQ.pure (dst := (some 203)) (v := (Pt in19 kk 0)) rfl rfl rfl (app [(in19, some (oItem l2))] noStore) (seen_one (V := []) (D := [(in19, some (oItem l2)), (q, some ⟨[[(.slice (some ⟨j2, 0, none⟩) N2 0), (.int .i64 0)]], 2, 115, true⟩), (j2, some (oItem l2)), (jq2, some (oItem l2))]) (by kernel_rfl) get_here) (r_iaS (l := kk) rfl rfl rfl rfl rfl rfl (by omega) (by omega) get_here rfl (by omega)) ?_
         refine PQ.pure (dst := (some 204)) (v := (.agg ⟨(cItem (l2.getD kk dItem))⟩)) rfl rfl rfl (app [(in19, some (oItem l2))] noStore) (seen_one (V := []) (D := [(in19, some (oItem l2)), (q, some ⟨[[(.slice (some ⟨j2, 0, none⟩) N2 0), (.int .i64 0)]], 2, 115, true⟩), (j2, some (oItem l2)), (jq2, some (oItem l2))]) (by kernel_rfl) get_here) (r_loadR (c := cItem) dItem rfl rfl rfl rfl get_here (by rw [hl]; omega) rfl) ?_
         refine PQ.pure (dst := (some 205)) (v := (.slice (some ⟨jq2, 0, none⟩) N2 0)) rfl rfl rfl noStore (none_ok _ _) rfl ?_
         refine PQ.pure (dst := (some 206)) (v := (.int .i64 ((kk : Nat) : Int))) rfl rfl rfl noStore (none_ok _ _) rfl ?_
         refine PQ.pure (dst := (some 207)) (v := (Pt jq2 kk 0)) rfl rfl rfl (app [(jq2, some (oItem l2))] noStore) (seen_one (V := []) (D := [(in19, some (oItem l2)), (q, some ⟨[[(.slice (some ⟨j2, 0, none⟩) N2 0), (.int .i64 0)]], 2, 115, true⟩), (j2, some (oItem l2)), (jq2, some (oItem l2))]) (by kernel_rfl) (gt3 (by omega) get_here)) (r_iaS (l := kk) rfl rfl rfl rfl rfl rfl (by omega) (by omega) get_here rfl (by omega)) ?_
         refine PQ.pure (dst := (some 208)) (v := (.agg ⟨(cItem (l2.getD kk dItem))⟩)) rfl rfl rfl (app [(jq2, some (oItem l2))] noStore) (seen_one (V := []) (D := [(in19, some (oItem l2)), (q, some ⟨[[(.slice (some ⟨j2, 0, none⟩) N2 0), (.int .i64 0)]], 2, 115, true⟩), (j2, some (oItem l2)), (jq2, some (oItem l2))]) (by kernel_rfl) (gt3 (by omega) get_here)) (r_loadR (c := cItem) dItem rfl rfl rfl rfl get_here (by rw [hl]; omega) rfl) ?_
         refine PQ.pure (dst := (some 209)) (v := (.bool false)) rfl rfl rfl noStore (none_ok _ _) (r_neqA (r := true) rfl rfl rfl (by kernel_rfl) (aeq_self _ _ _ (by kernel_rfl))) ?_
         refine PQ.done (d := []) (by kernel_rfl) ?_
         intro _
         refine RA.condF rfl ?_
         refine RA.skip env_ok ?_
         intro _
         refine RA.region env_ok ?_
         refine OA.p (some 199) (.int .i64 ((kk : Nat) : Int)) rfl rfl rfl rfl ?_
         refine OA.p (some 200) (.int .i64 (((kk + 1) : Nat) : Int)) rfl rfl rfl (r_bin rfl rfl rfl (b_add (i64_eq (by omega)))) ?_
         refine OA.p (some 13) (.int .i64 (((kk + 1) : Nat) : Int)) rfl rfl rfl rfl ?_
         refine OA.nil ?_
         refine ⟨(N2 - (kk + 1)), by omega, [(in19, some (oItem l2)), (q, some ⟨[[(.slice (some ⟨j2, 0, none⟩) N2 0), (.int .i64 0)]], 2, 115, true⟩), (j2, some (oItem l2)), (jq2, some (oItem l2))], (Less.refl _ _ _), ⟨(kk + 1), rfl, by omega, ⟨rfl, rfl, rfl, rfl, rfl, rfl, trivial⟩, rfl, (kb4 (by omega)), by omega⟩⟩
        ·
         refine OA.p (some 198) (.bool false) rfl rfl rfl (Eq.trans (r_bin rfl rfl rfl (b_lss rfl)) (dF hc10)) ?_
         refine OA.nil ?_
         intro _
         refine RA.condF rfl ?_
         refine RA.exit env_ok ?_
         intro _
         refine RA.region env_ok ?_
         refine OA.p (some 26) (.int .i64 ((i : Nat) : Int)) rfl rfl rfl rfl ?_
         refine OA.p (some 27) (.int .i64 (((i + 1) : Nat) : Int)) rfl rfl rfl (r_bin rfl rfl rfl (b_add (i64_eq (by omega)))) ?_
         refine OA.p (some 5) (.int .i64 (((i + 1) : Nat) : Int)) rfl rfl rfl rfl ?_
         refine OA.nil ?_
         refine ⟨(80 - (i + 1)), by omega, [(q, some ⟨[[(.slice (some ⟨j2, 0, none⟩) N2 0), (.int .i64 0)]], 2, 115, true⟩), (j2, some (oItem l2)), (jq2, some (oItem l2))], (Less.of (fac (mm (fun _ => get_here) (fun _ => (get_there (by omega) get_here))) (fac (mm (fun _ => (get_there (by omega) get_here)) (fun _ => (gt2 (by omega) get_here))) (fac (mm (fun _ => (gt2 (by omega) get_here)) (fun _ => (gt3 (by omega) get_here))) fan))) (gone_of (by simp only [goneP, memP, List.cons_append, List.nil_append, true_or, or_true, true_and, and_true, or_false] <;> omega))), .inr (⟨(i + 1), N2, l2, j2, jq2, rfl, by omega, ⟨rfl, rfl, rfl, rfl, trivial⟩, rfl, (kb3 (by omega)), ⟨hl, by omega, by omega, by omega, by omega, by omega, by omega, by omega, by omega, hsz⟩⟩)⟩
     ·
      refine OA.p (some 40) (.bool false) rfl rfl rfl (Eq.trans (r_bin rfl rfl rfl (b_lss rfl)) (dF hc4)) ?_
      refine OA.p (some 41) (.bool false) rfl rfl rfl rfl ?_
      refine OA.p (some 7) (.bool false) rfl rfl rfl rfl ?_
      refine OA.nil ?_
      intro _
      refine RA.rebase [(0, lv), (3, (Pt q 0 0)), (4, (.slice (some ⟨jq, 0, none⟩) 0 0)), (5, (.int .i64 ((i : Nat) : Int))), (6, (Pt n3 0 0)), (7, (.bool false)), (25, (.bool true))] ⟨rfl, rfl, rfl, rfl, rfl, rfl, rfl, trivial⟩ (fun τr22 => ?_)
      refine RA.seq hd (RA.imp (Q := fun x τ' n' D' => x = .normal ∧ ((∃ jq2 : Nat, Has τ' [(0, lv), (3, (Pt q 0 0)), (4, (.slice (some ⟨jq2, 0, none⟩) 0 0)), (5, (.int .i64 ((i : Nat) : Int)))] ∧ (∃ D2, Less n n' D' D2 ∧ D2 = [(q, some ⟨[[(.slice none 0 0), (.int .i64 0)]], 2, 115, true⟩), (jq2, some (oItem ([] : List Item)))]) ∧ (n3 + 1) ≤ n' ∧ (∀ i ∈ keys [(q, some ⟨[[(.slice none 0 0), (.int .i64 0)]], 2, 115, true⟩), (jq2, some (oItem ([] : List Item)))], i < n') ∧ n ≤ jq2 ∧ q ≠ jq2) ∨ (∃ N2 : Nat, ∃ l2 : List Item, ∃ j2 : Nat, ∃ jq2 : Nat, Has τ' [(0, lv), (3, (Pt q 0 0)), (4, (.slice (some ⟨jq2, 0, none⟩) N2 0)), (5, (.int .i64 ((i : Nat) : Int)))] ∧ (∃ D2, Less n n' D' D2 ∧ D2 = [(q, some ⟨[[(.slice (some ⟨j2, 0, none⟩) N2 0), (.int .i64 0)]], 2, 115, true⟩), (j2, some (oItem l2)), (jq2, some (oItem l2))]) ∧ (n3 + 1) ≤ n' ∧ (∀ i ∈ keys [(q, some ⟨[[(.slice (some ⟨j2, 0, none⟩) N2 0), (.int .i64 0)]], 2, 115, true⟩), (j2, some (oItem l2)), (jq2, some (oItem l2))], i < n') ∧ l2.length = N2 ∧ N2 ≤ i + 1 ∧ n ≤ j2 ∧ n ≤ jq2 ∧ q ≠ j2 ∧ q ≠ jq2 ∧ j2 ≠ jq2 ∧ SZ l2))) ?_ ?_)
      ·
       refine RA.seq hd ?_
       refine RA.region env_ok ?_
       refine OA.p (some 42) (Pt n3 0 0) rfl rfl rfl rfl ?_
       refine OA.p (some 43) (.int .i64 a.what) rfl rfl rfl (r_load1 rfl rfl rfl rfl rfl get_here rfl rfl) ?_
       refine OA.p (some 44) (.int .i64 (a.what.tmod 5)) rfl rfl rfl (r_bin rfl rfl rfl (b_rem (by decide) rfl)) ?_
       refine OA.nil ?_
       intro _
       refine RA.block ?_
       refine RA.seq hd ?_
       refine RA.region env_ok ?_
       by_cases hc11 : (a.what.tmod 5) = 2
       ·
        refine OA.p (some 71) (.bool true) rfl rfl rfl (Eq.trans (r_bin rfl rfl rfl (b_eql rfl)) (dT hc11)) ?_
        refine OA.p (some 70) (.bool true) rfl rfl rfl rfl ?_
        refine OA.nil ?_
        intro _
        refine RA.condT rfl ?_
        refine RA.seq hd ?_
        refine RA.region env_ok ?_
        refine OA.p (some 73) (Pt q 0 0) rfl rfl rfl rfl ?_
        refine OA.p (some 74) (Pt n3 0 7) rfl rfl rfl rfl ?_
        refine OA.p (some 75) (.int .i64 a.pos) rfl rfl rfl (r_load1 rfl rfl rfl rfl rfl get_here rfl rfl) ?_
        refine OA.call (dst := (some 76)) (all := [(Pt q 0 0), (.int .i64 a.pos)]) rfl rfl rfl rfl rfl rfl rfl rfl (CQ.imp (nTakeOA (hd.of (by omega) (kb4 (by omega))) q a.pos (gt2 (by omega) get_here)) ?_)
        rintro _ n23 _ ⟨rfl, rfl⟩ hn23
        refine OA.app0 ?_
        refine OA.p (some 72) (.tuple ⟨[(.agg ⟨(cItem dItem)⟩), (.bool false)]⟩) rfl rfl rfl rfl ?_
        refine OA.p (some 77) (.agg ⟨(cItem dItem)⟩) rfl rfl rfl rfl ?_
        refine OA.p (some 78) (.bool false) rfl rfl rfl rfl ?_
        refine OA.op1 (dst := (some 8)) (v := (Pt n23 0 0)) (n1 := (n23 + 1)) (w := (n23, some ⟨[xNp47], 6, 59, true⟩)) rfl rfl rfl rfl (by omega) ?_
        refine OA.op1 (dst := none) (v := (.tuple #[])) (n1 := (n23 + 1)) (w := (n23, some ⟨[(cItem dItem)], 6, 59, true⟩)) rfl rfl rfl (r_store rfl rfl rfl rfl rfl rfl rfl get_here rfl rfl (Nat.le_of_ble_eq_true rfl) rfl) (by omega) ?_
        refine OA.p (some 9) (.bool false) rfl rfl rfl rfl ?_
        refine OA.nil ?_
        intro _
        refine RA.seq hd ?_
        refine RA.seq hd ?_
        refine RA.par (md := [some [], some [], some [], some [], some [], some [], some [n23], some [], some [], some [n3], some [jq], some [jq], some [], some [], some []]) env_ok (hd.of (by omega) (kb6 (by omega))) (by kernel_rfl) ?_
        refine PQ.pure (dst := (some 79)) (v := (.bool false)) rfl rfl rfl noStore (none_ok _ _) rfl ?_
        refine PQ.pure (dst := (some 80)) (v := (.bool false)) rfl rfl rfl noStore (none_ok _ _) rfl ?_
        refine PQ.pure (dst := (some 81)) (v := (.bool false)) rfl rfl rfl noStore (none_ok _ _) rfl ?_
        refine PQ.pure (dst := (some 82)) (v := (.bool false)) rfl rfl rfl noStore (none_ok _ _) rfl ?_
        refine PQ.pure (dst := (some 83)) (v := (.bool false)) rfl rfl rfl noStore (none_ok _ _) rfl ?_
        refine PQ.pure (dst := (some 84)) (v := (.bool false)) rfl rfl rfl noStore (none_ok _ _) rfl ?_
        refine PQ.off (dst := (some 85)) rfl rfl rfl ?_
        refine PQ.off (dst := (some 86)) rfl rfl rfl ?_
        refine PQ.off (dst := (some 87)) rfl rfl rfl ?_
        refine PQ.off (dst := (some 88)) rfl rfl rfl ?_
        refine PQ.off (dst := (some 89)) rfl rfl rfl ?_
        refine PQ.off (dst := (some 90)) rfl rfl rfl ?_
        refine PQ.off (dst := (some 91)) rfl rfl rfl ?_
        refine PQ.pure (dst := (some 92)) (v := (.bool false)) rfl rfl rfl noStore (none_ok _ _) rfl ?_
        refine PQ.pure (dst := (some 93)) (v := (.bool false)) rfl rfl rfl noStore (none_ok _ _) rfl ?_
        refine PQ.done (d := []) (by kernel_rfl) ?_
        intro _
        refine RA.rebase [(0, lv), (3, (Pt q 0 0)), (4, (.slice (some ⟨jq, 0, none⟩) 0 0)), (5, (.int .i64 ((i : Nat) : Int))), (6, (Pt n3 0 0)), (7, (.bool false)), (8, (Pt n23 0 0)), (9, (.bool false)), (25, (.bool true)), (44, (.int .i64 (a.what.tmod 5))), (70, (.bool true)), (93, (.bool false))] ⟨rfl, rfl, rfl, rfl, rfl, rfl, rfl, rfl, rfl, rfl, rfl, rfl, trivial⟩ (fun τr24 => ?_)
        refine RA.condF rfl ?_
        refine RA.skip env_ok ?_
        intro _
        refine RA.seq hd ?_
        refine RA.region env_ok ?_
        refine OA.p (some 94) (.bool false) rfl rfl rfl rfl ?_
        refine OA.nil ?_
        intro _
        refine RA.condF rfl ?_
        refine RA.skip env_ok ?_
        exact ⟨rfl, .inl (⟨jq, ⟨rfl, rfl, rfl, rfl, trivial⟩, ⟨[(q, some ⟨[[(.slice none 0 0), (.int .i64 0)]], 2, 115, true⟩), (jq, some (oItem ([] : List Item)))], (Less.of (fac (mm (fun _ => get_here) (fun _ => (gt4 (by omega) get_here))) (fac (mm (fun _ => (get_there (by omega) get_here)) (fun _ => (gt5 (by omega) get_here))) fan)) (gone_of (by simp only [goneP, memP, List.cons_append, List.nil_append, true_or, or_true, true_and, and_true, or_false] <;> omega))), rfl⟩, by omega, (kb2 (by omega)), ⟨by omega, by omega⟩⟩)⟩
       ·
        refine OA.p (some 71) (.bool false) rfl rfl rfl (Eq.trans (r_bin rfl rfl rfl (b_eql rfl)) (dF hc11)) ?_
        refine OA.p (some 70) (.bool false) rfl rfl rfl rfl ?_
        refine OA.nil ?_
        intro _
        refine RA.condF rfl ?_
        refine RA.seq hd ?_
        refine RA.region env_ok ?_
        by_cases hc12 : (a.what.tmod 5) = 3
        ·
         refine OA.p (some 108) (.bool true) rfl rfl rfl (Eq.trans (r_bin rfl rfl rfl (b_eql rfl)) (dT hc12)) ?_
         refine OA.p (some 107) (.bool true) rfl rfl rfl rfl ?_
         refine OA.nil ?_
         intro _
         refine RA.condT rfl ?_
         refine RA.seq hd ?_
         refine RA.seq hd ?_
         refine RA.region env_ok ?_
         refine OA.p (some 109) (Pt q 0 0) rfl rfl rfl rfl ?_
         refine OA.p (some 110) (Pt n3 0 7) rfl rfl rfl rfl ?_
         refine OA.p (some 111) (.int .i64 a.pos) rfl rfl rfl (r_load1 rfl rfl rfl rfl rfl get_here rfl rfl) ?_
         refine OA.call (dst := (some 112)) (all := [(Pt q 0 0), (.int .i64 a.pos)]) rfl rfl rfl rfl rfl rfl rfl rfl (CQ.imp (nDoubleOA (hd.of (by omega) (kb4 (by omega))) q a.pos (gt2 (by omega) get_here)) ?_)
         rintro _ n25 _ ⟨rfl, rfl⟩ hn25
         refine OA.app0 ?_
         refine OA.p (some 113) (.bool false) rfl rfl rfl rfl ?_
         refine OA.p (some 114) (.bool false) rfl rfl rfl rfl ?_
         refine OA.nil ?_
         intro _
         refine RA.condF rfl ?_
         refine RA.skip env_ok ?_
         intro _
         refine RA.seq hd ?_
         refine RA.region env_ok ?_
         refine OA.p (some 115) (.bool false) rfl rfl rfl rfl ?_
         refine OA.nil ?_
         intro _
         refine RA.condF rfl ?_
         refine RA.skip env_ok ?_
         exact ⟨rfl, .inl (⟨jq, ⟨rfl, rfl, rfl, rfl, trivial⟩, ⟨[(q, some ⟨[[(.slice none 0 0), (.int .i64 0)]], 2, 115, true⟩), (jq, some (oItem ([] : List Item)))], (Less.of (fac (mm (fun _ => get_here) (fun _ => (gt2 (by omega) get_here))) (fac (mm (fun _ => (get_there (by omega) get_here)) (fun _ => (gt3 (by omega) get_here))) fan)) (gone_of (by simp only [goneP, memP, List.cons_append, List.nil_append, true_or, or_true, true_and, and_true, or_false] <;> omega))), rfl⟩, by omega, (kb2 (by omega)), ⟨by omega, by omega⟩⟩)⟩
        ·
         refine OA.p (some 108) (.bool false) rfl rfl rfl (Eq.trans (r_bin rfl rfl rfl (b_eql rfl)) (dF hc12)) ?_
         refine OA.p (some 107) (.bool false) rfl rfl rfl rfl ?_
         refine OA.nil ?_
         intro _
         refine RA.condF rfl ?_
         refine RA.seq hd ?_
         refine RA.region env_ok ?_
         by_cases hc13 : (a.what.tmod 5) = 4
         ·
          refine OA.p (some 127) (.bool true) rfl rfl rfl (Eq.trans (r_bin rfl rfl rfl (b_eql rfl)) (dT hc13)) ?_
          refine OA.p (some 126) (.bool true) rfl rfl rfl rfl ?_
          refine OA.nil ?_
          intro _
          refine RA.condT rfl ?_
          refine RA.seq hd ?_
          refine RA.region env_ok ?_
          refine OA.p (some 128) (.bool false) rfl rfl rfl rfl ?_
          refine OA.p (some 129) (.bool false) rfl rfl rfl rfl ?_
          refine OA.off (dst := (some 130)) rfl rfl rfl ?_
          refine OA.off (dst := (some 131)) rfl rfl rfl ?_
          refine OA.off (dst := (some 132)) rfl rfl rfl ?_
          refine OA.off (dst := (some 133)) rfl rfl rfl ?_
          refine OA.off (dst := (some 134)) rfl rfl rfl ?_
          refine OA.off (dst := (some 135)) rfl rfl rfl ?_
          refine OA.off (dst := (some 136)) rfl rfl rfl ?_
          refine OA.p (some 137) (.bool false) rfl rfl rfl rfl ?_
          refine OA.p (some 138) (.bool false) rfl rfl rfl rfl ?_
          refine OA.off (dst := (some 139)) rfl rfl rfl ?_
          refine OA.off (dst := (some 140)) rfl rfl rfl ?_
          refine OA.off (dst := (some 141)) rfl rfl rfl ?_
          refine OA.off (dst := (some 142)) rfl rfl rfl ?_
          refine OA.off (dst := (some 143)) rfl rfl rfl ?_
          refine OA.off (dst := (some 144)) rfl rfl rfl ?_
          refine OA.off (dst := (some 145)) rfl rfl rfl ?_
          refine OA.off (dst := (some 146)) rfl rfl rfl ?_
          refine OA.p (some 147) (.bool false) rfl rfl rfl rfl ?_
          refine OA.p (some 10) (.bool false) rfl rfl rfl rfl ?_
          refine OA.nil ?_
          intro _
          refine RA.rebase [(0, lv), (3, (Pt q 0 0)), (4, (.slice (some ⟨jq, 0, none⟩) 0 0)), (5, (.int .i64 ((i : Nat) : Int))), (6, (Pt n3 0 0)), (7, (.bool false)), (10, (.bool false)), (25, (.bool true)), (44, (.int .i64 (a.what.tmod 5))), (70, (.bool false)), (107, (.bool false)), (126, (.bool true))] ⟨rfl, rfl, rfl, rfl, rfl, rfl, rfl, rfl, rfl, rfl, rfl, rfl, trivial⟩ (fun τr26 => ?_)
          refine RA.seq hd ?_
          refine RA.seq hd ?_
          refine RA.region env_ok ?_
          refine OA.p (some 148) (Pt q 0 0) rfl rfl rfl rfl ?_
          refine OA.p (some 149) (Pt n3 0 7) rfl rfl rfl rfl ?_
          refine OA.p (some 150) (.int .i64 a.pos) rfl rfl rfl (r_load1 rfl rfl rfl rfl rfl get_here rfl rfl) ?_
          refine OA.p (some 151) (Pt n3 0 8) rfl rfl rfl rfl ?_
          refine OA.p (some 152) (.int .i64 a.bit) rfl rfl rfl (r_load1 rfl rfl rfl rfl rfl get_here rfl rfl) ?_
          refine OA.call (dst := (some 153)) (all := [(Pt q 0 0), (.int .i64 a.pos), (.int .i64 a.bit)]) rfl rfl rfl rfl rfl rfl rfl rfl (CQ.imp (nBendOA (hd.of (by omega) (kb4 (by omega))) q a.pos a.bit (gt2 (by omega) get_here)) ?_)
          rintro _ n27 _ ⟨rfl, rfl⟩ hn27
          refine OA.app0 ?_
          refine OA.p (some 154) (.bool false) rfl rfl rfl rfl ?_
          refine OA.p (some 155) (.bool false) rfl rfl rfl rfl ?_
          refine OA.nil ?_
          intro _
          refine RA.condF rfl ?_
          refine RA.skip env_ok ?_
          intro _
          refine RA.seq hd ?_
          refine RA.region env_ok ?_
          refine OA.p (some 156) (.bool false) rfl rfl rfl rfl ?_
          refine OA.nil ?_
          intro _
          refine RA.condF rfl ?_
          refine RA.skip env_ok ?_
          exact ⟨rfl, .inl (⟨jq, ⟨rfl, rfl, rfl, rfl, trivial⟩, ⟨[(q, some ⟨[[(.slice none 0 0), (.int .i64 0)]], 2, 115, true⟩), (jq, some (oItem ([] : List Item)))], (Less.of (fac (mm (fun _ => get_here) (fun _ => (gt2 (by omega) get_here))) (fac (mm (fun _ => (get_there (by omega) get_here)) (fun _ => (gt3 (by omega) get_here))) fan)) (gone_of (by simp only [goneP, memP, List.cons_append, List.nil_append, true_or, or_true, true_and, and_true, or_false] <;> omega))), rfl⟩, by omega, (kb2 (by omega)), ⟨by omega, by omega⟩⟩)⟩
         ·
          refine OA.p (some 127) (.bool false) rfl rfl rfl (Eq.trans (r_bin rfl rfl rfl (b_eql rfl)) (dF hc13)) ?_
          refine OA.p (some 126) (.bool false) rfl rfl rfl rfl ?_
          refine OA.nil ?_
          intro _
          refine RA.condF rfl ?_
          refine RA.seq hd ?_
          refine RA.region env_ok ?_
          refine OA.p (some 45) (Pt n3 0 1) rfl rfl rfl rfl ?_
          refine OA.p (some 46) (.agg ⟨[(.int .i64 a.leg), (.int .i64 a.nat), (W a.fr), (W a.to), (.string a.s), (.bool a.bent)]⟩) rfl rfl rfl (r_loadA rfl rfl rfl rfl get_here rfl rfl rfl) ?_
          refine OA.op1 (dst := (some 11)) (v := (.pointer (some ⟨(n3 + 1), 0, some 0⟩))) (n1 := (n3 + 2)) (w := ((n3 + 1), some ⟨[xNp47], 6, 59, true⟩)) rfl rfl rfl rfl (by omega) ?_
          refine OA.op1 (dst := none) (v := (.tuple #[])) (n1 := (n3 + 2)) (w := ((n3 + 1), some ⟨[[(.int .i64 a.leg), (.int .i64 a.nat), (W a.fr), (W a.to), (.string a.s), (.bool a.bent)]], 6, 59, true⟩)) rfl rfl rfl (r_store rfl rfl rfl rfl rfl rfl rfl get_here rfl rfl (Nat.le_of_ble_eq_true rfl) rfl) (by omega) ?_
          refine OA.nil ?_
          intro _
          refine RA.seq hd ?_
          refine RA.region env_ok ?_
          refine OA.p (some 47) (Pt n3 0 1) rfl rfl rfl rfl ?_
          refine OA.p (some 48) (Pt n3 0 3) rfl rfl rfl rfl ?_
          refine OA.p (some 49) (Pt n3 0 5) rfl rfl rfl rfl ?_
          refine OA.p (some 50) (.string a.s) rfl rfl rfl (r_load1 rfl rfl rfl rfl rfl (gt2 (by omega) get_here) rfl rfl) ?_
          refine OA.p (some 51) (Pt n3 0 1) rfl rfl rfl rfl ?_
          refine OA.p (some 52) (Pt n3 0 3) rfl rfl rfl rfl ?_
          refine OA.p (some 53) (Pt n3 0 5) rfl rfl rfl rfl ?_
          refine OA.p (some 54) (.string a.s) rfl rfl rfl (r_load1 rfl rfl rfl rfl rfl (gt2 (by omega) get_here) rfl rfl) ?_
          refine OA.p (some 55) (.int .i64 ((a.s.size : Nat) : Int)) rfl rfl rfl rfl ?_
          refine OA.p (some 56) (.int .i64 (((min a.s.size 10) : Nat) : Int)) rfl rfl rfl (r_min (a := a.s.size) (b := 10) rfl rfl rfl) ?_
          refine OA.p (some 57) (.string (a.s.extract 0 (min a.s.size 10))) rfl rfl rfl (r_cut (a := 0) (b := (min a.s.size 10)) rfl rfl (fun _ => rfl) (fun _ => rfl) rfl rfl rfl bound_nat (by omega) (by omega) rfl) ?_
          refine OA.p (some 58) (.pointer (some ⟨(n3 + 1), 0, some 2⟩)) rfl rfl rfl rfl ?_
          refine OA.p (some 59) (.pointer (some ⟨(n3 + 1), 0, some 4⟩)) rfl rfl rfl rfl ?_
          refine OA.op1 (dst := none) (v := (.tuple #[])) (n1 := (n3 + 2)) (w := ((n3 + 1), some ⟨[(xNp46 a)], 6, 59, true⟩)) rfl rfl rfl (r_store rfl rfl rfl rfl rfl rfl rfl get_here rfl rfl (Nat.le_of_ble_eq_true rfl) rfl) (by omega) ?_
          refine OA.nil ?_
          intro _
          refine RA.weaken (D' := [((n3 + 1), some ⟨[(xNp46 a)], 6, 59, true⟩), (n3, some ⟨[(cAct a)], 9, 67, true⟩), (q, some ⟨[[(.slice none 0 0), (.int .i64 0)]], 2, 115, true⟩), (jq, some (oItem ([] : List Item)))]) hd (Less.of (fac (mm (fun _ => get_here) (fun _ => get_here)) (fac (mm (fun _ => (get_there (by omega) get_here)) (fun _ => (gt3 (by omega) get_here))) (fac (mm (fun _ => (gt2 (by omega) get_here)) (fun _ => (gt5 (by omega) get_here))) (fac (mm (fun _ => (gt3 (by omega) get_here)) (fun _ => (gt6 (by omega) get_here))) fan)))) (gone_of (by simp only [goneP, memP, List.cons_append, List.nil_append, true_or, or_true, true_and, and_true, or_false] <;> omega))) ?_
          refine RA.rebase [(0, lv), (3, (Pt q 0 0)), (4, (.slice (some ⟨jq, 0, none⟩) 0 0)), (5, (.int .i64 ((i : Nat) : Int))), (6, (Pt n3 0 0)), (7, (.bool false)), (11, (.pointer (some ⟨(n3 + 1), 0, some 0⟩))), (25, (.bool true)), (44, (.int .i64 (a.what.tmod 5))), (70, (.bool false)), (107, (.bool false)), (126, (.bool false))] ⟨rfl, rfl, rfl, rfl, rfl, rfl, rfl, rfl, rfl, rfl, rfl, rfl, trivial⟩ (fun τr28 => ?_)
          refine RA.seq hd ?_
          refine RA.seq hd ?_
          refine RA.region env_ok ?_
          refine OA.p (some 60) (Pt q 0 0) rfl rfl rfl rfl ?_
          refine OA.p (some 61) (.agg ⟨(xNp46 a)⟩) rfl rfl rfl (r_loadA rfl rfl rfl rfl get_here rfl rfl rfl) ?_
          refine OA.call (dst := (some 62)) (all := (xNp44 q a)) rfl rfl rfl rfl rfl rfl rfl rfl (CQ.imp (nPutA (hd.of (by omega) (kb4 (by omega))) q (Item.mk a.leg a.nat a.fr a.to (a.s.extract 0 (min a.s.size 10)) a.bent) (gt2 (by omega) get_here)) ?_)
          rintro _ n29 _ ⟨in29, hin29a, hin29b, rfl, rfl⟩ hn29
          refine OA.app2 ?_
          refine OA.p (some 63) (.bool false) rfl rfl rfl rfl ?_
          refine OA.nil ?_
          intro _
          refine RA.condF rfl ?_
          refine RA.skip env_ok ?_
          intro _
          refine RA.par (md := [some [], some [], none, some [(n3 + 1)], some [], none, some []]) env_ok (hd.of (by omega) (kb6 (by omega))) (by kernel_rfl) ?_
          refine PQ.op (dst := (some 64)) (v := (.slice (some ⟨n29, 0, none⟩) 0 0)) (n1 := (n29 + 1)) (d1 := [(n29, some (oItem ([] : List Item)))]) rfl rfl rfl noStore (none_ok _ _) (by kernel_rfl) (by omega) (kp1 (wr_new (by omega) (by omega))) ?_
          refine PQ.pure (dst := (some 65)) (v := (.slice (some ⟨jq, 0, none⟩) 0 0)) rfl rfl rfl noStore (none_ok _ _) rfl ?_
          refine PQ.pure (dst := (some 66)) (v := (.slice (some ⟨n29, 0, none⟩) 0 0)) rfl rfl rfl _ (seen_any (V := [(n29, some (oItem ([] : List Item)))]) (D := [(q, some ⟨[[(.slice (some ⟨in29, 0, none⟩) 1 0), (.int .i64 0)]], 2, 115, true⟩), (in29, some (oItem [(Item.mk a.leg a.nat a.fr a.to (a.s.extract 0 (min a.s.size 10)) a.bent)])), ((n3 + 1), some ⟨[(xNp46 a)], 6, 59, true⟩), (n3, some ⟨[(cAct a)], 9, 67, true⟩), (q, some ⟨[[(.slice none 0 0), (.int .i64 0)]], 2, 115, true⟩), (jq, some (oItem ([] : List Item)))]) (by kernel_rfl)) (r_appendZ rfl rfl rfl rfl (.inl ⟨_, _, _, rfl⟩) rfl rfl rfl rfl rfl (by decide) (by omega)) ?_
          refine PQ.pure (dst := (some 67)) (v := (.agg ⟨(xNp46 a)⟩)) rfl rfl rfl (app [((n3 + 1), some ⟨[(xNp46 a)], 6, 59, true⟩)] noStore) (seen_one (V := []) (D := [(q, some ⟨[[(.slice (some ⟨in29, 0, none⟩) 1 0), (.int .i64 0)]], 2, 115, true⟩), (in29, some (oItem [(Item.mk a.leg a.nat a.fr a.to (a.s.extract 0 (min a.s.size 10)) a.bent)])), ((n3 + 1), some ⟨[(xNp46 a)], 6, 59, true⟩), (n3, some ⟨[(cAct a)], 9, 67, true⟩), (q, some ⟨[[(.slice none 0 0), (.int .i64 0)]], 2, 115, true⟩), (jq, some (oItem ([] : List Item)))]) (by kernel_rfl) (gt2 (by omega) get_here)) (r_loadA rfl rfl rfl rfl get_here rfl rfl rfl) ?_
          refine PQ.op (dst := (some 68)) (v := (.slice (some ⟨(n29 + 1), 0, none⟩) 1 0)) (n1 := (n29 + 2)) (d1 := [((n29 + 1), some ⟨[(xNp46 a)], 6, 59, true⟩)]) rfl rfl rfl noStore (none_ok _ _) (by kernel_rfl) (by omega) (kp1 (wr_new (by omega) (by omega))) ?_
          refine PQ.op (dst := (some 69)) (v := (.slice (some ⟨(n29 + 2), 0, none⟩) 1 0)) (n1 := (n29 + 3)) (d1 := [((n29 + 2), some (oItem [(Item.mk a.leg a.nat a.fr a.to (a.s.extract 0 (min a.s.size 10)) a.bent)])), (n29, none)]) rfl rfl rfl _ (seen_any (V := [((n29 + 1), some ⟨[(xNp46 a)], 6, 59, true⟩), (n29, some (oItem ([] : List Item)))]) (D := [(q, some ⟨[[(.slice (some ⟨in29, 0, none⟩) 1 0), (.int .i64 0)]], 2, 115, true⟩), (in29, some (oItem [(Item.mk a.leg a.nat a.fr a.to (a.s.extract 0 (min a.s.size 10)) a.bent)])), ((n3 + 1), some ⟨[(xNp46 a)], 6, 59, true⟩), (n3, some ⟨[(cAct a)], 9, 67, true⟩), (q, some ⟨[[(.slice none 0 0), (.int .i64 0)]], 2, 115, true⟩), (jq, some (oItem ([] : List Item)))]) (by kernel_rfl)) (r_appendR (c := cItem) (l' := [(Item.mk a.leg a.nat a.fr a.to (a.s.extract 0 (min a.s.size 10)) a.bent)]) rfl rfl rfl rfl rfl rfl rfl rfl rfl rfl (by decide) (get_there (by omega) get_here) get_here (by rw [show ([] : List Item).length = 0 from rfl]) rfl (by omega) (of_decide_eq_true (by kernel_rfl)) (by omega)) (by omega) (kp2 (wr_new (by omega) (by omega)) (wr_tight (by kernel_rfl) (by omega))) ?_
          refine PQ.pure (dst := (some 4)) (v := (.slice (some ⟨(n29 + 2), 0, none⟩) 1 0)) rfl rfl rfl noStore (none_ok _ _) rfl ?_
          refine PQ.done (d := [((n29 + 2), some (oItem [(Item.mk a.leg a.nat a.fr a.to (a.s.extract 0 (min a.s.size 10)) a.bent)])), (n29, none), ((n29 + 1), some ⟨[(xNp46 a)], 6, 59, true⟩), (n29, some (oItem ([] : List Item)))]) (by kernel_rfl) ?_
          exact ⟨rfl, .inr (⟨1, [(Item.mk a.leg a.nat a.fr a.to (a.s.extract 0 (min a.s.size 10)) a.bent)], in29, (n29 + 2), ⟨rfl, rfl, rfl, rfl, trivial⟩, ⟨[(q, some ⟨[[(.slice (some ⟨in29, 0, none⟩) 1 0), (.int .i64 0)]], 2, 115, true⟩), (in29, some (oItem [(Item.mk a.leg a.nat a.fr a.to (a.s.extract 0 (min a.s.size 10)) a.bent)])), ((n29 + 2), some (oItem [(Item.mk a.leg a.nat a.fr a.to (a.s.extract 0 (min a.s.size 10)) a.bent)]))], (Less.of (fac (mm (fun _ => get_here) (fun _ => (gt4 (by omega) get_here))) (fac (mm (fun _ => (get_there (by omega) get_here)) (fun _ => (gt5 (by omega) get_here))) (fac (mm (fun _ => (gt2 (by omega) get_here)) (fun _ => get_here)) fan))) (gone_of (by simp only [goneP, memP, List.cons_append, List.nil_append, true_or, or_true, true_and, and_true, or_false] <;> omega))), rfl⟩, by omega, (kb3 (by omega)), ⟨rfl, by omega, by omega, by omega, by omega, by omega, by omega, SZ.one (cut10 _)⟩⟩)⟩
      ·
       rintro _ τ30 n30 Dn30 hmn30 ⟨rfl, hSn30⟩
       rcases hSn30 with ⟨jq2, hHn30, ⟨_, hLn30, rfl⟩, hn30, hKn30, hIn30⟩ | ⟨N2, l2, j2, jq2, hHn30, ⟨_, hLn30, rfl⟩, hn30, hKn30, hIn30⟩
       ·
        intro _
        refine RA.weaken hd hLn30 ?_
        rw [Has.eq hHn30]
        have hKn30_0 : q < n30 := hKn30 _ (by simp only [keys, List.map_cons, List.map_nil, List.mem_cons, true_or, or_true])
        have hKn30_1 : jq2 < n30 := hKn30 _ (by simp only [keys, List.map_cons, List.map_nil, List.mem_cons, true_or, or_true])
        clear hKn30
        obtain ⟨hjq, hqjq⟩ := hIn30
        refine RA.seq hd ?_
        refine RA.region env_ok ?_
        refine OA.p (some 181) (Pt q 0 0) rfl rfl rfl rfl ?_
        refine OA.callP (dst := (some 182)) (all := [(Pt q 0 0)]) (v := (.slice none 0 0)) (hd.of (by omega) (kb2 (by omega))) rfl rfl rfl rfl rfl rfl rfl rfl (nAllA q get_here) ?_
        intro n31 hn31
        refine OA.p (some 12) (.slice none 0 0) rfl rfl rfl rfl ?_
        refine OA.nil ?_
        intro _
        refine RA.seq hd ?_
        refine RA.seq hd ?_
        refine RA.region env_ok ?_
        refine OA.p (some 183) (.slice none 0 0) rfl rfl rfl rfl ?_
        refine OA.p (some 184) (.int .i64 0) rfl rfl rfl rfl ?_
        refine OA.p (some 185) (.slice (some ⟨jq2, 0, none⟩) 0 0) rfl rfl rfl rfl ?_
        refine OA.p (some 186) (.int .i64 0) rfl rfl rfl rfl ?_
        refine OA.p (some 187) (.bool false) rfl rfl rfl (r_bin rfl rfl rfl (b_neq rfl)) ?_
        refine OA.p (some 188) (.bool false) rfl rfl rfl rfl ?_
        refine OA.p (some 189) (Pt q 0 0) rfl rfl rfl rfl ?_
        refine OA.callP (dst := (some 190)) (all := [(Pt q 0 0)]) (v := (.int .i64 0)) (hd.of (by omega) (kb2 (by omega))) rfl rfl rfl rfl rfl rfl rfl rfl (nLenA q get_here) ?_
        intro n32 hn32
        refine OA.p (some 191) (.slice (some ⟨jq2, 0, none⟩) 0 0) rfl rfl rfl rfl ?_
        refine OA.p (some 192) (.int .i64 0) rfl rfl rfl rfl ?_
        refine OA.p (some 193) (.bool false) rfl rfl rfl (r_bin rfl rfl rfl (b_neq rfl)) ?_
        refine OA.p (some 194) (.bool false) rfl rfl rfl rfl ?_
        refine OA.nil ?_
        intro _
        refine RA.condF rfl ?_
        refine RA.skip env_ok ?_
        intro _
        refine RA.seq hd ?_
        refine RA.region env_ok ?_
        refine OA.p (some 13) (.int .i64 0) rfl rfl rfl rfl ?_
        refine OA.nil ?_
        intro _
        refine RA.block ?_
        refine RA.unroll hd ?_
        refine RA.seq hd ?_
        refine RA.seq hd ?_
        refine RA.region env_ok ?_
        refine OA.p (some 195) (.int .i64 0) rfl rfl rfl rfl ?_
        refine OA.p (some 196) (.slice (some ⟨jq2, 0, none⟩) 0 0) rfl rfl rfl rfl ?_
        refine OA.p (some 197) (.int .i64 0) rfl rfl rfl rfl ?_
        refine OA.p (some 198) (.bool false) rfl rfl rfl (r_bin rfl rfl rfl (b_lss rfl)) ?_
        refine OA.nil ?_
        intro _
        refine RA.condF rfl ?_
        refine RA.exit env_ok ?_
        intro _
        refine RA.region env_ok ?_
        refine OA.p (some 26) (.int .i64 ((i : Nat) : Int)) rfl rfl rfl rfl ?_
        refine OA.p (some 27) (.int .i64 (((i + 1) : Nat) : Int)) rfl rfl rfl (r_bin rfl rfl rfl (b_add (i64_eq (by omega)))) ?_
        refine OA.p (some 5) (.int .i64 (((i + 1) : Nat) : Int)) rfl rfl rfl rfl ?_
        refine OA.nil ?_
        refine ⟨(80 - (i + 1)), by omega, [(q, some ⟨[[(.slice none 0 0), (.int .i64 0)]], 2, 115, true⟩), (jq2, some (oItem ([] : List Item)))], (Less.refl _ _ _), .inl (⟨(i + 1), jq2, rfl, by omega, ⟨rfl, rfl, rfl, rfl, trivial⟩, rfl, (kb2 (by omega)), ⟨by omega, by omega, by omega, by omega⟩⟩)⟩
       ·
        intro _
        refine RA.weaken hd hLn30 ?_
        rw [Has.eq hHn30]
        have hKn30_0 : q < n30 := hKn30 _ (by simp only [keys, List.map_cons, List.map_nil, List.mem_cons, true_or, or_true])
        have hKn30_1 : j2 < n30 := hKn30 _ (by simp only [keys, List.map_cons, List.map_nil, List.mem_cons, true_or, or_true])
        have hKn30_2 : jq2 < n30 := hKn30 _ (by simp only [keys, List.map_cons, List.map_nil, List.mem_cons, true_or, or_true])
        clear hKn30
        obtain ⟨hl, hNi, hj, hjq, hqj, hqjq, hjj, hsz⟩ := hIn30
        refine RA.seq hd ?_
        refine RA.region env_ok ?_
        refine OA.p (some 181) (Pt q 0 0) rfl rfl rfl rfl ?_
        refine OA.call (dst := (some 182)) (all := [(Pt q 0 0)]) rfl rfl rfl rfl rfl rfl rfl rfl (CQ.imp (nAll (hd.of (by omega) (kb3 (by omega))) q j2 N2 l2 hl (by omega) (by omega) get_here (get_there (by omega) get_here)) ?_)
        rintro _ n33 _ ⟨in33, hin33a, hin33b, rfl, rfl⟩ hn33
        refine OA.app1 ?_
        refine OA.p (some 12) (.slice (some ⟨in33, 0, none⟩) N2 0) rfl rfl rfl rfl ?_
        refine OA.nil ?_
        intro _
        refine RA.seq hd ?_
        refine RA.seq hd ?_
        refine RA.region env_ok ?_
        refine OA.p (some 183) (.slice (some ⟨in33, 0, none⟩) N2 0) rfl rfl rfl rfl ?_
        refine OA.p (some 184) (.int .i64 ((N2 : Nat) : Int)) rfl rfl rfl rfl ?_
        refine OA.p (some 185) (.slice (some ⟨jq2, 0, none⟩) N2 0) rfl rfl rfl rfl ?_
        refine OA.p (some 186) (.int .i64 ((N2 : Nat) : Int)) rfl rfl rfl rfl ?_
        refine OA.p (some 187) (.bool false) rfl rfl rfl (r_bin rfl rfl rfl (b_neq (decide_eq_false (fun h => h rfl)))) ?_
        refine OA.p (some 188) (.bool false) rfl rfl rfl rfl ?_
        refine OA.p (some 189) (Pt q 0 0) rfl rfl rfl rfl ?_
        refine OA.callP (dst := (some 190)) (all := [(Pt q 0 0)]) (v := (.int .i64 ((N2 : Nat) : Int))) (hd.of (by omega) (kb4 (by omega))) rfl rfl rfl rfl rfl rfl rfl rfl (nLenB q j2 N2 (get_there (by omega) get_here)) ?_
        intro n34 hn34
        refine OA.p (some 191) (.slice (some ⟨jq2, 0, none⟩) N2 0) rfl rfl rfl rfl ?_
        refine OA.p (some 192) (.int .i64 ((N2 : Nat) : Int)) rfl rfl rfl rfl ?_
        refine OA.p (some 193) (.bool false) rfl rfl rfl (r_bin rfl rfl rfl (b_neq (decide_eq_false (fun h => h rfl)))) ?_
        refine OA.p (some 194) (.bool false) rfl rfl rfl rfl ?_
        refine OA.nil ?_
        intro _
        refine RA.condF rfl ?_
        refine RA.skip env_ok ?_
        intro _
        refine RA.seq hd ?_
        refine RA.region env_ok ?_
        refine OA.p (some 13) (.int .i64 0) rfl rfl rfl rfl ?_
        refine OA.nil ?_
        intro _
        refine RA.block ?_
        refine RA.loop hd (fun kk_ τ n' D => (∃ kk : Nat, kk_ = (N2 - kk) ∧ n34 ≤ n' ∧ Has τ [(0, lv), (3, (Pt q 0 0)), (4, (.slice (some ⟨jq2, 0, none⟩) N2 0)), (5, (.int .i64 ((i : Nat) : Int))), (12, (.slice (some ⟨in33, 0, none⟩) N2 0)), (13, (.int .i64 ((kk : Nat) : Int)))] ∧ D = [(in33, some (oItem l2)), (q, some ⟨[[(.slice (some ⟨j2, 0, none⟩) N2 0), (.int .i64 0)]], 2, 115, true⟩), (j2, some (oItem l2)), (jq2, some (oItem l2))] ∧ (∀ i ∈ keys D, i < n') ∧ kk ≤ N2)) ((N2 - 0)) (⟨0, rfl, by omega, ⟨rfl, rfl, rfl, rfl, rfl, rfl, trivial⟩, rfl, (kb4 (by omega)), by omega⟩) ?_
        rintro kn35 τ35 n35 _ ⟨kk, rfl, hn35, hHn35, rfl, hKn35, hIn35⟩
        rw [Has.eq hHn35]
        have hKn35_0 : in33 < n35 := hKn35 _ (by simp only [keys, List.map_cons, List.map_nil, List.mem_cons, true_or, or_true])
        have hKn35_1 : q < n35 := hKn35 _ (by simp only [keys, List.map_cons, List.map_nil, List.mem_cons, true_or, or_true])
        have hKn35_2 : j2 < n35 := hKn35 _ (by simp only [keys, List.map_cons, List.map_nil, List.mem_cons, true_or, or_true])
        have hKn35_3 : jq2 < n35 := hKn35 _ (by simp only [keys, List.map_cons, List.map_nil, List.mem_cons, true_or, or_true])
        clear hKn35
        refine RA.seq hd ?_
        refine RA.seq hd ?_
        refine RA.region env_ok ?_
        refine OA.p (some 195) (.int .i64 ((kk : Nat) : Int)) rfl rfl rfl rfl ?_
        refine OA.p (some 196) (.slice (some ⟨jq2, 0, none⟩) N2 0) rfl rfl rfl rfl ?_
        refine OA.p (some 197) (.int .i64 ((N2 : Nat) : Int)) rfl rfl rfl rfl ?_
        by_cases hc14 : ((kk : Nat) : Int) < ((N2 : Nat) : Int)
        ·
         refine OA.p (some 198) (.bool true) rfl rfl rfl (Eq.trans (r_bin rfl rfl rfl (b_lss rfl)) (dT hc14)) ?_
         refine OA.nil ?_
         intro _
         refine RA.condT rfl ?_
         refine RA.skip env_ok ?_
         intro _
         refine RA.seq hd ?_
         refine RA.block ?_
         refine RA.seq hd ?_
         refine RA.par (md := [some [], some [], some [in33], some [in33], some [], some [], some [jq2], some [jq2], some []]) env_ok (hd.of (by omega) (kb4 (by omega))) (by kernel_rfl) ?_
         refine PQ.pure (dst := (some 201)) (v := (.slice (some ⟨in33, 0, none⟩) N2 0)) rfl rfl rfl noStore (none_ok _ _) rfl ?_
         refine PQ.pure (dst := (some 202)) (v := (.int .i64 ((kk : Nat) : Int))) rfl rfl rfl noStore (none_ok _ _) rfl ?_
         refine PQ.pure (dst := (some 203)) (v := (Pt in33 kk 0)) rfl rfl rfl (app [(in33, some (oItem l2))] noStore) (seen_one (V := []) (D := [(in33, some (oItem l2)), (q, some ⟨[[(.slice (some ⟨j2, 0, none⟩) N2 0), (.int .i64 0)]], 2, 115, true⟩), (j2, some (oItem l2)), (jq2, some (oItem l2))]) (by kernel_rfl) get_here) (r_iaS (l := kk) rfl rfl rfl rfl rfl rfl (by omega) (by omega) get_here rfl (by omega)) ?_
         refine PQ.pure (dst := (some 204)) (v := (.agg ⟨(cItem (l2.getD kk dItem))⟩)) rfl rfl rfl (app [(in33, some (oItem l2))] noStore) (seen_one (V := []) (D := [(in33, some (oItem l2)), (q, some ⟨[[(.slice (some ⟨j2, 0, none⟩) N2 0), (.int .i64 0)]], 2, 115, true⟩), (j2, some (oItem l2)), (jq2, some (oItem l2))]) (by kernel_rfl) get_here) (r_loadR (c := cItem) dItem rfl rfl rfl rfl get_here (by rw [hl]; omega) rfl) ?_
         refine PQ.pure (dst := (some 205)) (v := (.slice (some ⟨jq2, 0, none⟩) N2 0)) rfl rfl rfl noStore (none_ok _ _) rfl ?_
         refine PQ.pure (dst := (some 206)) (v := (.int .i64 ((kk : Nat) : Int))) rfl rfl rfl noStore (none_ok _ _) rfl ?_
         refine PQ.pure (dst := (some 207)) (v := (Pt jq2 kk 0)) rfl rfl rfl (app [(jq2, some (oItem l2))] noStore) (seen_one (V := []) (D := [(in33, some (oItem l2)), (q, some ⟨[[(.slice (some ⟨j2, 0, none⟩) N2 0), (.int .i64 0)]], 2, 115, true⟩), (j2, some (oItem l2)), (jq2, some (oItem l2))]) (by kernel_rfl) (gt3 (by omega) get_here)) (r_iaS (l := kk) rfl rfl rfl rfl rfl rfl (by omega) (by omega) get_here rfl (by omega)) ?_
         refine PQ.pure (dst := (some 208)) (v := (.agg ⟨(cItem (l2.getD kk dItem))⟩)) rfl rfl rfl (app [(jq2, some (oItem l2))] noStore) (seen_one (V := []) (D := [(in33, some (oItem l2)), (q, some ⟨[[(.slice (some ⟨j2, 0, none⟩) N2 0), (.int .i64 0)]], 2, 115, true⟩), (j2, some (oItem l2)), (jq2, some (oItem l2))]) (by kernel_rfl) (gt3 (by omega) get_here)) (r_loadR (c := cItem) dItem rfl rfl rfl rfl get_here (by rw [hl]; omega) rfl) ?_
         refine PQ.pure (dst := (some 209)) (v := (.bool false)) rfl rfl rfl noStore (none_ok _ _) (r_neqA (r := true) rfl rfl rfl (by kernel_rfl) (aeq_self _ _ _ (by kernel_rfl))) ?_
         refine PQ.done (d := []) (by kernel_rfl) ?_
         intro _
         refine RA.condF rfl ?_
         refine RA.skip env_ok ?_
         intro _
         refine RA.region env_ok ?_
         refine OA.p (some 199) (.int .i64 ((kk : Nat) : Int)) rfl rfl rfl rfl ?_
         refine OA.p (some 200) (.int .i64 (((kk + 1) : Nat) : Int)) rfl rfl rfl (r_bin rfl rfl rfl (b_add (i64_eq (by omega)))) ?_
         refine OA.p (some 13) (.int .i64 (((kk + 1) : Nat) : Int)) rfl rfl rfl rfl ?_
         refine OA.nil ?_
         refine ⟨(N2 - (kk + 1)), by omega, [(in33, some (oItem l2)), (q, some ⟨[[(.slice (some ⟨j2, 0, none⟩) N2 0), (.int .i64 0)]], 2, 115, true⟩), (j2, some (oItem l2)), (jq2, some (oItem l2))], (Less.refl _ _ _), ⟨(kk + 1), rfl, by omega, ⟨rfl, rfl, rfl, rfl, rfl, rfl, trivial⟩, rfl, (kb4 (by omega)), by omega⟩⟩
        ·
         refine OA.p (some 198) (.bool false) rfl rfl rfl (Eq.trans (r_bin rfl rfl rfl (b_lss rfl)) (dF hc14)) ?_
         refine OA.nil ?_
         intro _
         refine RA.condF rfl ?_
         refine RA.exit env_ok ?_
         intro _
         refine RA.region env_ok ?_
         refine OA.p (some 26) (.int .i64 ((i : Nat) : Int)) rfl rfl rfl rfl ?_
         refine OA.p (some 27) (.int .i64 (((i + 1) : Nat) : Int)) rfl rfl rfl (r_bin rfl rfl rfl (b_add (i64_eq (by omega)))) ?_
         refine OA.p (some 5) (.int .i64 (((i + 1) : Nat) : Int)) rfl rfl rfl rfl ?_
         refine OA.nil ?_
         refine ⟨(80 - (i + 1)), by omega, [(q, some ⟨[[(.slice (some ⟨j2, 0, none⟩) N2 0), (.int .i64 0)]], 2, 115, true⟩), (j2, some (oItem l2)), (jq2, some (oItem l2))], (Less.of (fac (mm (fun _ => get_here) (fun _ => (get_there (by omega) get_here))) (fac (mm (fun _ => (get_there (by omega) get_here)) (fun _ => (gt2 (by omega) get_here))) (fac (mm (fun _ => (gt2 (by omega) get_here)) (fun _ => (gt3 (by omega) get_here))) fan))) (gone_of (by simp only [goneP, memP, List.cons_append, List.nil_append, true_or, or_true, true_and, and_true, or_false] <;> omega))), .inr (⟨(i + 1), N2, l2, j2, jq2, rfl, by omega, ⟨rfl, rfl, rfl, rfl, trivial⟩, rfl, (kb3 (by omega)), ⟨hl, by omega, by omega, by omega, by omega, by omega, by omega, by omega, by omega, hsz⟩⟩)⟩
    ·
     refine OA.p (some 34) (.bool false) rfl rfl rfl (Eq.trans (r_bin rfl rfl rfl (b_geq rfl)) (dF hc3)) ?_
     refine OA.p (some 35) (.bool false) rfl rfl rfl rfl ?_
     refine OA.off (dst := (some 36)) rfl rfl rfl ?_
     refine OA.off (dst := (some 37)) rfl rfl rfl ?_
     refine OA.off (dst := (some 38)) rfl rfl rfl ?_
     refine OA.off (dst := (some 39)) rfl rfl rfl ?_
     refine OA.off (dst := (some 40)) rfl rfl rfl ?_
     refine OA.p (some 41) (.bool false) rfl rfl rfl rfl ?_
     refine OA.p (some 7) (.bool false) rfl rfl rfl rfl ?_
     refine OA.nil ?_
     intro _
     refine RA.rebase [(0, lv), (3, (Pt q 0 0)), (4, (.slice (some ⟨jq, 0, none⟩) 0 0)), (5, (.int .i64 ((i : Nat) : Int))), (6, (Pt n3 0 0)), (7, (.bool false)), (25, (.bool true))] ⟨rfl, rfl, rfl, rfl, rfl, rfl, rfl, trivial⟩ (fun τr36 => ?_)
     refine RA.seq hd (RA.imp (Q := fun x τ' n' D' => x = .normal ∧ ((∃ jq2 : Nat, Has τ' [(0, lv), (3, (Pt q 0 0)), (4, (.slice (some ⟨jq2, 0, none⟩) 0 0)), (5, (.int .i64 ((i : Nat) : Int)))] ∧ (∃ D2, Less n n' D' D2 ∧ D2 = [(q, some ⟨[[(.slice none 0 0), (.int .i64 0)]], 2, 115, true⟩), (jq2, some (oItem ([] : List Item)))]) ∧ (n3 + 1) ≤ n' ∧ (∀ i ∈ keys [(q, some ⟨[[(.slice none 0 0), (.int .i64 0)]], 2, 115, true⟩), (jq2, some (oItem ([] : List Item)))], i < n') ∧ n ≤ jq2 ∧ q ≠ jq2) ∨ (∃ N2 : Nat, ∃ l2 : List Item, ∃ j2 : Nat, ∃ jq2 : Nat, Has τ' [(0, lv), (3, (Pt q 0 0)), (4, (.slice (some ⟨jq2, 0, none⟩) N2 0)), (5, (.int .i64 ((i : Nat) : Int)))] ∧ (∃ D2, Less n n' D' D2 ∧ D2 = [(q, some ⟨[[(.slice (some ⟨j2, 0, none⟩) N2 0), (.int .i64 0)]], 2, 115, true⟩), (j2, some (oItem l2)), (jq2, some (oItem l2))]) ∧ (n3 + 1) ≤ n' ∧ (∀ i ∈ keys [(q, some ⟨[[(.slice (some ⟨j2, 0, none⟩) N2 0), (.int .i64 0)]], 2, 115, true⟩), (j2, some (oItem l2)), (jq2, some (oItem l2))], i < n') ∧ l2.length = N2 ∧ N2 ≤ i + 1 ∧ n ≤ j2 ∧ n ≤ jq2 ∧ q ≠ j2 ∧ q ≠ jq2 ∧ j2 ≠ jq2 ∧ SZ l2))) ?_ ?_)
     ·
      refine RA.seq hd ?_
      refine RA.region env_ok ?_
      refine OA.p (some 42) (Pt n3 0 0) rfl rfl rfl rfl ?_
      refine OA.p (some 43) (.int .i64 a.what) rfl rfl rfl (r_load1 rfl rfl rfl rfl rfl get_here rfl rfl) ?_
      refine OA.p (some 44) (.int .i64 (a.what.tmod 5)) rfl rfl rfl (r_bin rfl rfl rfl (b_rem (by decide) rfl)) ?_
      refine OA.nil ?_
      intro _
      refine RA.block ?_
      refine RA.seq hd ?_
      refine RA.region env_ok ?_
      by_cases hc15 : (a.what.tmod 5) = 2
      ·
       refine OA.p (some 71) (.bool true) rfl rfl rfl (Eq.trans (r_bin rfl rfl rfl (b_eql rfl)) (dT hc15)) ?_
       refine OA.p (some 70) (.bool true) rfl rfl rfl rfl ?_
       refine OA.nil ?_
       intro _
       refine RA.condT rfl ?_
       refine RA.seq hd ?_
       refine RA.region env_ok ?_
       refine OA.p (some 73) (Pt q 0 0) rfl rfl rfl rfl ?_
       refine OA.p (some 74) (Pt n3 0 7) rfl rfl rfl rfl ?_
       refine OA.p (some 75) (.int .i64 a.pos) rfl rfl rfl (r_load1 rfl rfl rfl rfl rfl get_here rfl rfl) ?_
       refine OA.call (dst := (some 76)) (all := [(Pt q 0 0), (.int .i64 a.pos)]) rfl rfl rfl rfl rfl rfl rfl rfl (CQ.imp (nTakeOA (hd.of (by omega) (kb4 (by omega))) q a.pos (gt2 (by omega) get_here)) ?_)
       rintro _ n37 _ ⟨rfl, rfl⟩ hn37
       refine OA.app0 ?_
       refine OA.p (some 72) (.tuple ⟨[(.agg ⟨(cItem dItem)⟩), (.bool false)]⟩) rfl rfl rfl rfl ?_
       refine OA.p (some 77) (.agg ⟨(cItem dItem)⟩) rfl rfl rfl rfl ?_
       refine OA.p (some 78) (.bool false) rfl rfl rfl rfl ?_
       refine OA.op1 (dst := (some 8)) (v := (Pt n37 0 0)) (n1 := (n37 + 1)) (w := (n37, some ⟨[xNp47], 6, 59, true⟩)) rfl rfl rfl rfl (by omega) ?_
       refine OA.op1 (dst := none) (v := (.tuple #[])) (n1 := (n37 + 1)) (w := (n37, some ⟨[(cItem dItem)], 6, 59, true⟩)) rfl rfl rfl (r_store rfl rfl rfl rfl rfl rfl rfl get_here rfl rfl (Nat.le_of_ble_eq_true rfl) rfl) (by omega) ?_
       refine OA.p (some 9) (.bool false) rfl rfl rfl rfl ?_
       refine OA.nil ?_
       intro _
       refine RA.seq hd ?_
       refine RA.seq hd ?_
       refine RA.par (md := [some [], some [], some [], some [], some [], some [], some [n37], some [], some [], some [n3], some [jq], some [jq], some [], some [], some []]) env_ok (hd.of (by omega) (kb6 (by omega))) (by kernel_rfl) ?_
       refine PQ.pure (dst := (some 79)) (v := (.bool false)) rfl rfl rfl noStore (none_ok _ _) rfl ?_
       refine PQ.pure (dst := (some 80)) (v := (.bool false)) rfl rfl rfl noStore (none_ok _ _) rfl ?_
       refine PQ.pure (dst := (some 81)) (v := (.bool false)) rfl rfl rfl noStore (none_ok _ _) rfl ?_
       refine PQ.pure (dst := (some 82)) (v := (.bool false)) rfl rfl rfl noStore (none_ok _ _) rfl ?_
       refine PQ.pure (dst := (some 83)) (v := (.bool false)) rfl rfl rfl noStore (none_ok _ _) rfl ?_
       refine PQ.pure (dst := (some 84)) (v := (.bool false)) rfl rfl rfl noStore (none_ok _ _) rfl ?_
       refine PQ.off (dst := (some 85)) rfl rfl rfl ?_
       refine PQ.off (dst := (some 86)) rfl rfl rfl ?_
       refine PQ.off (dst := (some 87)) rfl rfl rfl ?_
       refine PQ.off (dst := (some 88)) rfl rfl rfl ?_
       refine PQ.off (dst := (some 89)) rfl rfl rfl ?_
       refine PQ.off (dst := (some 90)) rfl rfl rfl ?_
       refine PQ.off (dst := (some 91)) rfl rfl rfl ?_
       refine PQ.pure (dst := (some 92)) (v := (.bool false)) rfl rfl rfl noStore (none_ok _ _) rfl ?_
       refine PQ.pure (dst := (some 93)) (v := (.bool false)) rfl rfl rfl noStore (none_ok _ _) rfl ?_
       refine PQ.done (d := []) (by kernel_rfl) ?_
       intro _
       refine RA.rebase [(0, lv), (3, (Pt q 0 0)), (4, (.slice (some ⟨jq, 0, none⟩) 0 0)), (5, (.int .i64 ((i : Nat) : Int))), (6, (Pt n3 0 0)), (7, (.bool false)), (8, (Pt n37 0 0)), (9, (.bool false)), (25, (.bool true)), (44, (.int .i64 (a.what.tmod 5))), (70, (.bool true)), (93, (.bool false))] ⟨rfl, rfl, rfl, rfl, rfl, rfl, rfl, rfl, rfl, rfl, rfl, rfl, trivial⟩ (fun τr38 => ?_)
       refine RA.condF rfl ?_
       refine RA.skip env_ok ?_
       intro _
       refine RA.seq hd ?_
       refine RA.region env_ok ?_
       refine OA.p (some 94) (.bool false) rfl rfl rfl rfl ?_
       refine OA.nil ?_
       intro _
       refine RA.condF rfl ?_
       refine RA.skip env_ok ?_
       exact ⟨rfl, .inl (⟨jq, ⟨rfl, rfl, rfl, rfl, trivial⟩, ⟨[(q, some ⟨[[(.slice none 0 0), (.int .i64 0)]], 2, 115, true⟩), (jq, some (oItem ([] : List Item)))], (Less.of (fac (mm (fun _ => get_here) (fun _ => (gt4 (by omega) get_here))) (fac (mm (fun _ => (get_there (by omega) get_here)) (fun _ => (gt5 (by omega) get_here))) fan)) (gone_of (by simp only [goneP, memP, List.cons_append, List.nil_append, true_or, or_true, true_and, and_true, or_false] <;> omega))), rfl⟩, by omega, (kb2 (by omega)), ⟨by omega, by omega⟩⟩)⟩
      ·
       refine OA.p (some 71) (.bool false) rfl rfl rfl (Eq.trans (r_bin rfl rfl rfl (b_eql rfl)) (dF hc15)) ?_
       refine OA.p (some 70) (.bool false) rfl rfl rfl rfl ?_
       refine OA.nil ?_
       intro _
       refine RA.condF rfl ?_
       refine RA.seq hd ?_
       refine RA.region env_ok ?_
       by_cases hc16 : (a.what.tmod 5) = 3
       ·
        refine OA.p (some 108) (.bool true) rfl rfl rfl (Eq.trans (r_bin rfl rfl rfl (b_eql rfl)) (dT hc16)) ?_
        refine OA.p (some 107) (.bool true) rfl rfl rfl rfl ?_
        refine OA.nil ?_
        intro _
        refine RA.condT rfl ?_
        refine RA.seq hd ?_
        refine RA.seq hd ?_
        refine RA.region env_ok ?_
        refine OA.p (some 109) (Pt q 0 0) rfl rfl rfl rfl ?_
        refine OA.p (some 110) (Pt n3 0 7) rfl rfl rfl rfl ?_
        refine OA.p (some 111) (.int .i64 a.pos) rfl rfl rfl (r_load1 rfl rfl rfl rfl rfl get_here rfl rfl) ?_
        refine OA.call (dst := (some 112)) (all := [(Pt q 0 0), (.int .i64 a.pos)]) rfl rfl rfl rfl rfl rfl rfl rfl (CQ.imp (nDoubleOA (hd.of (by omega) (kb4 (by omega))) q a.pos (gt2 (by omega) get_here)) ?_)
        rintro _ n39 _ ⟨rfl, rfl⟩ hn39
        refine OA.app0 ?_
        refine OA.p (some 113) (.bool false) rfl rfl rfl rfl ?_
        refine OA.p (some 114) (.bool false) rfl rfl rfl rfl ?_
        refine OA.nil ?_
        intro _
        refine RA.condF rfl ?_
        refine RA.skip env_ok ?_
        intro _
        refine RA.seq hd ?_
        refine RA.region env_ok ?_
        refine OA.p (some 115) (.bool false) rfl rfl rfl rfl ?_
        refine OA.nil ?_
        intro _
        refine RA.condF rfl ?_
        refine RA.skip env_ok ?_
        exact ⟨rfl, .inl (⟨jq, ⟨rfl, rfl, rfl, rfl, trivial⟩, ⟨[(q, some ⟨[[(.slice none 0 0), (.int .i64 0)]], 2, 115, true⟩), (jq, some (oItem ([] : List Item)))], (Less.of (fac (mm (fun _ => get_here) (fun _ => (gt2 (by omega) get_here))) (fac (mm (fun _ => (get_there (by omega) get_here)) (fun _ => (gt3 (by omega) get_here))) fan)) (gone_of (by simp only [goneP, memP, List.cons_append, List.nil_append, true_or, or_true, true_and, and_true, or_false] <;> omega))), rfl⟩, by omega, (kb2 (by omega)), ⟨by omega, by omega⟩⟩)⟩
       ·
        refine OA.p (some 108) (.bool false) rfl rfl rfl (Eq.trans (r_bin rfl rfl rfl (b_eql rfl)) (dF hc16)) ?_
        refine OA.p (some 107) (.bool false) rfl rfl rfl rfl ?_
        refine OA.nil ?_
        intro _
        refine RA.condF rfl ?_
        refine RA.seq hd ?_
        refine RA.region env_ok ?_
        by_cases hc17 : (a.what.tmod 5) = 4
        ·
         refine OA.p (some 127) (.bool true) rfl rfl rfl (Eq.trans (r_bin rfl rfl rfl (b_eql rfl)) (dT hc17)) ?_
         refine OA.p (some 126) (.bool true) rfl rfl rfl rfl ?_
         refine OA.nil ?_
         intro _
         refine RA.condT rfl ?_
         refine RA.seq hd ?_
         refine RA.region env_ok ?_
         refine OA.p (some 128) (.bool false) rfl rfl rfl rfl ?_
         refine OA.p (some 129) (.bool false) rfl rfl rfl rfl ?_
         refine OA.off (dst := (some 130)) rfl rfl rfl ?_
         refine OA.off (dst := (some 131)) rfl rfl rfl ?_
         refine OA.off (dst := (some 132)) rfl rfl rfl ?_
         refine OA.off (dst := (some 133)) rfl rfl rfl ?_
         refine OA.off (dst := (some 134)) rfl rfl rfl ?_
         refine OA.off (dst := (some 135)) rfl rfl rfl ?_
         refine OA.off (dst := (some 136)) rfl rfl rfl ?_
         refine OA.p (some 137) (.bool false) rfl rfl rfl rfl ?_
         refine OA.p (some 138) (.bool false) rfl rfl rfl rfl ?_
         refine OA.off (dst := (some 139)) rfl rfl rfl ?_
         refine OA.off (dst := (some 140)) rfl rfl rfl ?_
         refine OA.off (dst := (some 141)) rfl rfl rfl ?_
         refine OA.off (dst := (some 142)) rfl rfl rfl ?_
         refine OA.off (dst := (some 143)) rfl rfl rfl ?_
         refine OA.off (dst := (some 144)) rfl rfl rfl ?_
         refine OA.off (dst := (some 145)) rfl rfl rfl ?_
         refine OA.off (dst := (some 146)) rfl rfl rfl ?_
         refine OA.p (some 147) (.bool false) rfl rfl rfl rfl ?_
         refine OA.p (some 10) (.bool false) rfl rfl rfl rfl ?_
         refine OA.nil ?_
         intro _
         refine RA.rebase [(0, lv), (3, (Pt q 0 0)), (4, (.slice (some ⟨jq, 0, none⟩) 0 0)), (5, (.int .i64 ((i : Nat) : Int))), (6, (Pt n3 0 0)), (7, (.bool false)), (10, (.bool false)), (25, (.bool true)), (44, (.int .i64 (a.what.tmod 5))), (70, (.bool false)), (107, (.bool false)), (126, (.bool true))] ⟨rfl, rfl, rfl, rfl, rfl, rfl, rfl, rfl, rfl, rfl, rfl, rfl, trivial⟩ (fun τr40 => ?_)
         refine RA.seq hd ?_
         refine RA.seq hd ?_
         refine RA.region env_ok ?_
         refine OA.p (some 148) (Pt q 0 0) rfl rfl rfl rfl ?_
         refine OA.p (some 149) (Pt n3 0 7) rfl rfl rfl rfl ?_
         refine OA.p (some 150) (.int .i64 a.pos) rfl rfl rfl (r_load1 rfl rfl rfl rfl rfl get_here rfl rfl) ?_
         refine OA.p (some 151) (Pt n3 0 8) rfl rfl rfl rfl ?_
         refine OA.p (some 152) (.int .i64 a.bit) rfl rfl rfl (r_load1 rfl rfl rfl rfl rfl get_here rfl rfl) ?_
         refine OA.call (dst := (some 153)) (all := [(Pt q 0 0), (.int .i64 a.pos), (.int .i64 a.bit)]) rfl rfl rfl rfl rfl rfl rfl rfl (CQ.imp (nBendOA (hd.of (by omega) (kb4 (by omega))) q a.pos a.bit (gt2 (by omega) get_here)) ?_)
         rintro _ n41 _ ⟨rfl, rfl⟩ hn41
         refine OA.app0 ?_
         refine OA.p (some 154) (.bool false) rfl rfl rfl rfl ?_
         refine OA.p (some 155) (.bool false) rfl rfl rfl rfl ?_
         refine OA.nil ?_
         intro _
         refine RA.condF rfl ?_
         refine RA.skip env_ok ?_
         intro _
         refine RA.seq hd ?_
         refine RA.region env_ok ?_
         refine OA.p (some 156) (.bool false) rfl rfl rfl rfl ?_
         refine OA.nil ?_
         intro _
         refine RA.condF rfl ?_
         refine RA.skip env_ok ?_
         exact ⟨rfl, .inl (⟨jq, ⟨rfl, rfl, rfl, rfl, trivial⟩, ⟨[(q, some ⟨[[(.slice none 0 0), (.int .i64 0)]], 2, 115, true⟩), (jq, some (oItem ([] : List Item)))], (Less.of (fac (mm (fun _ => get_here) (fun _ => (gt2 (by omega) get_here))) (fac (mm (fun _ => (get_there (by omega) get_here)) (fun _ => (gt3 (by omega) get_here))) fan)) (gone_of (by simp only [goneP, memP, List.cons_append, List.nil_append, true_or, or_true, true_and, and_true, or_false] <;> omega))), rfl⟩, by omega, (kb2 (by omega)), ⟨by omega, by omega⟩⟩)⟩
        ·
         refine OA.p (some 127) (.bool false) rfl rfl rfl (Eq.trans (r_bin rfl rfl rfl (b_eql rfl)) (dF hc17)) ?_
         refine OA.p (some 126) (.bool false) rfl rfl rfl rfl ?_
         refine OA.nil ?_
         intro _
         refine RA.condF rfl ?_
         refine RA.seq hd ?_
         refine RA.region env_ok ?_
         refine OA.p (some 45) (Pt n3 0 1) rfl rfl rfl rfl ?_
         refine OA.p (some 46) (.agg ⟨[(.int .i64 a.leg), (.int .i64 a.nat), (W a.fr), (W a.to), (.string a.s), (.bool a.bent)]⟩) rfl rfl rfl (r_loadA rfl rfl rfl rfl get_here rfl rfl rfl) ?_
         refine OA.op1 (dst := (some 11)) (v := (.pointer (some ⟨(n3 + 1), 0, some 0⟩))) (n1 := (n3 + 2)) (w := ((n3 + 1), some ⟨[xNp47], 6, 59, true⟩)) rfl rfl rfl rfl (by omega) ?_
         refine OA.op1 (dst := none) (v := (.tuple #[])) (n1 := (n3 + 2)) (w := ((n3 + 1), some ⟨[[(.int .i64 a.leg), (.int .i64 a.nat), (W a.fr), (W a.to), (.string a.s), (.bool a.bent)]], 6, 59, true⟩)) rfl rfl rfl (r_store rfl rfl rfl rfl rfl rfl rfl get_here rfl rfl (Nat.le_of_ble_eq_true rfl) rfl) (by omega) ?_
         refine OA.nil ?_
         intro _
         refine RA.seq hd ?_
         refine RA.region env_ok ?_
         refine OA.p (some 47) (Pt n3 0 1) rfl rfl rfl rfl ?_
         refine OA.p (some 48) (Pt n3 0 3) rfl rfl rfl rfl ?_
         refine OA.p (some 49) (Pt n3 0 5) rfl rfl rfl rfl ?_
         refine OA.p (some 50) (.string a.s) rfl rfl rfl (r_load1 rfl rfl rfl rfl rfl (gt2 (by omega) get_here) rfl rfl) ?_
         refine OA.p (some 51) (Pt n3 0 1) rfl rfl rfl rfl ?_
         refine OA.p (some 52) (Pt n3 0 3) rfl rfl rfl rfl ?_
         refine OA.p (some 53) (Pt n3 0 5) rfl rfl rfl rfl ?_
         refine OA.p (some 54) (.string a.s) rfl rfl rfl (r_load1 rfl rfl rfl rfl rfl (gt2 (by omega) get_here) rfl rfl) ?_
         refine OA.p (some 55) (.int .i64 ((a.s.size : Nat) : Int)) rfl rfl rfl rfl ?_
         refine OA.p (some 56) (.int .i64 (((min a.s.size 10) : Nat) : Int)) rfl rfl rfl (r_min (a := a.s.size) (b := 10) rfl rfl rfl) ?_
         refine OA.p (some 57) (.string (a.s.extract 0 (min a.s.size 10))) rfl rfl rfl (r_cut (a := 0) (b := (min a.s.size 10)) rfl rfl (fun _ => rfl) (fun _ => rfl) rfl rfl rfl bound_nat (by omega) (by omega) rfl) ?_
         refine OA.p (some 58) (.pointer (some ⟨(n3 + 1), 0, some 2⟩)) rfl rfl rfl rfl ?_
         refine OA.p (some 59) (.pointer (some ⟨(n3 + 1), 0, some 4⟩)) rfl rfl rfl rfl ?_
         refine OA.op1 (dst := none) (v := (.tuple #[])) (n1 := (n3 + 2)) (w := ((n3 + 1), some ⟨[(xNp46 a)], 6, 59, true⟩)) rfl rfl rfl (r_store rfl rfl rfl rfl rfl rfl rfl get_here rfl rfl (Nat.le_of_ble_eq_true rfl) rfl) (by omega) ?_
         refine OA.nil ?_
         intro _
         refine RA.weaken (D' := [((n3 + 1), some ⟨[(xNp46 a)], 6, 59, true⟩), (n3, some ⟨[(cAct a)], 9, 67, true⟩), (q, some ⟨[[(.slice none 0 0), (.int .i64 0)]], 2, 115, true⟩), (jq, some (oItem ([] : List Item)))]) hd (Less.of (fac (mm (fun _ => get_here) (fun _ => get_here)) (fac (mm (fun _ => (get_there (by omega) get_here)) (fun _ => (gt3 (by omega) get_here))) (fac (mm (fun _ => (gt2 (by omega) get_here)) (fun _ => (gt5 (by omega) get_here))) (fac (mm (fun _ => (gt3 (by omega) get_here)) (fun _ => (gt6 (by omega) get_here))) fan)))) (gone_of (by simp only [goneP, memP, List.cons_append, List.nil_append, true_or, or_true, true_and, and_true, or_false] <;> omega))) ?_
         refine RA.rebase [(0, lv), (3, (Pt q 0 0)), (4, (.slice (some ⟨jq, 0, none⟩) 0 0)), (5, (.int .i64 ((i : Nat) : Int))), (6, (Pt n3 0 0)), (7, (.bool false)), (11, (.pointer (some ⟨(n3 + 1), 0, some 0⟩))), (25, (.bool true)), (44, (.int .i64 (a.what.tmod 5))), (70, (.bool false)), (107, (.bool false)), (126, (.bool false))] ⟨rfl, rfl, rfl, rfl, rfl, rfl, rfl, rfl, rfl, rfl, rfl, rfl, trivial⟩ (fun τr42 => ?_)
         refine RA.seq hd ?_
         refine RA.seq hd ?_
         refine RA.region env_ok ?_
         refine OA.p (some 60) (Pt q 0 0) rfl rfl rfl rfl ?_
         refine OA.p (some 61) (.agg ⟨(xNp46 a)⟩) rfl rfl rfl (r_loadA rfl rfl rfl rfl get_here rfl rfl rfl) ?_
         refine OA.call (dst := (some 62)) (all := (xNp44 q a)) rfl rfl rfl rfl rfl rfl rfl rfl (CQ.imp (nPutA (hd.of (by omega) (kb4 (by omega))) q (Item.mk a.leg a.nat a.fr a.to (a.s.extract 0 (min a.s.size 10)) a.bent) (gt2 (by omega) get_here)) ?_)
         rintro _ n43 _ ⟨in43, hin43a, hin43b, rfl, rfl⟩ hn43
         refine OA.app2 ?_
         refine OA.p (some 63) (.bool false) rfl rfl rfl rfl ?_
         refine OA.nil ?_
         intro _
         refine RA.condF rfl ?_
         refine RA.skip env_ok ?_
         intro _
         refine RA.par (md := [some [], some [], none, some [(n3 + 1)], some [], none, some []]) env_ok (hd.of (by omega) (kb6 (by omega))) (by kernel_rfl) ?_
         refine PQ.op (dst := (some 64)) (v := (.slice (some ⟨n43, 0, none⟩) 0 0)) (n1 := (n43 + 1)) (d1 := [(n43, some (oItem ([] : List Item)))]) rfl rfl rfl noStore (none_ok _ _) (by kernel_rfl) (by omega) (kp1 (wr_new (by omega) (by omega))) ?_
         refine PQ.pure (dst := (some 65)) (v := (.slice (some ⟨jq, 0, none⟩) 0 0)) rfl rfl rfl noStore (none_ok _ _) rfl ?_
         refine PQ.pure (dst := (some 66)) (v := (.slice (some ⟨n43, 0, none⟩) 0 0)) rfl rfl rfl _ (seen_any (V := [(n43, some (oItem ([] : List Item)))]) (D := [(q, some ⟨[[(.slice (some ⟨in43, 0, none⟩) 1 0), (.int .i64 0)]], 2, 115, true⟩), (in43, some (oItem [(Item.mk a.leg a.nat a.fr a.to (a.s.extract 0 (min a.s.size 10)) a.bent)])), ((n3 + 1), some ⟨[(xNp46 a)], 6, 59, true⟩), (n3, some ⟨[(cAct a)], 9, 67, true⟩), (q, some ⟨[[(.slice none 0 0), (.int .i64 0)]], 2, 115, true⟩), (jq, some (oItem ([] : List Item)))]) (by kernel_rfl)) (r_appendZ rfl rfl rfl rfl (.inl ⟨_, _, _, rfl⟩) rfl rfl rfl rfl rfl (by decide) (by omega)) ?_
         refine PQ.pure (dst := (some 67)) (v := (.agg ⟨(xNp46 a)⟩)) rfl rfl rfl (app [((n3 + 1), some ⟨[(xNp46 a)], 6, 59, true⟩)] noStore) (seen_one (V := []) (D := [(q, some ⟨[[(.slice (some ⟨in43, 0, none⟩) 1 0), (.int .i64 0)]], 2, 115, true⟩), (in43, some (oItem [(Item.mk a.leg a.nat a.fr a.to (a.s.extract 0 (min a.s.size 10)) a.bent)])), ((n3 + 1), some ⟨[(xNp46 a)], 6, 59, true⟩), (n3, some ⟨[(cAct a)], 9, 67, true⟩), (q, some ⟨[[(.slice none 0 0), (.int .i64 0)]], 2, 115, true⟩), (jq, some (oItem ([] : List Item)))]) (by kernel_rfl) (gt2 (by omega) get_here)) (r_loadA rfl rfl rfl rfl get_here rfl rfl rfl) ?_
         refine PQ.op (dst := (some 68)) (v := (.slice (some ⟨(n43 + 1), 0, none⟩) 1 0)) (n1 := (n43 + 2)) (d1 := [((n43 + 1), some ⟨[(xNp46 a)], 6, 59, true⟩)]) rfl rfl rfl noStore (none_ok _ _) (by kernel_rfl) (by omega) (kp1 (wr_new (by omega) (by omega))) ?_
         refine PQ.op (dst := (some 69)) (v := (.slice (some ⟨(n43 + 2), 0, none⟩) 1 0)) (n1 := (n43 + 3)) (d1 := [((n43 + 2), some (oItem [(Item.mk a.leg a.nat a.fr a.to (a.s.extract 0 (min a.s.size 10)) a.bent)])), (n43, none)]) rfl rfl rfl _ (seen_any (V := [((n43 + 1), some ⟨[(xNp46 a)], 6, 59, true⟩), (n43, some (oItem ([] : List Item)))]) (D := [(q, some ⟨[[(.slice (some ⟨in43, 0, none⟩) 1 0), (.int .i64 0)]], 2, 115, true⟩), (in43, some (oItem [(Item.mk a.leg a.nat a.fr a.to (a.s.extract 0 (min a.s.size 10)) a.bent)])), ((n3 + 1), some ⟨[(xNp46 a)], 6, 59, true⟩), (n3, some ⟨[(cAct a)], 9, 67, true⟩), (q, some ⟨[[(.slice none 0 0), (.int .i64 0)]], 2, 115, true⟩), (jq, some (oItem ([] : List Item)))]) (by kernel_rfl)) (r_appendR (c := cItem) (l' := [(Item.mk a.leg a.nat a.fr a.to (a.s.extract 0 (min a.s.size 10)) a.bent)]) rfl rfl rfl rfl rfl rfl rfl rfl rfl rfl (by decide) (get_there (by omega) get_here) get_here (by rw [show ([] : List Item).length = 0 from rfl]) rfl (by omega) (of_decide_eq_true (by kernel_rfl)) (by omega)) (by omega) (kp2 (wr_new (by omega) (by omega)) (wr_tight (by kernel_rfl) (by omega))) ?_
         refine PQ.pure (dst := (some 4)) (v := (.slice (some ⟨(n43 + 2), 0, none⟩) 1 0)) rfl rfl rfl noStore (none_ok _ _) rfl ?_
         refine PQ.done (d := [((n43 + 2), some (oItem [(Item.mk a.leg a.nat a.fr a.to (a.s.extract 0 (min a.s.size 10)) a.bent)])), (n43, none), ((n43 + 1), some ⟨[(xNp46 a)], 6, 59, true⟩), (n43, some (oItem ([] : List Item)))]) (by kernel_rfl) ?_
         exact ⟨rfl, .inr (⟨1, [(Item.mk a.leg a.nat a.fr a.to (a.s.extract 0 (min a.s.size 10)) a.bent)], in43, (n43 + 2), ⟨rfl, rfl, rfl, rfl, trivial⟩, ⟨[(q, some ⟨[[(.slice (some ⟨in43, 0, none⟩) 1 0), (.int .i64 0)]], 2, 115, true⟩), (in43, some (oItem [(Item.mk a.leg a.nat a.fr a.to (a.s.extract 0 (min a.s.size 10)) a.bent)])), ((n43 + 2), some (oItem [(Item.mk a.leg a.nat a.fr a.to (a.s.extract 0 (min a.s.size 10)) a.bent)]))], (Less.of (fac (mm (fun _ => get_here) (fun _ => (gt4 (by omega) get_here))) (fac (mm (fun _ => (get_there (by omega) get_here)) (fun _ => (gt5 (by omega) get_here))) (fac (mm (fun _ => (gt2 (by omega) get_here)) (fun _ => get_here)) fan))) (gone_of (by simp only [goneP, memP, List.cons_append, List.nil_append, true_or, or_true, true_and, and_true, or_false] <;> omega))), rfl⟩, by omega, (kb3 (by omega)), ⟨rfl, by omega, by omega, by omega, by omega, by omega, by omega, SZ.one (cut10 _)⟩⟩)⟩
     ·
      rintro _ τ44 n44 Dn44 hmn44 ⟨rfl, hSn44⟩
      rcases hSn44 with ⟨jq2, hHn44, ⟨_, hLn44, rfl⟩, hn44, hKn44, hIn44⟩ | ⟨N2, l2, j2, jq2, hHn44, ⟨_, hLn44, rfl⟩, hn44, hKn44, hIn44⟩
      ·
       intro _
       refine RA.weaken hd hLn44 ?_
       rw [Has.eq hHn44]
       have hKn44_0 : q < n44 := hKn44 _ (by simp only [keys, List.map_cons, List.map_nil, List.mem_cons, true_or, or_true])
       have hKn44_1 : jq2 < n44 := hKn44 _ (by simp only [keys, List.map_cons, List.map_nil, List.mem_cons, true_or, or_true])
       clear hKn44
       obtain ⟨hjq, hqjq⟩ := hIn44
       refine RA.seq hd ?_
       refine RA.region env_ok ?_
       refine OA.p (some 181) (Pt q 0 0) rfl rfl rfl rfl ?_
       refine OA.callP (dst := (some 182)) (all := [(Pt q 0 0)]) (v := (.slice none 0 0)) (hd.of (by omega) (kb2 (by omega))) rfl rfl rfl rfl rfl rfl rfl rfl (nAllA q get_here) ?_
       intro n45 hn45
       refine OA.p (some 12) (.slice none 0 0) rfl rfl rfl rfl ?_
       refine OA.nil ?_
       intro _
       refine RA.seq hd ?_
       refine RA.seq hd ?_
       refine RA.region env_ok ?_
       refine OA.p (some 183) (.slice none 0 0) rfl rfl rfl rfl ?_
       refine OA.p (some 184) (.int .i64 0) rfl rfl rfl rfl ?_
       refine OA.p (some 185) (.slice (some ⟨jq2, 0, none⟩) 0 0) rfl rfl rfl rfl ?_
       refine OA.p (some 186) (.int .i64 0) rfl rfl rfl rfl ?_
       refine OA.p (some 187) (.bool false) rfl rfl rfl (r_bin rfl rfl rfl (b_neq rfl)) ?_
       refine OA.p (some 188) (.bool false) rfl rfl rfl rfl ?_
       refine OA.p (some 189) (Pt q 0 0) rfl rfl rfl rfl ?_
       refine OA.callP (dst := (some 190)) (all := [(Pt q 0 0)]) (v := (.int .i64 0)) (hd.of (by omega) (kb2 (by omega))) rfl rfl rfl rfl rfl rfl rfl rfl (nLenA q get_here) ?_
       intro n46 hn46
       refine OA.p (some 191) (.slice (some ⟨jq2, 0, none⟩) 0 0) rfl rfl rfl rfl ?_
       refine OA.p (some 192) (.int .i64 0) rfl rfl rfl rfl ?_
       refine OA.p (some 193) (.bool false) rfl rfl rfl (r_bin rfl rfl rfl (b_neq rfl)) ?_
       refine OA.p (some 194) (.bool false) rfl rfl rfl rfl ?_
       refine OA.nil ?_
       intro _
       refine RA.condF rfl ?_
       refine RA.skip env_ok ?_
       intro _
       refine RA.seq hd ?_
       refine RA.region env_ok ?_
       refine OA.p (some 13) (.int .i64 0) rfl rfl rfl rfl ?_
       refine OA.nil ?_
       intro _
       refine RA.block ?_
       refine RA.unroll hd ?_
       refine RA.seq hd ?_
       refine RA.seq hd ?_
       refine RA.region env_ok ?_
       refine OA.p (some 195) (.int .i64 0) rfl rfl rfl rfl ?_
       refine OA.p (some 196) (.slice (some ⟨jq2, 0, none⟩) 0 0) rfl rfl rfl rfl ?_
       refine OA.p (some 197) (.int .i64 0) rfl rfl rfl rfl ?_
       refine OA.p (some 198) (.bool false) rfl rfl rfl (r_bin rfl rfl rfl (b_lss rfl)) ?_
       refine OA.nil ?_
       intro _
       refine RA.condF rfl ?_
       refine RA.exit env_ok ?_
       intro _
       refine RA.region env_ok ?_
       refine OA.p (some 26) (.int .i64 ((i : Nat) : Int)) rfl rfl rfl rfl ?_
       refine OA.p (some 27) (.int .i64 (((i + 1) : Nat) : Int)) rfl rfl rfl (r_bin rfl rfl rfl (b_add (i64_eq (by omega)))) ?_
       refine OA.p (some 5) (.int .i64 (((i + 1) : Nat) : Int)) rfl rfl rfl rfl ?_
       refine OA.nil ?_
       refine ⟨(80 - (i + 1)), by omega, [(q, some ⟨[[(.slice none 0 0), (.int .i64 0)]], 2, 115, true⟩), (jq2, some (oItem ([] : List Item)))], (Less.refl _ _ _), .inl (⟨(i + 1), jq2, rfl, by omega, ⟨rfl, rfl, rfl, rfl, trivial⟩, rfl, (kb2 (by omega)), ⟨by omega, by omega, by omega, by omega⟩⟩)⟩
      ·
       intro _
       refine RA.weaken hd hLn44 ?_
       rw [Has.eq hHn44]
       have hKn44_0 : q < n44 := hKn44 _ (by simp only [keys, List.map_cons, List.map_nil, List.mem_cons, true_or, or_true])
       have hKn44_1 : j2 < n44 := hKn44 _ (by simp only [keys, List.map_cons, List.map_nil, List.mem_cons, true_or, or_true])
       have hKn44_2 : jq2 < n44 := hKn44 _ (by simp only [keys, List.map_cons, List.map_nil, List.mem_cons, true_or, or_true])
       clear hKn44
       obtain ⟨hl, hNi, hj, hjq, hqj, hqjq, hjj, hsz⟩ := hIn44
       refine RA.seq hd ?_
       refine RA.region env_ok ?_
       refine OA.p (some 181) (Pt q 0 0) rfl rfl rfl rfl ?_
       refine OA.call (dst := (some 182)) (all := [(Pt q 0 0)]) rfl rfl rfl rfl rfl rfl rfl rfl (CQ.imp (nAll (hd.of (by omega) (kb3 (by omega))) q j2 N2 l2 hl (by omega) (by omega) get_here (get_there (by omega) get_here)) ?_)
       rintro _ n47 _ ⟨in47, hin47a, hin47b, rfl, rfl⟩ hn47
       refine OA.app1 ?_
       refine OA.p (some 12) (.slice (some ⟨in47, 0, none⟩) N2 0) rfl rfl rfl rfl ?_
       refine OA.nil ?_
       intro _
       refine RA.seq hd ?_
       refine RA.seq hd ?_
       refine RA.region env_ok ?_
       refine OA.p (some 183) (.slice (some ⟨in47, 0, none⟩) N2 0) rfl rfl rfl rfl ?_
       refine OA.p (some 184) (.int .i64 ((N2 : Nat) : Int)) rfl rfl rfl rfl ?_
       refine OA.p (some 185) (.slice (some ⟨jq2, 0, none⟩) N2 0) rfl rfl rfl rfl ?_
       refine OA.p (some 186) (.int .i64 ((N2 : Nat) : Int)) rfl rfl rfl rfl ?_
       refine OA.p (some 187) (.bool false) rfl rfl rfl (r_bin rfl rfl rfl (b_neq (decide_eq_false (fun h => h rfl)))) ?_
       refine OA.p (some 188) (.bool false) rfl rfl rfl rfl ?_
       refine OA.p (some 189) (Pt q 0 0) rfl rfl rfl rfl ?_
       refine OA.callP (dst := (some 190)) (all := [(Pt q 0 0)]) (v := (.int .i64 ((N2 : Nat) : Int))) (hd.of (by omega) (kb4 (by omega))) rfl rfl rfl rfl rfl rfl rfl rfl (nLenB q j2 N2 (get_there (by omega) get_here)) ?_
       intro n48 hn48
       refine OA.p (some 191) (.slice (some ⟨jq2, 0, none⟩) N2 0) rfl rfl rfl rfl ?_
       refine OA.p (some 192) (.int .i64 ((N2 : Nat) : Int)) rfl rfl rfl rfl ?_
       refine OA.p (some 193) (.bool false) rfl rfl rfl (r_bin rfl rfl rfl (b_neq (decide_eq_false (fun h => h rfl)))) ?_
       refine OA.p (some 194) (.bool false) rfl rfl rfl rfl ?_
       refine OA.nil ?_
       intro _
       refine RA.condF rfl ?_
       refine RA.skip env_ok ?_
       intro _
       refine RA.seq hd ?_
       refine RA.region env_ok ?_
       refine OA.p (some 13) (.int .i64 0) rfl rfl rfl rfl ?_
       refine OA.nil ?_
       intro _
       refine RA.block ?_
       refine RA.loop hd (fun kk_ τ n' D => (∃ kk : Nat, kk_ = (N2 - kk) ∧ n48 ≤ n' ∧ Has τ [(0, lv), (3, (Pt q 0 0)), (4, (.slice (some ⟨jq2, 0, none⟩) N2 0)), (5, (.int .i64 ((i : Nat) : Int))), (12, (.slice (some ⟨in47, 0, none⟩) N2 0)), (13, (.int .i64 ((kk : Nat) : Int)))] ∧ D = [(in47, some (oItem l2)), (q, some ⟨[[(.slice (some ⟨j2, 0, none⟩) N2 0), (.int .i64 0)]], 2, 115, true⟩), (j2, some (oItem l2)), (jq2, some (oItem l2))] ∧ (∀ i ∈ keys D, i < n') ∧ kk ≤ N2)) ((N2 - 0)) (⟨0, rfl, by omega, ⟨rfl, rfl, rfl, rfl, rfl, rfl, trivial⟩, rfl, (kb4 (by omega)), by omega⟩) ?_
       rintro kn49 τ49 n49 _ ⟨kk, rfl, hn49, hHn49, rfl, hKn49, hIn49⟩
       rw [Has.eq hHn49]
       have hKn49_0 : in47 < n49 := hKn49 _ (by simp only [keys, List.map_cons, List.map_nil, List.mem_cons, true_or, or_true])
       have hKn49_1 : q < n49 := hKn49 _ (by simp only [keys, List.map_cons, List.map_nil, List.mem_cons, true_or, or_true])
       have hKn49_2 : j2 < n49 := hKn49 _ (by simp only [keys, List.map_cons, List.map_nil, List.mem_cons, true_or, or_true])
       have hKn49_3 : jq2 < n49 := hKn49 _ (by simp only [keys, List.map_cons, List.map_nil, List.mem_cons, true_or, or_true])
       clear hKn49
       refine RA.seq hd ?_
       refine RA.seq hd ?_
       refine RA.region env_ok ?_
       refine OA.p (some 195) (.int .i64 ((kk : Nat) : Int)) rfl rfl rfl rfl ?_
       refine OA.p (some 196) (.slice (some ⟨jq2, 0, none⟩) N2 0) rfl rfl rfl rfl ?_
       refine OA.p (some 197) (.int .i64 ((N2 : Nat) : Int)) rfl rfl rfl rfl ?_
       by_cases hc18 : ((kk : Nat) : Int) < ((N2 : Nat) : Int)
       ·
        refine OA.p (some 198) (.bool true) rfl rfl rfl (Eq.trans (r_bin rfl rfl rfl (b_lss rfl)) (dT hc18)) ?_
        refine OA.nil ?_
        intro _
        refine RA.condT rfl ?_
        refine RA.skip env_ok ?_
        intro _
        refine RA.seq hd ?_
        refine RA.block ?_
        refine RA.seq hd ?_
        refine RA.par (md := [some [], some [], some [in47], some [in47], some [], some [], some [jq2], some [jq2], some []]) env_ok (hd.of (by omega) (kb4 (by omega))) (by kernel_rfl) ?_
        refine PQ.pure (dst := (some 201)) (v := (.slice (some ⟨in47, 0, none⟩) N2 0)) rfl rfl rfl noStore (none_ok _ _) rfl ?_
        refine PQ.pure (dst := (some 202)) (v := (.int .i64 ((kk : Nat) : Int))) rfl rfl rfl noStore (none_ok _ _) rfl ?_
        refine PQ.pure (dst := (some 203)) (v := (Pt in47 kk 0)) rfl rfl rfl (app [(in47, some (oItem l2))] noStore) (seen_one (V := []) (D := [(in47, some (oItem l2)), (q, some ⟨[[(.slice (some ⟨j2, 0, none⟩) N2 0), (.int .i64 0)]], 2, 115, true⟩), (j2, some (oItem l2)), (jq2, some (oItem l2))]) (by kernel_rfl) get_here) (r_iaS (l := kk) rfl rfl rfl rfl rfl rfl (by omega) (by omega) get_here rfl (by omega)) ?_
        refine PQ.pure (dst := (some 204)) (v := (.agg ⟨(cItem (l2.getD kk dItem))⟩)) rfl rfl rfl (app [(in47, some (oItem l2))] noStore) (seen_one (V := []) (D := [(in47, some (oItem l2)), (q, some ⟨[[(.slice (some ⟨j2, 0, none⟩) N2 0), (.int .i64 0)]], 2, 115, true⟩), (j2, some (oItem l2)), (jq2, some (oItem l2))]) (by kernel_rfl) get_here) (r_loadR (c := cItem) dItem rfl rfl rfl rfl get_here (by rw [hl]; omega) rfl) ?_
        refine PQ.pure (dst := (some 205)) (v := (.slice (some ⟨jq2, 0, none⟩) N2 0)) rfl rfl rfl noStore (none_ok _ _) rfl ?_
        refine PQ.pure (dst := (some 206)) (v := (.int .i64 ((kk : Nat) : Int))) rfl rfl rfl noStore (none_ok _ _) rfl ?_
        refine PQ.pure (dst := (some 207)) (v := (Pt jq2 kk 0)) rfl rfl rfl (app [(jq2, some (oItem l2))] noStore) (seen_one (V := []) (D := [(in47, some (oItem l2)), (q, some ⟨[[(.slice (some ⟨j2, 0, none⟩) N2 0), (.int .i64 0)]], 2, 115, true⟩), (j2, some (oItem l2)), (jq2, some (oItem l2))]) (by kernel_rfl) (gt3 (by omega) get_here)) (r_iaS (l := kk) rfl rfl rfl rfl rfl rfl (by omega) (by omega) get_here rfl (by omega)) ?_
        refine PQ.pure (dst := (some 208)) (v := (.agg ⟨(cItem (l2.getD kk dItem))⟩)) rfl rfl rfl (app [(jq2, some (oItem l2))] noStore) (seen_one (V := []) (D := [(in47, some (oItem l2)), (q, some ⟨[[(.slice (some ⟨j2, 0, none⟩) N2 0), (.int .i64 0)]], 2, 115, true⟩), (j2, some (oItem l2)), (jq2, some (oItem l2))]) (by kernel_rfl) (gt3 (by omega) get_here)) (r_loadR (c := cItem) dItem rfl rfl rfl rfl get_here (by rw [hl]; omega) rfl) ?_
        refine PQ.pure (dst := (some 209)) (v := (.bool false)) rfl rfl rfl noStore (none_ok _ _) (r_neqA (r := true) rfl rfl rfl (by kernel_rfl) (aeq_self _ _ _ (by kernel_rfl))) ?_
        refine PQ.done (d := []) (by kernel_rfl) ?_
        intro _
        refine RA.condF rfl ?_
        refine RA.skip env_ok ?_
        intro _
        refine RA.region env_ok ?_
        refine OA.p (some 199) (.int .i64 ((kk : Nat) : Int)) rfl rfl rfl rfl ?_
        refine OA.p (some 200) (.int .i64 (((kk + 1) : Nat) : Int)) rfl rfl rfl (r_bin rfl rfl rfl (b_add (i64_eq (by omega)))) ?_
        refine OA.p (some 13) (.int .i64 (((kk + 1) : Nat) : Int)) rfl rfl rfl rfl ?_
        refine OA.nil ?_
        refine ⟨(N2 - (kk + 1)), by omega, [(in47, some (oItem l2)), (q, some ⟨[[(.slice (some ⟨j2, 0, none⟩) N2 0), (.int .i64 0)]], 2, 115, true⟩), (j2, some (oItem l2)), (jq2, some (oItem l2))], (Less.refl _ _ _), ⟨(kk + 1), rfl, by omega, ⟨rfl, rfl, rfl, rfl, rfl, rfl, trivial⟩, rfl, (kb4 (by omega)), by omega⟩⟩
       ·
        refine OA.p (some 198) (.bool false) rfl rfl rfl (Eq.trans (r_bin rfl rfl rfl (b_lss rfl)) (dF hc18)) ?_
        refine OA.nil ?_
        intro _
        refine RA.condF rfl ?_
        refine RA.exit env_ok ?_
        intro _
        refine RA.region env_ok ?_
        refine OA.p (some 26) (.int .i64 ((i : Nat) : Int)) rfl rfl rfl rfl ?_
        refine OA.p (some 27) (.int .i64 (((i + 1) : Nat) : Int)) rfl rfl rfl (r_bin rfl rfl rfl (b_add (i64_eq (by omega)))) ?_
        refine OA.p (some 5) (.int .i64 (((i + 1) : Nat) : Int)) rfl rfl rfl rfl ?_
        refine OA.nil ?_
        refine ⟨(80 - (i + 1)), by omega, [(q, some ⟨[[(.slice (some ⟨j2, 0, none⟩) N2 0), (.int .i64 0)]], 2, 115, true⟩), (j2, some (oItem l2)), (jq2, some (oItem l2))], (Less.of (fac (mm (fun _ => get_here) (fun _ => (get_there (by omega) get_here))) (fac (mm (fun _ => (get_there (by omega) get_here)) (fun _ => (gt2 (by omega) get_here))) (fac (mm (fun _ => (gt2 (by omega) get_here)) (fun _ => (gt3 (by omega) get_here))) fan))) (gone_of (by simp only [goneP, memP, List.cons_append, List.nil_append, true_or, or_true, true_and, and_true, or_false] <;> omega))), .inr (⟨(i + 1), N2, l2, j2, jq2, rfl, by omega, ⟨rfl, rfl, rfl, rfl, trivial⟩, rfl, (kb3 (by omega)), ⟨hl, by omega, by omega, by omega, by omega, by omega, by omega, by omega, by omega, hsz⟩⟩)⟩
   ·
    refine OA.p (some 24) (.bool false) rfl rfl rfl (Eq.trans (r_bin rfl rfl rfl (b_lss rfl)) (dF hc2)) ?_
    refine OA.p (some 25) (.bool false) rfl rfl rfl rfl ?_
    refine OA.nil ?_
    intro _
    refine RA.condF rfl ?_
    refine RA.exit env_ok ?_
    intro _
    refine RA.seq hd ?_
    refine RA.region env_ok ?_
    refine OA.p (some 210) (Pt q 0 0) rfl rfl rfl rfl ?_
    refine OA.callP (dst := (some 211)) (all := [(Pt q 0 0)]) (v := (.int .i64 0)) (hd.of (by omega) (kb2 (by omega))) rfl rfl rfl rfl rfl rfl rfl rfl (nFullA q get_here) ?_
    intro n50 hn50
    refine OA.p (some 212) (.bool true) rfl rfl rfl (r_bin rfl rfl rfl (b_eql rfl)) ?_
    refine OA.p (some 2) (.bool true) rfl rfl rfl rfl ?_
    refine OA.nil ?_
    intro _
    refine RA.ret env_ok ?_
    refine ⟨.inr rfl, [(.bool true)], (resL_cons rfl resL_nil), rfl, (kc2 (by omega))⟩
  ·
   refine OA.p (some 21) (.bool false) rfl rfl rfl (Eq.trans (r_bin rfl rfl rfl (b_lss rfl)) (dF hc1)) ?_
   refine OA.p (some 22) (.bool false) rfl rfl rfl rfl ?_
   refine OA.off (dst := (some 23)) rfl rfl rfl ?_
   refine OA.off (dst := (some 24)) rfl rfl rfl ?_
   refine OA.p (some 25) (.bool false) rfl rfl rfl rfl ?_
   refine OA.nil ?_
   intro _
   refine RA.condF rfl ?_
   refine RA.exit env_ok ?_
   intro _
   refine RA.seq hd ?_
   refine RA.region env_ok ?_
   refine OA.p (some 210) (Pt q 0 0) rfl rfl rfl rfl ?_
   refine OA.callP (dst := (some 211)) (all := [(Pt q 0 0)]) (v := (.int .i64 0)) (hd.of (by omega) (kb2 (by omega))) rfl rfl rfl rfl rfl rfl rfl rfl (nFullA q get_here) ?_
   intro n51 hn51
   refine OA.p (some 212) (.bool true) rfl rfl rfl (r_bin rfl rfl rfl (b_eql rfl)) ?_
   refine OA.p (some 2) (.bool true) rfl rfl rfl rfl ?_
   refine OA.nil ?_
   intro _
   refine RA.ret env_ok ?_
   refine ⟨.inr rfl, [(.bool true)], (resL_cons rfl resL_nil), rfl, (kc2 (by omega))⟩
 ·
  rw [Has.eq hHn3]
  have hKn3_0 : q < n3 := hKn3 _ (by simp only [keys, List.map_cons, List.map_nil, List.mem_cons, true_or, or_true])
  have hKn3_1 : j < n3 := hKn3 _ (by simp only [keys, List.map_cons, List.map_nil, List.mem_cons, true_or, or_true])
  have hKn3_2 : jq < n3 := hKn3 _ (by simp only [keys, List.map_cons, List.map_nil, List.mem_cons, true_or, or_true])
  clear hKn3
  obtain ⟨hl, hNi, hi80, hil, hj, hjq, hqj, hqjq, hjj, hsz⟩ := hIn3
  refine RA.seq hd ?_
  refine RA.seq hd ?_
  refine RA.region env_ok ?_
  refine OA.p (some 18) (.int .i64 ((i : Nat) : Int)) rfl rfl rfl rfl ?_
  refine OA.p (some 19) lv rfl rfl rfl rfl ?_
  refine OA.p (some 20) (.int .i64 ((ls.length : Nat) : Int)) rfl rfl rfl (r_lenP (c := cAct) rfl rfl rfl rfl rfl rfl hr rfl) ?_
  by_cases hc19 : ((i : Nat) : Int) < ((ls.length : Nat) : Int)
  ·
   obtain ⟨rest, hat⟩ := hr.get (m := i) (by omega)
   have lathat := hd.lt hat
   obtain ⟨a, ha⟩ : ∃ a, a = ls.getD i dAct := ⟨_, rfl⟩
   refine OA.p (some 21) (.bool true) rfl rfl rfl (Eq.trans (r_bin rfl rfl rfl (b_lss rfl)) (dT hc19)) ?_
   refine OA.p (some 22) (.bool true) rfl rfl rfl rfl ?_
   refine OA.p (some 23) (.int .i64 ((i : Nat) : Int)) rfl rfl rfl rfl ?_
   by_cases hc20 : ((i : Nat) : Int) < 80
   ·
    refine OA.p (some 24) (.bool true) rfl rfl rfl (Eq.trans (r_bin rfl rfl rfl (b_lss rfl)) (dT hc20)) ?_
    refine OA.p (some 25) (.bool true) rfl rfl rfl rfl ?_
    refine OA.nil ?_
    intro _
    refine RA.condT rfl ?_
    refine RA.skip env_ok ?_
    intro _
    refine RA.seq hd ?_
    refine RA.block ?_
    refine RA.seq hd ?_
    refine RA.region env_ok ?_
    refine OA.p (some 28) lv rfl rfl rfl rfl ?_
    refine OA.p (some 29) (.int .i64 ((i : Nat) : Int)) rfl rfl rfl rfl ?_
    refine OA.p (some 30) (.pointer (some ⟨(rk lv), i, some 0⟩)) rfl rfl rfl (r_iaP (c := cAct) (m := i) rfl rfl rfl rfl rfl rfl hr rfl (by omega) (gt3 (by omega) hat) rfl) ?_
    refine OA.p (some 31) (.agg ⟨(cAct a)⟩) rfl rfl rfl (by rw [ha]; exact r_loadA (e := cAct (ls.getD i dAct)) rfl rfl rfl rfl (gt3 (by omega) hat) (mp_getA (by omega)) rfl rfl) ?_
    refine OA.op1 (dst := (some 6)) (v := (Pt n3 0 0)) (n1 := (n3 + 1)) (w := (n3, some ⟨[xNp45], 9, 67, true⟩)) rfl rfl rfl rfl (by omega) ?_
    refine OA.op1 (dst := none) (v := (.tuple #[])) (n1 := (n3 + 1)) (w := (n3, some ⟨[(cAct a)], 9, 67, true⟩)) rfl rfl rfl (r_store rfl rfl rfl rfl rfl rfl rfl get_here rfl rfl (Nat.le_of_ble_eq_true rfl) rfl) (by omega) ?_
    refine OA.nil ?_
    intro _
    refine RA.seq hd ?_
    refine RA.region env_ok ?_
    refine OA.p (some 32) (Pt n3 0 7) rfl rfl rfl rfl ?_
    refine OA.p (some 33) (.int .i64 a.pos) rfl rfl rfl (r_load1 rfl rfl rfl rfl rfl get_here rfl rfl) ?_
    by_cases hc21 : 0 ≤ a.pos
    ·
     refine OA.p (some 34) (.bool true) rfl rfl rfl (Eq.trans (r_bin rfl rfl rfl (b_geq rfl)) (dT hc21)) ?_
     refine OA.p (some 35) (.bool true) rfl rfl rfl rfl ?_
     refine OA.p (some 36) (Pt n3 0 7) rfl rfl rfl rfl ?_
     refine OA.p (some 37) (.int .i64 a.pos) rfl rfl rfl (r_load1 rfl rfl rfl rfl rfl get_here rfl rfl) ?_
     refine OA.p (some 38) (.slice (some ⟨jq, 0, none⟩) N 0) rfl rfl rfl rfl ?_
     refine OA.p (some 39) (.int .i64 ((N : Nat) : Int)) rfl rfl rfl rfl ?_
     by_cases hc22 : a.pos < ((N : Nat) : Int)
     ·
      refine OA.p (some 40) (.bool true) rfl rfl rfl (Eq.trans (r_bin rfl rfl rfl (b_lss rfl)) (dT hc22)) ?_
      refine OA.p (some 41) (.bool true) rfl rfl rfl rfl ?_
      refine OA.p (some 7) (.bool true) rfl rfl rfl rfl ?_
      refine OA.nil ?_
      intro _
      refine RA.rebase [(0, lv), (3, (Pt q 0 0)), (4, (.slice (some ⟨jq, 0, none⟩) N 0)), (5, (.int .i64 ((i : Nat) : Int))), (6, (Pt n3 0 0)), (7, (.bool true)), (25, (.bool true))] ⟨rfl, rfl, rfl, rfl, rfl, rfl, rfl, trivial⟩ (fun τr52 => ?_)
      refine RA.seq hd (RA.imp (Q := fun x τ' n' D' => x = .normal ∧ ((∃ jq2 : Nat, Has τ' [(0, lv), (3, (Pt q 0 0)), (4, (.slice (some ⟨jq2, 0, none⟩) 0 0)), (5, (.int .i64 ((i : Nat) : Int)))] ∧ (∃ D2, Less n n' D' D2 ∧ D2 = [(q, some ⟨[[(.slice none 0 0), (.int .i64 0)]], 2, 115, true⟩), (jq2, some (oItem ([] : List Item)))]) ∧ (n3 + 1) ≤ n' ∧ (∀ i ∈ keys [(q, some ⟨[[(.slice none 0 0), (.int .i64 0)]], 2, 115, true⟩), (jq2, some (oItem ([] : List Item)))], i < n') ∧ n ≤ jq2 ∧ q ≠ jq2) ∨ (∃ N2 : Nat, ∃ l2 : List Item, ∃ j2 : Nat, ∃ jq2 : Nat, Has τ' [(0, lv), (3, (Pt q 0 0)), (4, (.slice (some ⟨jq2, 0, none⟩) N2 0)), (5, (.int .i64 ((i : Nat) : Int)))] ∧ (∃ D2, Less n n' D' D2 ∧ D2 = [(q, some ⟨[[(.slice (some ⟨j2, 0, none⟩) N2 0), (.int .i64 0)]], 2, 115, true⟩), (j2, some (oItem l2)), (jq2, some (oItem l2))]) ∧ (n3 + 1) ≤ n' ∧ (∀ i ∈ keys [(q, some ⟨[[(.slice (some ⟨j2, 0, none⟩) N2 0), (.int .i64 0)]], 2, 115, true⟩), (j2, some (oItem l2)), (jq2, some (oItem l2))], i < n') ∧ l2.length = N2 ∧ N2 ≤ i + 1 ∧ n ≤ j2 ∧ n ≤ jq2 ∧ q ≠ j2 ∧ q ≠ jq2 ∧ j2 ≠ jq2 ∧ SZ l2))) ?_ ?_)
      ·
       refine RA.seq hd ?_
       refine RA.region env_ok ?_
       refine OA.p (some 42) (Pt n3 0 0) rfl rfl rfl rfl ?_
       refine OA.p (some 43) (.int .i64 a.what) rfl rfl rfl (r_load1 rfl rfl rfl rfl rfl get_here rfl rfl) ?_
       refine OA.p (some 44) (.int .i64 (a.what.tmod 5)) rfl rfl rfl (r_bin rfl rfl rfl (b_rem (by decide) rfl)) ?_
       refine OA.nil ?_
       intro _
       refine RA.block ?_
       refine RA.seq hd ?_
       refine RA.region env_ok ?_
       by_cases hc23 : (a.what.tmod 5) = 2
       ·
        refine OA.p (some 71) (.bool true) rfl rfl rfl (Eq.trans (r_bin rfl rfl rfl (b_eql rfl)) (dT hc23)) ?_
        refine OA.p (some 70) (.bool true) rfl rfl rfl rfl ?_
        refine OA.nil ?_
        intro _
        refine RA.condT rfl ?_
        refine RA.seq hd ?_
        refine RA.region env_ok ?_
        refine OA.p (some 73) (Pt q 0 0) rfl rfl rfl rfl ?_
        refine OA.p (some 74) (Pt n3 0 7) rfl rfl rfl rfl ?_
        refine OA.p (some 75) (.int .i64 a.pos) rfl rfl rfl (r_load1 rfl rfl rfl rfl rfl get_here rfl rfl) ?_
        refine OA.call (dst := (some 76)) (all := [(Pt q 0 0), (.int .i64 a.pos)]) rfl rfl rfl rfl rfl rfl rfl rfl (CQ.imp (wTake (hd.of (by omega) (kb5 (by omega))) q j N l hl (by omega) (by omega) a.pos a.pos.toNat (by omega) (by omega) (gt2 (by omega) get_here) (gt3 (by omega) get_here)) ?_)
        rintro _ n53 _ ⟨rfl, rfl⟩ hn53
        refine OA.app2 ?_
        refine OA.p (some 72) (.tuple ⟨[(.agg ⟨(cItem (l.getD a.pos.toNat dItem))⟩), (.bool true)]⟩) rfl rfl rfl rfl ?_
        refine OA.p (some 77) (.agg ⟨(cItem (l.getD a.pos.toNat dItem))⟩) rfl rfl rfl rfl ?_
        refine OA.p (some 78) (.bool true) rfl rfl rfl rfl ?_
        refine OA.op1 (dst := (some 8)) (v := (Pt n53 0 0)) (n1 := (n53 + 1)) (w := (n53, some ⟨[xNp47], 6, 59, true⟩)) rfl rfl rfl rfl (by omega) ?_
        refine OA.op1 (dst := none) (v := (.tuple #[])) (n1 := (n53 + 1)) (w := (n53, some ⟨[(cItem (l.getD a.pos.toNat dItem))], 6, 59, true⟩)) rfl rfl rfl (r_store rfl rfl rfl rfl rfl rfl rfl get_here rfl rfl (Nat.le_of_ble_eq_true rfl) rfl) (by omega) ?_
        refine OA.p (some 9) (.bool true) rfl rfl rfl rfl ?_
        refine OA.nil ?_
        intro _
        refine RA.weaken (D' := [(n53, some ⟨[(cItem (l.getD a.pos.toNat dItem))], 6, 59, true⟩), (q, some ⟨[[(.slice (some ⟨j, 0, none⟩) (N - 1) 0), (.int .i64 0)]], 2, 115, true⟩), (j, some (oItem (l.eraseIdx a.pos.toNat))), (n3, some ⟨[(cAct a)], 9, 67, true⟩), (jq, some (oItem l))]) hd (Less.of (fac (mm (fun _ => get_here) (fun _ => get_here)) (fac (mm (fun _ => (get_there (by omega) get_here)) (fun _ => (gt2 (by omega) get_here))) (fac (mm (fun _ => (gt2 (by omega) get_here)) (fun _ => (gt3 (by omega) get_here))) (fac (mm (fun _ => (gt3 (by omega) get_here)) (fun _ => (gt4 (by omega) get_here))) (fac (mm (fun _ => (gt4 (by omega) get_here)) (fun _ => (gt8 (by omega) get_here))) fan))))) (gone_of (by simp only [goneP, memP, List.cons_append, List.nil_append, true_or, or_true, true_and, and_true, or_false] <;> omega))) ?_
        refine RA.seq hd ?_
        refine RA.seq hd ?_
        refine RA.par (md := [some [], some [], some [], some [], some [], some [], some [n53], some [], some [], some [n3], some [jq], some [jq], some [], some [], some []]) env_ok (hd.of (by omega) (kb5 (by omega))) (by kernel_rfl) ?_
        refine PQ.pure (dst := (some 79)) (v := (.bool true)) rfl rfl rfl noStore (none_ok _ _) rfl ?_
        refine PQ.pure (dst := (some 80)) (v := (.bool true)) rfl rfl rfl noStore (none_ok _ _) rfl ?_
        refine PQ.pure (dst := (some 81)) (v := (.bool false)) rfl rfl rfl noStore (none_ok _ _) rfl ?_
        refine PQ.pure (dst := (some 82)) (v := (.bool false)) rfl rfl rfl noStore (none_ok _ _) rfl ?_
        refine PQ.pure (dst := (some 83)) (v := (.bool true)) rfl rfl rfl noStore (none_ok _ _) rfl ?_
        refine PQ.pure (dst := (some 84)) (v := (.bool true)) rfl rfl rfl noStore (none_ok _ _) rfl ?_
        refine PQ.pure (dst := (some 85)) (v := (.agg ⟨(xNp42 l a)⟩)) rfl rfl rfl (app [(n53, some ⟨[(cItem (l.getD a.pos.toNat dItem))], 6, 59, true⟩)] noStore) (seen_one (V := []) (D := [(n53, some ⟨[(cItem (l.getD a.pos.toNat dItem))], 6, 59, true⟩), (q, some ⟨[[(.slice (some ⟨j, 0, none⟩) (N - 1) 0), (.int .i64 0)]], 2, 115, true⟩), (j, some (oItem (l.eraseIdx a.pos.toNat))), (n3, some ⟨[(cAct a)], 9, 67, true⟩), (jq, some (oItem l))]) (by kernel_rfl) get_here) (r_loadA rfl rfl rfl rfl get_here rfl rfl rfl) ?_
        refine PQ.pure (dst := (some 86)) (v := (.slice (some ⟨jq, 0, none⟩) N 0)) rfl rfl rfl noStore (none_ok _ _) rfl ?_
        refine PQ.pure (dst := (some 87)) (v := (Pt n3 0 7)) rfl rfl rfl noStore (none_ok _ _) rfl ?_
        refine PQ.pure (dst := (some 88)) (v := (.int .i64 a.pos)) rfl rfl rfl (app [(n3, some ⟨[(cAct a)], 9, 67, true⟩)] noStore) (seen_one (V := []) (D := [(n53, some ⟨[(cItem (l.getD a.pos.toNat dItem))], 6, 59, true⟩), (q, some ⟨[[(.slice (some ⟨j, 0, none⟩) (N - 1) 0), (.int .i64 0)]], 2, 115, true⟩), (j, some (oItem (l.eraseIdx a.pos.toNat))), (n3, some ⟨[(cAct a)], 9, 67, true⟩), (jq, some (oItem l))]) (by kernel_rfl) (gt3 (by omega) get_here)) (r_load1 rfl rfl rfl rfl rfl get_here rfl rfl) ?_
        refine PQ.pure (dst := (some 89)) (v := (.pointer (some ⟨jq, a.pos.toNat, some 0⟩))) rfl rfl rfl (app [(jq, some (oItem l))] noStore) (seen_one (V := []) (D := [(n53, some ⟨[(cItem (l.getD a.pos.toNat dItem))], 6, 59, true⟩), (q, some ⟨[[(.slice (some ⟨j, 0, none⟩) (N - 1) 0), (.int .i64 0)]], 2, 115, true⟩), (j, some (oItem (l.eraseIdx a.pos.toNat))), (n3, some ⟨[(cAct a)], 9, 67, true⟩), (jq, some (oItem l))]) (by kernel_rfl) (gt4 (by omega) get_here)) (r_iaS (l := a.pos.toNat) rfl rfl rfl rfl rfl rfl (by omega) (by omega) get_here rfl (by omega)) ?_
        refine PQ.pure (dst := (some 90)) (v := (.agg ⟨(cItem (l.getD a.pos.toNat dItem))⟩)) rfl rfl rfl (app [(jq, some (oItem l))] noStore) (seen_one (V := []) (D := [(n53, some ⟨[(cItem (l.getD a.pos.toNat dItem))], 6, 59, true⟩), (q, some ⟨[[(.slice (some ⟨j, 0, none⟩) (N - 1) 0), (.int .i64 0)]], 2, 115, true⟩), (j, some (oItem (l.eraseIdx a.pos.toNat))), (n3, some ⟨[(cAct a)], 9, 67, true⟩), (jq, some (oItem l))]) (by kernel_rfl) (gt4 (by omega) get_here)) (r_loadR (c := cItem) dItem rfl rfl rfl rfl get_here (by rw [hl]; omega) rfl) ?_
        refine PQ.pure (dst := (some 91)) (v := (.bool false)) rfl rfl rfl noStore (none_ok _ _) (r_neqA (r := true) rfl rfl rfl (by kernel_rfl) (aeq_self _ _ _ (by kernel_rfl))) ?_
        refine PQ.pure (dst := (some 92)) (v := (.bool false)) rfl rfl rfl noStore (none_ok _ _) rfl ?_
        refine PQ.pure (dst := (some 93)) (v := (.bool false)) rfl rfl rfl noStore (none_ok _ _) rfl ?_
        refine PQ.done (d := []) (by kernel_rfl) ?_
        intro _
        refine RA.rebase [(0, lv), (3, (Pt q 0 0)), (4, (.slice (some ⟨jq, 0, none⟩) N 0)), (5, (.int .i64 ((i : Nat) : Int))), (6, (Pt n3 0 0)), (7, (.bool true)), (8, (Pt n53 0 0)), (9, (.bool true)), (25, (.bool true)), (44, (.int .i64 (a.what.tmod 5))), (70, (.bool true)), (93, (.bool false))] ⟨rfl, rfl, rfl, rfl, rfl, rfl, rfl, rfl, rfl, rfl, rfl, rfl, trivial⟩ (fun τr54 => ?_)
        refine RA.condF rfl ?_
        refine RA.skip env_ok ?_
        intro _
        refine RA.seq hd ?_
        refine RA.region env_ok ?_
        refine OA.p (some 94) (.bool true) rfl rfl rfl rfl ?_
        refine OA.nil ?_
        intro _
        refine RA.condT rfl ?_
        refine RA.par (md := [some [], some [], some [], some [n3], some [jq], none, some [], some [], some [n3], some [], some [jq], none, some []]) env_ok (hd.of (by omega) (kb5 (by omega))) (by kernel_rfl) ?_
        refine PQ.op (dst := (some 95)) (v := (.slice (some ⟨(n53 + 1), 0, none⟩) 0 0)) (n1 := (n53 + 2)) (d1 := [((n53 + 1), some (oItem ([] : List Item)))]) rfl rfl rfl noStore (none_ok _ _) (by kernel_rfl) (by omega) (kp1 (wr_new (by omega) (by omega))) ?_
        refine PQ.pure (dst := (some 96)) (v := (.slice (some ⟨jq, 0, none⟩) N 0)) rfl rfl rfl noStore (none_ok _ _) rfl ?_
        refine PQ.pure (dst := (some 97)) (v := (Pt n3 0 7)) rfl rfl rfl noStore (none_ok _ _) rfl ?_
        refine PQ.pure (dst := (some 98)) (v := (.int .i64 a.pos)) rfl rfl rfl (app [(n3, some ⟨[(cAct a)], 9, 67, true⟩)] noStore) (seen_one (V := []) (D := [(n53, some ⟨[(cItem (l.getD a.pos.toNat dItem))], 6, 59, true⟩), (q, some ⟨[[(.slice (some ⟨j, 0, none⟩) (N - 1) 0), (.int .i64 0)]], 2, 115, true⟩), (j, some (oItem (l.eraseIdx a.pos.toNat))), (n3, some ⟨[(cAct a)], 9, 67, true⟩), (jq, some (oItem l))]) (by kernel_rfl) (gt3 (by omega) get_here)) (r_load1 rfl rfl rfl rfl rfl get_here rfl rfl) ?_
        refine PQ.pure (dst := (some 99)) (v := (.slice (some ⟨jq, 0, none⟩) a.pos.toNat 0)) rfl rfl rfl (app [(jq, some (oItem l))] noStore) (seen_one (V := []) (D := [(n53, some ⟨[(cItem (l.getD a.pos.toNat dItem))], 6, 59, true⟩), (q, some ⟨[[(.slice (some ⟨j, 0, none⟩) (N - 1) 0), (.int .i64 0)]], 2, 115, true⟩), (j, some (oItem (l.eraseIdx a.pos.toNat))), (n3, some ⟨[(cAct a)], 9, 67, true⟩), (jq, some (oItem l))]) (by kernel_rfl) (gt4 (by omega) get_here)) (r_cutG (a := 0) (b := a.pos.toNat) rfl rfl (fun _ => rfl) (fun _ => rfl) rfl rfl rfl rfl (bound_int (by omega)) get_here rfl (by omega) (by rw [List.length_map, hl]; omega) (by omega) (by omega)) ?_
        by_cases hc24 : a.pos.toNat = 0
        ·
         refine PQ.pure (dst := (some 100)) (v := (.slice (some ⟨(n53 + 1), 0, none⟩) 0 0)) rfl rfl rfl _ (seen_any (V := [((n53 + 1), some (oItem ([] : List Item)))]) (D := [(n53, some ⟨[(cItem (l.getD a.pos.toNat dItem))], 6, 59, true⟩), (q, some ⟨[[(.slice (some ⟨j, 0, none⟩) (N - 1) 0), (.int .i64 0)]], 2, 115, true⟩), (j, some (oItem (l.eraseIdx a.pos.toNat))), (n3, some ⟨[(cAct a)], 9, 67, true⟩), (jq, some (oItem l))]) (by kernel_rfl)) (r_appendZ rfl rfl rfl rfl (.inl ⟨_, _, _, rfl⟩) rfl rfl rfl rfl rfl (by decide) (by omega)) ?_
         refine PQ.pure (dst := (some 101)) (v := (.slice (some ⟨jq, 0, none⟩) N 0)) rfl rfl rfl noStore (none_ok _ _) rfl ?_
         refine PQ.pure (dst := (some 102)) (v := (Pt n3 0 7)) rfl rfl rfl noStore (none_ok _ _) rfl ?_
         refine PQ.pure (dst := (some 103)) (v := (.int .i64 a.pos)) rfl rfl rfl (app [(n3, some ⟨[(cAct a)], 9, 67, true⟩)] noStore) (seen_one (V := []) (D := [(n53, some ⟨[(cItem (l.getD a.pos.toNat dItem))], 6, 59, true⟩), (q, some ⟨[[(.slice (some ⟨j, 0, none⟩) (N - 1) 0), (.int .i64 0)]], 2, 115, true⟩), (j, some (oItem (l.eraseIdx a.pos.toNat))), (n3, some ⟨[(cAct a)], 9, 67, true⟩), (jq, some (oItem l))]) (by kernel_rfl) (gt3 (by omega) get_here)) (r_load1 rfl rfl rfl rfl rfl get_here rfl rfl) ?_
         refine PQ.pure (dst := (some 104)) (v := (.int .i64 (((a.pos.toNat + 1) : Nat) : Int))) rfl rfl rfl noStore (none_ok _ _) (r_bin rfl rfl rfl (b_add (i64_eq (by omega)))) ?_
         refine PQ.pure (dst := (some 105)) (v := (.slice (some ⟨jq, (a.pos.toNat + 1), none⟩) (N - (a.pos.toNat + 1)) 0)) rfl rfl rfl (app [(jq, some (oItem l))] noStore) (seen_one (V := []) (D := [(n53, some ⟨[(cItem (l.getD a.pos.toNat dItem))], 6, 59, true⟩), (q, some ⟨[[(.slice (some ⟨j, 0, none⟩) (N - 1) 0), (.int .i64 0)]], 2, 115, true⟩), (j, some (oItem (l.eraseIdx a.pos.toNat))), (n3, some ⟨[(cAct a)], 9, 67, true⟩), (jq, some (oItem l))]) (by kernel_rfl) (gt4 (by omega) get_here)) (r_cutG (a := (a.pos.toNat + 1)) (b := N) rfl rfl (fun _ => rfl) (fun _ => rfl) rfl rfl rfl (bound_int (by omega)) rfl get_here rfl (by omega) (by rw [List.length_map, hl]; omega) (by omega) (by omega)) ?_
         by_cases hc25 : (N - (a.pos.toNat + 1)) = 0
         ·
          refine PQ.pure (dst := (some 106)) (v := (.slice (some ⟨(n53 + 1), 0, none⟩) 0 0)) rfl rfl rfl _ (seen_any (V := [((n53 + 1), some (oItem ([] : List Item)))]) (D := [(n53, some ⟨[(cItem (l.getD a.pos.toNat dItem))], 6, 59, true⟩), (q, some ⟨[[(.slice (some ⟨j, 0, none⟩) (N - 1) 0), (.int .i64 0)]], 2, 115, true⟩), (j, some (oItem (l.eraseIdx a.pos.toNat))), (n3, some ⟨[(cAct a)], 9, 67, true⟩), (jq, some (oItem l))]) (by kernel_rfl)) (r_appendZ rfl rfl rfl rfl (.inl ⟨_, _, _, rfl⟩) rfl rfl rfl rfl rfl (by decide) (by omega)) ?_
          refine PQ.pure (dst := (some 4)) (v := (.slice (some ⟨(n53 + 1), 0, none⟩) 0 0)) rfl rfl rfl noStore (none_ok _ _) rfl ?_
          refine PQ.done (d := [((n53 + 1), some (oItem ([] : List Item)))]) (by kernel_rfl) ?_
          exact ⟨rfl, .inr (⟨(N - 1), (l.eraseIdx a.pos.toNat), j, (n53 + 1), ⟨rfl, rfl, (congrArg (fun z => Value.slice (some ⟨(n53 + 1), 0, none⟩) z 0) (show 0 = (N - 1) from by omega)), rfl, trivial⟩, ⟨[(q, some ⟨[[(.slice (some ⟨j, 0, none⟩) (N - 1) 0), (.int .i64 0)]], 2, 115, true⟩), (j, some (oItem (l.eraseIdx a.pos.toNat))), ((n53 + 1), some (oItem ([] : List Item)))], (Less.of (fac (mm (fun _ => get_here) (fun _ => (gt2 (by omega) get_here))) (fac (mm (fun _ => (get_there (by omega) get_here)) (fun _ => (gt3 (by omega) get_here))) (fac (mm (fun _ => (gt2 (by omega) get_here)) (fun _ => get_here)) fan))) (gone_of (by simp only [goneP, memP, List.cons_append, List.nil_append, true_or, or_true, true_and, and_true, or_false] <;> omega))), (by rw [show ((l.eraseIdx a.pos.toNat) : List Item) = ([] : List Item) from Eq.symm (by first | exact er_last hl (by omega) | exact er_nil hl (by omega) (by omega) | (rw [nil_of hl (by omega)]; done) | (rw [← nil_of hl (by omega)]; rfl))])⟩, by omega, (kb3 (by omega)), ⟨er_len hl (by omega), by omega, by omega, by omega, by omega, by omega, by omega, hsz.erase⟩⟩)⟩
         ·
          refine PQ.op (dst := (some 106)) (v := (.slice (some ⟨(n53 + 2), 0, none⟩) (N - (a.pos.toNat + 1)) 0)) (n1 := (n53 + 3)) (d1 := [((n53 + 2), some (oItem (l.eraseIdx a.pos.toNat))), ((n53 + 1), none)]) rfl rfl rfl _ (seen_any (V := [((n53 + 1), some (oItem ([] : List Item)))]) (D := [(n53, some ⟨[(cItem (l.getD a.pos.toNat dItem))], 6, 59, true⟩), (q, some ⟨[[(.slice (some ⟨j, 0, none⟩) (N - 1) 0), (.int .i64 0)]], 2, 115, true⟩), (j, some (oItem (l.eraseIdx a.pos.toNat))), (n3, some ⟨[(cAct a)], 9, 67, true⟩), (jq, some (oItem l))]) (by kernel_rfl)) (r_appendL (c := cItem) (l' := (l.eraseIdx a.pos.toNat)) rfl rfl rfl rfl rfl rfl rfl rfl rfl rfl (by decide) get_here (gt5 (by omega) get_here) (by rw [show ([] : List Item).length = 0 from rfl]) (by omega) (by rw [hl]; omega) (by rw [List.nil_append, List.eraseIdx_eq_take_drop_succ, List.take_of_length_le (by rw [List.length_drop]; omega), show a.pos.toNat = 0 from by omega, List.take_zero, List.nil_append]) (by omega) (of_decide_eq_true (by kernel_rfl)) (by omega)) (by omega) (kp2 (wr_new (by omega) (by omega)) (wr_tight (by kernel_rfl) (by omega))) ?_
          refine PQ.pure (dst := (some 4)) (v := (.slice (some ⟨(n53 + 2), 0, none⟩) (N - (a.pos.toNat + 1)) 0)) rfl rfl rfl noStore (none_ok _ _) rfl ?_
          refine PQ.done (d := [((n53 + 2), some (oItem (l.eraseIdx a.pos.toNat))), ((n53 + 1), none), ((n53 + 1), some (oItem ([] : List Item)))]) (by kernel_rfl) ?_
          exact ⟨rfl, .inr (⟨(N - 1), (l.eraseIdx a.pos.toNat), j, (n53 + 2), ⟨rfl, rfl, (congrArg (fun z => Value.slice (some ⟨(n53 + 2), 0, none⟩) z 0) (show (N - (a.pos.toNat + 1)) = (N - 1) from by omega)), rfl, trivial⟩, ⟨[(q, some ⟨[[(.slice (some ⟨j, 0, none⟩) (N - 1) 0), (.int .i64 0)]], 2, 115, true⟩), (j, some (oItem (l.eraseIdx a.pos.toNat))), ((n53 + 2), some (oItem (l.eraseIdx a.pos.toNat)))], (Less.of (fac (mm (fun _ => get_here) (fun _ => (gt4 (by omega) get_here))) (fac (mm (fun _ => (get_there (by omega) get_here)) (fun _ => (gt5 (by omega) get_here))) (fac (mm (fun _ => (gt2 (by omega) get_here)) (fun _ => get_here)) fan))) (gone_of (by simp only [goneP, memP, List.cons_append, List.nil_append, true_or, or_true, true_and, and_true, or_false] <;> omega))), rfl⟩, by omega, (kb3 (by omega)), ⟨er_len hl (by omega), by omega, by omega, by omega, by omega, by omega, by omega, hsz.erase⟩⟩)⟩
        ·
         refine PQ.op (dst := (some 100)) (v := (.slice (some ⟨(n53 + 2), 0, none⟩) a.pos.toNat 0)) (n1 := (n53 + 3)) (d1 := [((n53 + 2), some (oItem (l.take a.pos.toNat))), ((n53 + 1), none)]) rfl rfl rfl _ (seen_any (V := [((n53 + 1), some (oItem ([] : List Item)))]) (D := [(n53, some ⟨[(cItem (l.getD a.pos.toNat dItem))], 6, 59, true⟩), (q, some ⟨[[(.slice (some ⟨j, 0, none⟩) (N - 1) 0), (.int .i64 0)]], 2, 115, true⟩), (j, some (oItem (l.eraseIdx a.pos.toNat))), (n3, some ⟨[(cAct a)], 9, 67, true⟩), (jq, some (oItem l))]) (by kernel_rfl)) (r_appendL (c := cItem) (l' := (l.take a.pos.toNat)) rfl rfl rfl rfl rfl rfl rfl rfl rfl rfl (by decide) get_here (gt5 (by omega) get_here) (by rw [show ([] : List Item).length = 0 from rfl]) (by omega) (by rw [hl]; omega) (by rw [List.nil_append, List.drop_zero]) (by omega) (of_decide_eq_true (by kernel_rfl)) (by omega)) (by omega) (kp2 (wr_new (by omega) (by omega)) (wr_late [6, 7, 8, 9, 10] (by kernel_rfl) (by kernel_rfl) (by omega) 0 (by kernel_rfl) (by simp [keys]) (fac (lo0 rfl) (fac (lo0 rfl) (fac (lo1 rfl (by omega)) (fac (lo0 rfl) (fac (lo1 rfl (by omega)) fan))))))) ?_
         refine PQ.pure (dst := (some 101)) (v := (.slice (some ⟨jq, 0, none⟩) N 0)) rfl rfl rfl noStore (none_ok _ _) rfl ?_
         refine PQ.pure (dst := (some 102)) (v := (Pt n3 0 7)) rfl rfl rfl noStore (none_ok _ _) rfl ?_
         refine PQ.pure (dst := (some 103)) (v := (.int .i64 a.pos)) rfl rfl rfl (app [(n3, some ⟨[(cAct a)], 9, 67, true⟩)] noStore) (seen_one (V := []) (D := [(n53, some ⟨[(cItem (l.getD a.pos.toNat dItem))], 6, 59, true⟩), (q, some ⟨[[(.slice (some ⟨j, 0, none⟩) (N - 1) 0), (.int .i64 0)]], 2, 115, true⟩), (j, some (oItem (l.eraseIdx a.pos.toNat))), (n3, some ⟨[(cAct a)], 9, 67, true⟩), (jq, some (oItem l))]) (by kernel_rfl) (gt3 (by omega) get_here)) (r_load1 rfl rfl rfl rfl rfl get_here rfl rfl) ?_
         refine PQ.pure (dst := (some 104)) (v := (.int .i64 (((a.pos.toNat + 1) : Nat) : Int))) rfl rfl rfl noStore (none_ok _ _) (r_bin rfl rfl rfl (b_add (i64_eq (by omega)))) ?_
         refine PQ.pure (dst := (some 105)) (v := (.slice (some ⟨jq, (a.pos.toNat + 1), none⟩) (N - (a.pos.toNat + 1)) 0)) rfl rfl rfl (app [(jq, some (oItem l))] noStore) (seen_one (V := []) (D := [(n53, some ⟨[(cItem (l.getD a.pos.toNat dItem))], 6, 59, true⟩), (q, some ⟨[[(.slice (some ⟨j, 0, none⟩) (N - 1) 0), (.int .i64 0)]], 2, 115, true⟩), (j, some (oItem (l.eraseIdx a.pos.toNat))), (n3, some ⟨[(cAct a)], 9, 67, true⟩), (jq, some (oItem l))]) (by kernel_rfl) (gt4 (by omega) get_here)) (r_cutG (a := (a.pos.toNat + 1)) (b := N) rfl rfl (fun _ => rfl) (fun _ => rfl) rfl rfl rfl (bound_int (by omega)) rfl get_here rfl (by omega) (by rw [List.length_map, hl]; omega) (by omega) (by omega)) ?_
         by_cases hc26 : (N - (a.pos.toNat + 1)) = 0
         ·
          refine PQ.pure (dst := (some 106)) (v := (.slice (some ⟨(n53 + 2), 0, none⟩) a.pos.toNat 0)) rfl rfl rfl _ (seen_any (V := [((n53 + 2), some (oItem (l.take a.pos.toNat))), ((n53 + 1), none), ((n53 + 1), some (oItem ([] : List Item)))]) (D := [(n53, some ⟨[(cItem (l.getD a.pos.toNat dItem))], 6, 59, true⟩), (q, some ⟨[[(.slice (some ⟨j, 0, none⟩) (N - 1) 0), (.int .i64 0)]], 2, 115, true⟩), (j, some (oItem (l.eraseIdx a.pos.toNat))), (n3, some ⟨[(cAct a)], 9, 67, true⟩), (jq, some (oItem l))]) (by kernel_rfl)) (r_appendZ rfl rfl rfl rfl (.inl ⟨_, _, _, rfl⟩) rfl rfl rfl rfl rfl (by decide) (by omega)) ?_
          refine PQ.pure (dst := (some 4)) (v := (.slice (some ⟨(n53 + 2), 0, none⟩) a.pos.toNat 0)) rfl rfl rfl noStore (none_ok _ _) rfl ?_
          refine PQ.done (d := [((n53 + 2), some (oItem (l.take a.pos.toNat))), ((n53 + 1), none), ((n53 + 1), some (oItem ([] : List Item)))]) (by kernel_rfl) ?_
          exact ⟨rfl, .inr (⟨(N - 1), (l.eraseIdx a.pos.toNat), j, (n53 + 2), ⟨rfl, rfl, (congrArg (fun z => Value.slice (some ⟨(n53 + 2), 0, none⟩) z 0) (show a.pos.toNat = (N - 1) from by omega)), rfl, trivial⟩, ⟨[(q, some ⟨[[(.slice (some ⟨j, 0, none⟩) (N - 1) 0), (.int .i64 0)]], 2, 115, true⟩), (j, some (oItem (l.eraseIdx a.pos.toNat))), ((n53 + 2), some (oItem (l.take a.pos.toNat)))], (Less.of (fac (mm (fun _ => get_here) (fun _ => (gt4 (by omega) get_here))) (fac (mm (fun _ => (get_there (by omega) get_here)) (fun _ => (gt5 (by omega) get_here))) (fac (mm (fun _ => (gt2 (by omega) get_here)) (fun _ => get_here)) fan))) (gone_of (by simp only [goneP, memP, List.cons_append, List.nil_append, true_or, or_true, true_and, and_true, or_false] <;> omega))), (by rw [show ((l.eraseIdx a.pos.toNat) : List Item) = (l.take a.pos.toNat) from Eq.symm (by first | exact er_last hl (by omega) | exact er_nil hl (by omega) (by omega) | (rw [nil_of hl (by omega)]; done) | (rw [← nil_of hl (by omega)]; rfl))])⟩, by omega, (kb3 (by omega)), ⟨er_len hl (by omega), by omega, by omega, by omega, by omega, by omega, by omega, hsz.erase⟩⟩)⟩
         ·
          refine PQ.op (dst := (some 106)) (v := (.slice (some ⟨(n53 + 3), 0, none⟩) (a.pos.toNat + (N - (a.pos.toNat + 1))) 0)) (n1 := (n53 + 4)) (d1 := [((n53 + 3), some (oItem (l.eraseIdx a.pos.toNat))), ((n53 + 2), none)]) rfl rfl rfl _ (seen_any (V := [((n53 + 2), some (oItem (l.take a.pos.toNat))), ((n53 + 1), none), ((n53 + 1), some (oItem ([] : List Item)))]) (D := [(n53, some ⟨[(cItem (l.getD a.pos.toNat dItem))], 6, 59, true⟩), (q, some ⟨[[(.slice (some ⟨j, 0, none⟩) (N - 1) 0), (.int .i64 0)]], 2, 115, true⟩), (j, some (oItem (l.eraseIdx a.pos.toNat))), (n3, some ⟨[(cAct a)], 9, 67, true⟩), (jq, some (oItem l))]) (by kernel_rfl)) (r_appendL (c := cItem) (l' := (l.eraseIdx a.pos.toNat)) rfl rfl rfl rfl rfl rfl rfl rfl rfl rfl (by decide) get_here (gt7 (by omega) get_here) (by rw [show (l.take a.pos.toNat).length = a.pos.toNat from by rw [List.length_take]; omega]) (by omega) (by rw [hl]; omega) (by rw [List.eraseIdx_eq_take_drop_succ, List.take_of_length_le (l := l.drop _) (by rw [List.length_drop]; omega)]) (by omega) (of_decide_eq_true (by kernel_rfl)) (by omega)) (by omega) (kp2 (wr_new (by omega) (by omega)) (wr_tight (by kernel_rfl) (by omega))) ?_
          refine PQ.pure (dst := (some 4)) (v := (.slice (some ⟨(n53 + 3), 0, none⟩) (a.pos.toNat + (N - (a.pos.toNat + 1))) 0)) rfl rfl rfl noStore (none_ok _ _) rfl ?_
          refine PQ.done (d := [((n53 + 3), some (oItem (l.eraseIdx a.pos.toNat))), ((n53 + 2), none), ((n53 + 2), some (oItem (l.take a.pos.toNat))), ((n53 + 1), none), ((n53 + 1), some (oItem ([] : List Item)))]) (by kernel_rfl) ?_
          exact ⟨rfl, .inr (⟨(N - 1), (l.eraseIdx a.pos.toNat), j, (n53 + 3), ⟨rfl, rfl, (congrArg (fun z => Value.slice (some ⟨(n53 + 3), 0, none⟩) z 0) (show (a.pos.toNat + (N - (a.pos.toNat + 1))) = (N - 1) from by omega)), rfl, trivial⟩, ⟨[(q, some ⟨[[(.slice (some ⟨j, 0, none⟩) (N - 1) 0), (.int .i64 0)]], 2, 115, true⟩), (j, some (oItem (l.eraseIdx a.pos.toNat))), ((n53 + 3), some (oItem (l.eraseIdx a.pos.toNat)))], (Less.of (fac (mm (fun _ => get_here) (fun _ => (gt6 (by omega) get_here))) (fac (mm (fun _ => (get_there (by omega) get_here)) (fun _ => (gt7 (by omega) get_here))) (fac (mm (fun _ => (gt2 (by omega) get_here)) (fun _ => get_here)) fan))) (gone_of (by simp only [goneP, memP, List.cons_append, List.nil_append, true_or, or_true, true_and, and_true, or_false] <;> omega))), rfl⟩, by omega, (kb3 (by omega)), ⟨er_len hl (by omega), by omega, by omega, by omega, by omega, by omega, by omega, hsz.erase⟩⟩)⟩
       ·
        refine OA.p (some 71) (.bool false) rfl rfl rfl (Eq.trans (r_bin rfl rfl rfl (b_eql rfl)) (dF hc23)) ?_
        refine OA.p (some 70) (.bool false) rfl rfl rfl rfl ?_
        refine OA.nil ?_
        intro _
        refine RA.condF rfl ?_
        refine RA.seq hd ?_
        refine RA.region env_ok ?_
        by_cases hc27 : (a.what.tmod 5) = 3
        ·
         refine OA.p (some 108) (.bool true) rfl rfl rfl (Eq.trans (r_bin rfl rfl rfl (b_eql rfl)) (dT hc27)) ?_
         refine OA.p (some 107) (.bool true) rfl rfl rfl rfl ?_
         refine OA.nil ?_
         intro _
         refine RA.condT rfl ?_
         refine RA.seq hd ?_
         refine RA.seq hd ?_
         refine RA.region env_ok ?_
         refine OA.p (some 109) (Pt q 0 0) rfl rfl rfl rfl ?_
         refine OA.p (some 110) (Pt n3 0 7) rfl rfl rfl rfl ?_
         refine OA.p (some 111) (.int .i64 a.pos) rfl rfl rfl (r_load1 rfl rfl rfl rfl rfl get_here rfl rfl) ?_
         refine OA.call (dst := (some 112)) (all := [(Pt q 0 0), (.int .i64 a.pos)]) rfl rfl rfl rfl rfl rfl rfl rfl (CQ.imp (wDouble (hd.of (by omega) (kb5 (by omega))) q j N l hl (by omega) (by omega) a.pos a.pos.toNat (by omega) (by omega) (gt2 (by omega) get_here) (gt3 (by omega) get_here)) ?_)
         rintro _ n55 _ ⟨in55, hin55a, hin55b, rfl, rfl⟩ hn55
         show OA _ _ _ _ _ _ _ _ [(q, some ⟨[[(.slice (some ⟨in55, 0, none⟩) (N + 1) 0), (.int .i64 0)]], 2, 115, true⟩), (in55, some (oItem (l ++ [(l.getD a.pos.toNat dItem)]))), (j, none), (n3, some ⟨[(cAct a)], 9, 67, true⟩), (n3, some ⟨[xNp45], 9, 67, true⟩), (q, some ⟨[[(.slice (some ⟨j, 0, none⟩) N 0), (.int .i64 0)]], 2, 115, true⟩), (j, some (oItem l)), (jq, some (oItem l))] _
         refine OA.p (some 113) (.bool true) rfl rfl rfl rfl ?_
         refine OA.p (some 114) (.bool false) rfl rfl rfl rfl ?_
         refine OA.nil ?_
         intro _
         refine RA.condF rfl ?_
         refine RA.skip env_ok ?_
         intro _
         refine RA.seq hd ?_
         refine RA.region env_ok ?_
         refine OA.p (some 115) (.bool true) rfl rfl rfl rfl ?_
         refine OA.nil ?_
         intro _
         refine RA.condT rfl ?_
         refine RA.par (md := [some [], some [], none, some [], some [], some [n3], some [jq], some [jq], some [], none, some []]) env_ok (hd.of (by omega) (kb8 (by omega))) (by kernel_rfl) ?_
         refine PQ.op (dst := (some 116)) (v := (.slice (some ⟨n55, 0, none⟩) 0 0)) (n1 := (n55 + 1)) (d1 := [(n55, some (oItem ([] : List Item)))]) rfl rfl rfl noStore (none_ok _ _) (by kernel_rfl) (by omega) (kp1 (wr_new (by omega) (by omega))) ?_
         refine PQ.pure (dst := (some 117)) (v := (.slice (some ⟨jq, 0, none⟩) N 0)) rfl rfl rfl noStore (none_ok _ _) rfl ?_
         by_cases hc28 : N = 0
         · exfalso; omega
         ·
          refine PQ.op (dst := (some 118)) (v := (.slice (some ⟨(n55 + 1), 0, none⟩) N 0)) (n1 := (n55 + 2)) (d1 := [((n55 + 1), some (oItem l)), (n55, none)]) rfl rfl rfl _ (seen_any (V := [(n55, some (oItem ([] : List Item)))]) (D := [(q, some ⟨[[(.slice (some ⟨in55, 0, none⟩) (N + 1) 0), (.int .i64 0)]], 2, 115, true⟩), (in55, some (oItem (l ++ [(l.getD a.pos.toNat dItem)]))), (j, none), (n3, some ⟨[(cAct a)], 9, 67, true⟩), (n3, some ⟨[xNp45], 9, 67, true⟩), (q, some ⟨[[(.slice (some ⟨j, 0, none⟩) N 0), (.int .i64 0)]], 2, 115, true⟩), (j, some (oItem l)), (jq, some (oItem l))]) (by kernel_rfl)) (r_appendL (c := cItem) (l' := l) rfl rfl rfl rfl rfl rfl rfl rfl rfl rfl (by decide) get_here (gt8 (by omega) get_here) (by rw [show ([] : List Item).length = 0 from rfl]) (by omega) (by rw [hl]; omega) (by rw [List.nil_append, List.drop_zero, List.take_of_length_le (by omega)]) (by omega) (of_decide_eq_true (by kernel_rfl)) (by omega)) (by omega) (kp2 (wr_new (by omega) (by omega)) (wr_late [3, 4, 5, 6, 7, 8] (by kernel_rfl) (by kernel_rfl) (by omega) 0 (by kernel_rfl) (by simp [keys]) (fac (lo0 rfl) (fac (lo0 rfl) (fac (lo1 rfl (by omega)) (fac (lo1 rfl (by omega)) (fac (lo1 rfl (by omega)) (fac (lo0 rfl) fan)))))))) ?_
          refine PQ.pure (dst := (some 119)) (v := (.slice (some ⟨jq, 0, none⟩) N 0)) rfl rfl rfl noStore (none_ok _ _) rfl ?_
          refine PQ.pure (dst := (some 120)) (v := (Pt n3 0 7)) rfl rfl rfl noStore (none_ok _ _) rfl ?_
          refine PQ.pure (dst := (some 121)) (v := (.int .i64 a.pos)) rfl rfl rfl (app [(n3, some ⟨[(cAct a)], 9, 67, true⟩)] noStore) (seen_one (V := []) (D := [(q, some ⟨[[(.slice (some ⟨in55, 0, none⟩) (N + 1) 0), (.int .i64 0)]], 2, 115, true⟩), (in55, some (oItem (l ++ [(l.getD a.pos.toNat dItem)]))), (j, none), (n3, some ⟨[(cAct a)], 9, 67, true⟩), (n3, some ⟨[xNp45], 9, 67, true⟩), (q, some ⟨[[(.slice (some ⟨j, 0, none⟩) N 0), (.int .i64 0)]], 2, 115, true⟩), (j, some (oItem l)), (jq, some (oItem l))]) (by kernel_rfl) (gt3 (by omega) get_here)) (r_load1 rfl rfl rfl rfl rfl get_here rfl rfl) ?_
          refine PQ.pure (dst := (some 122)) (v := (.pointer (some ⟨jq, a.pos.toNat, some 0⟩))) rfl rfl rfl (app [(jq, some (oItem l))] noStore) (seen_one (V := []) (D := [(q, some ⟨[[(.slice (some ⟨in55, 0, none⟩) (N + 1) 0), (.int .i64 0)]], 2, 115, true⟩), (in55, some (oItem (l ++ [(l.getD a.pos.toNat dItem)]))), (j, none), (n3, some ⟨[(cAct a)], 9, 67, true⟩), (n3, some ⟨[xNp45], 9, 67, true⟩), (q, some ⟨[[(.slice (some ⟨j, 0, none⟩) N 0), (.int .i64 0)]], 2, 115, true⟩), (j, some (oItem l)), (jq, some (oItem l))]) (by kernel_rfl) (gt7 (by omega) get_here)) (r_iaS (l := a.pos.toNat) rfl rfl rfl rfl rfl rfl (by omega) (by omega) get_here rfl (by omega)) ?_
          refine PQ.pure (dst := (some 123)) (v := (.agg ⟨(cItem (l.getD a.pos.toNat dItem))⟩)) rfl rfl rfl (app [(jq, some (oItem l))] noStore) (seen_one (V := []) (D := [(q, some ⟨[[(.slice (some ⟨in55, 0, none⟩) (N + 1) 0), (.int .i64 0)]], 2, 115, true⟩), (in55, some (oItem (l ++ [(l.getD a.pos.toNat dItem)]))), (j, none), (n3, some ⟨[(cAct a)], 9, 67, true⟩), (n3, some ⟨[xNp45], 9, 67, true⟩), (q, some ⟨[[(.slice (some ⟨j, 0, none⟩) N 0), (.int .i64 0)]], 2, 115, true⟩), (j, some (oItem l)), (jq, some (oItem l))]) (by kernel_rfl) (gt7 (by omega) get_here)) (r_loadR (c := cItem) dItem rfl rfl rfl rfl get_here (by rw [hl]; omega) rfl) ?_
          refine PQ.op (dst := (some 124)) (v := (.slice (some ⟨(n55 + 2), 0, none⟩) 1 0)) (n1 := (n55 + 3)) (d1 := [((n55 + 2), some ⟨[(xNp42 l a)], 6, 59, true⟩)]) rfl rfl rfl noStore (none_ok _ _) (by kernel_rfl) (by omega) (kp1 (wr_new (by omega) (by omega))) ?_
          refine PQ.op (dst := (some 125)) (v := (.slice (some ⟨(n55 + 3), 0, none⟩) (N + 1) 0)) (n1 := (n55 + 4)) (d1 := [((n55 + 3), some (oItem (l ++ [(l.getD a.pos.toNat dItem)]))), ((n55 + 1), none)]) rfl rfl rfl _ (seen_any (V := [((n55 + 2), some ⟨[(xNp42 l a)], 6, 59, true⟩), ((n55 + 1), some (oItem l)), (n55, none), (n55, some (oItem ([] : List Item)))]) (D := [(q, some ⟨[[(.slice (some ⟨in55, 0, none⟩) (N + 1) 0), (.int .i64 0)]], 2, 115, true⟩), (in55, some (oItem (l ++ [(l.getD a.pos.toNat dItem)]))), (j, none), (n3, some ⟨[(cAct a)], 9, 67, true⟩), (n3, some ⟨[xNp45], 9, 67, true⟩), (q, some ⟨[[(.slice (some ⟨j, 0, none⟩) N 0), (.int .i64 0)]], 2, 115, true⟩), (j, some (oItem l)), (jq, some (oItem l))]) (by kernel_rfl)) (r_appendR (c := cItem) (l' := (l ++ [(l.getD a.pos.toNat dItem)])) rfl rfl rfl rfl rfl rfl rfl rfl rfl rfl (by decide) (get_there (by omega) get_here) get_here (by rw [hl]) (mp_snoc (c := cItem) (x := (l.getD a.pos.toNat dItem))) (by omega) (of_decide_eq_true (by kernel_rfl)) (by omega)) (by omega) (kp2 (wr_new (by omega) (by omega)) (wr_tight (by kernel_rfl) (by omega))) ?_
          refine PQ.pure (dst := (some 4)) (v := (.slice (some ⟨(n55 + 3), 0, none⟩) (N + 1) 0)) rfl rfl rfl noStore (none_ok _ _) rfl ?_
          refine PQ.done (d := [((n55 + 3), some (oItem (l ++ [(l.getD a.pos.toNat dItem)]))), ((n55 + 1), none), ((n55 + 2), some ⟨[(xNp42 l a)], 6, 59, true⟩), ((n55 + 1), some (oItem l)), (n55, none), (n55, some (oItem ([] : List Item)))]) (by kernel_rfl) ?_
          exact ⟨rfl, .inr (⟨(N + 1), (l ++ [(l.getD a.pos.toNat dItem)]), in55, (n55 + 3), ⟨rfl, rfl, rfl, rfl, trivial⟩, ⟨[(q, some ⟨[[(.slice (some ⟨in55, 0, none⟩) (N + 1) 0), (.int .i64 0)]], 2, 115, true⟩), (in55, some (oItem (l ++ [(l.getD a.pos.toNat dItem)]))), ((n55 + 3), some (oItem (l ++ [(l.getD a.pos.toNat dItem)])))], (Less.of (fac (mm (fun _ => get_here) (fun _ => (gt6 (by omega) get_here))) (fac (mm (fun _ => (get_there (by omega) get_here)) (fun _ => (gt7 (by omega) get_here))) (fac (mm (fun _ => (gt2 (by omega) get_here)) (fun _ => get_here)) fan))) (gone_of (by simp only [goneP, memP, List.cons_append, List.nil_append, true_or, or_true, true_and, and_true, or_false] <;> omega))), rfl⟩, by omega, (kb3 (by omega)), ⟨by rw [List.length_append, hl]; rfl, by omega, by omega, by omega, by omega, by omega, by omega, hsz.snoc (hsz.get (by omega))⟩⟩)⟩
        ·
         refine OA.p (some 108) (.bool false) rfl rfl rfl (Eq.trans (r_bin rfl rfl rfl (b_eql rfl)) (dF hc27)) ?_
         refine OA.p (some 107) (.bool false) rfl rfl rfl rfl ?_
         refine OA.nil ?_
         intro _
         refine RA.condF rfl ?_
         refine RA.seq hd ?_
         refine RA.region env_ok ?_
         by_cases hc29 : (a.what.tmod 5) = 4
         ·
          refine OA.p (some 127) (.bool true) rfl rfl rfl (Eq.trans (r_bin rfl rfl rfl (b_eql rfl)) (dT hc29)) ?_
          refine OA.p (some 126) (.bool true) rfl rfl rfl rfl ?_
          refine OA.nil ?_
          intro _
          refine RA.condT rfl ?_
          refine RA.seq hd ?_
          refine RA.region env_ok ?_
          refine OA.p (some 128) (.bool true) rfl rfl rfl rfl ?_
          refine OA.p (some 129) (.bool true) rfl rfl rfl rfl ?_
          refine OA.p (some 130) (.slice (some ⟨jq, 0, none⟩) N 0) rfl rfl rfl rfl ?_
          refine OA.p (some 131) (Pt n3 0 7) rfl rfl rfl rfl ?_
          refine OA.p (some 132) (.int .i64 a.pos) rfl rfl rfl (r_load1 rfl rfl rfl rfl rfl get_here rfl rfl) ?_
          refine OA.p (some 133) (.pointer (some ⟨jq, a.pos.toNat, some 0⟩)) rfl rfl rfl (r_iaS (l := a.pos.toNat) rfl rfl rfl rfl rfl rfl (by omega) (by omega) (gt4 (by omega) get_here) rfl (by omega)) ?_
          refine OA.p (some 134) (.pointer (some ⟨jq, a.pos.toNat, some 5⟩)) rfl rfl rfl rfl ?_
          by_cases hc30 : (l.getD a.pos.toNat dItem).bent = true
          ·
           refine OA.p (some 135) (.bool true) rfl rfl rfl (Eq.trans (r_loadF (c := cItem) dItem rfl rfl rfl rfl rfl (gt4 (by omega) get_here) (by rw [hl]; omega) rfl) (bT hc30)) ?_
           refine OA.p (some 136) (.bool false) rfl rfl rfl rfl ?_
           refine OA.p (some 137) (.bool false) rfl rfl rfl rfl ?_
           refine OA.p (some 138) (.bool false) rfl rfl rfl rfl ?_
           refine OA.off (dst := (some 139)) rfl rfl rfl ?_
           refine OA.off (dst := (some 140)) rfl rfl rfl ?_
           refine OA.off (dst := (some 141)) rfl rfl rfl ?_
           refine OA.off (dst := (some 142)) rfl rfl rfl ?_
           refine OA.off (dst := (some 143)) rfl rfl rfl ?_
           refine OA.off (dst := (some 144)) rfl rfl rfl ?_
           refine OA.off (dst := (some 145)) rfl rfl rfl ?_
           refine OA.off (dst := (some 146)) rfl rfl rfl ?_
           refine OA.p (some 147) (.bool false) rfl rfl rfl rfl ?_
           refine OA.p (some 10) (.bool false) rfl rfl rfl rfl ?_
           refine OA.nil ?_
           intro _
           refine RA.rebase [(0, lv), (3, (Pt q 0 0)), (4, (.slice (some ⟨jq, 0, none⟩) N 0)), (5, (.int .i64 ((i : Nat) : Int))), (6, (Pt n3 0 0)), (7, (.bool true)), (10, (.bool false)), (25, (.bool true)), (44, (.int .i64 (a.what.tmod 5))), (70, (.bool false)), (107, (.bool false)), (126, (.bool true))] ⟨rfl, rfl, rfl, rfl, rfl, rfl, rfl, rfl, rfl, rfl, rfl, rfl, trivial⟩ (fun τr56 => ?_)
           refine RA.seq hd ?_
           refine RA.seq hd ?_
           refine RA.region env_ok ?_
           refine OA.p (some 148) (Pt q 0 0) rfl rfl rfl rfl ?_
           refine OA.p (some 149) (Pt n3 0 7) rfl rfl rfl rfl ?_
           refine OA.p (some 150) (.int .i64 a.pos) rfl rfl rfl (r_load1 rfl rfl rfl rfl rfl get_here rfl rfl) ?_
           refine OA.p (some 151) (Pt n3 0 8) rfl rfl rfl rfl ?_
           refine OA.p (some 152) (.int .i64 a.bit) rfl rfl rfl (r_load1 rfl rfl rfl rfl rfl get_here rfl rfl) ?_
           refine OA.call (dst := (some 153)) (all := [(Pt q 0 0), (.int .i64 a.pos), (.int .i64 a.bit)]) rfl rfl rfl rfl rfl rfl rfl rfl (CQ.imp (wBendX (hd.of (by omega) (kb5 (by omega))) q j N l hl (by omega) (by omega) a.pos a.bit a.pos.toNat (by omega) (by omega) (.inl hc30) (gt2 (by omega) get_here) (gt3 (by omega) get_here)) ?_)
           rintro _ n57 _ ⟨rfl, rfl⟩ hn57
           refine OA.app0 ?_
           refine OA.p (some 154) (.bool false) rfl rfl rfl rfl ?_
           refine OA.p (some 155) (.bool false) rfl rfl rfl rfl ?_
           refine OA.nil ?_
           intro _
           refine RA.condF rfl ?_
           refine RA.skip env_ok ?_
           intro _
           refine RA.seq hd ?_
           refine RA.region env_ok ?_
           refine OA.p (some 156) (.bool false) rfl rfl rfl rfl ?_
           refine OA.nil ?_
           intro _
           refine RA.condF rfl ?_
           refine RA.skip env_ok ?_
           exact ⟨rfl, .inr (⟨N, l, j, jq, ⟨rfl, rfl, rfl, rfl, trivial⟩, ⟨[(q, some ⟨[[(.slice (some ⟨j, 0, none⟩) N 0), (.int .i64 0)]], 2, 115, true⟩), (j, some (oItem l)), (jq, some (oItem l))], (Less.of (fac (mm (fun _ => get_here) (fun _ => (gt2 (by omega) get_here))) (fac (mm (fun _ => (get_there (by omega) get_here)) (fun _ => (gt3 (by omega) get_here))) (fac (mm (fun _ => (gt2 (by omega) get_here)) (fun _ => (gt4 (by omega) get_here))) fan))) (gone_of (by simp only [goneP, memP, List.cons_append, List.nil_append, true_or, or_true, true_and, and_true, or_false] <;> omega))), rfl⟩, by omega, (kb3 (by omega)), ⟨hl, by omega, by omega, by omega, by omega, by omega, by omega, hsz⟩⟩)⟩
          ·
           refine OA.p (some 135) (.bool false) rfl rfl rfl (Eq.trans (r_loadF (c := cItem) dItem rfl rfl rfl rfl rfl (gt4 (by omega) get_here) (by rw [hl]; omega) rfl) (bF hc30)) ?_
           refine OA.p (some 136) (.bool true) rfl rfl rfl rfl ?_
           refine OA.p (some 137) (.bool true) rfl rfl rfl rfl ?_
           refine OA.p (some 138) (.bool true) rfl rfl rfl rfl ?_
           refine OA.p (some 139) (.slice (some ⟨jq, 0, none⟩) N 0) rfl rfl rfl rfl ?_
           refine OA.p (some 140) (Pt n3 0 7) rfl rfl rfl rfl ?_
           refine OA.p (some 141) (.int .i64 a.pos) rfl rfl rfl (r_load1 rfl rfl rfl rfl rfl get_here rfl rfl) ?_
           refine OA.p (some 142) (.pointer (some ⟨jq, a.pos.toNat, some 0⟩)) rfl rfl rfl (r_iaS (l := a.pos.toNat) rfl rfl rfl rfl rfl rfl (by omega) (by omega) (gt4 (by omega) get_here) rfl (by omega)) ?_
           refine OA.p (some 143) (.pointer (some ⟨jq, a.pos.toNat, some 2⟩)) rfl rfl rfl rfl ?_
           refine OA.p (some 144) (.pointer (some ⟨jq, a.pos.toNat, some 4⟩)) rfl rfl rfl rfl ?_
           refine OA.p (some 145) (.string (l.getD a.pos.toNat dItem).s) rfl rfl rfl (r_loadF (c := cItem) dItem rfl rfl rfl rfl rfl (gt4 (by omega) get_here) (by rw [hl]; omega) rfl) ?_
           by_cases hc31 : (l.getD a.pos.toNat dItem).s = (ByteArray.mk #[])
           ·
            refine OA.p (some 146) (.bool false) rfl rfl rfl (Eq.trans (r_neqS rfl rfl rfl) (ndT hc31)) ?_
            refine OA.p (some 147) (.bool false) rfl rfl rfl rfl ?_
            refine OA.p (some 10) (.bool false) rfl rfl rfl rfl ?_
            refine OA.nil ?_
            intro _
            refine RA.rebase [(0, lv), (3, (Pt q 0 0)), (4, (.slice (some ⟨jq, 0, none⟩) N 0)), (5, (.int .i64 ((i : Nat) : Int))), (6, (Pt n3 0 0)), (7, (.bool true)), (10, (.bool false)), (25, (.bool true)), (44, (.int .i64 (a.what.tmod 5))), (70, (.bool false)), (107, (.bool false)), (126, (.bool true))] ⟨rfl, rfl, rfl, rfl, rfl, rfl, rfl, rfl, rfl, rfl, rfl, rfl, trivial⟩ (fun τr58 => ?_)
            refine RA.seq hd ?_
            refine RA.seq hd ?_
            refine RA.region env_ok ?_
            refine OA.p (some 148) (Pt q 0 0) rfl rfl rfl rfl ?_
            refine OA.p (some 149) (Pt n3 0 7) rfl rfl rfl rfl ?_
            refine OA.p (some 150) (.int .i64 a.pos) rfl rfl rfl (r_load1 rfl rfl rfl rfl rfl get_here rfl rfl) ?_
            refine OA.p (some 151) (Pt n3 0 8) rfl rfl rfl rfl ?_
            refine OA.p (some 152) (.int .i64 a.bit) rfl rfl rfl (r_load1 rfl rfl rfl rfl rfl get_here rfl rfl) ?_
            refine OA.call (dst := (some 153)) (all := [(Pt q 0 0), (.int .i64 a.pos), (.int .i64 a.bit)]) rfl rfl rfl rfl rfl rfl rfl rfl (CQ.imp (wBendX (hd.of (by omega) (kb5 (by omega))) q j N l hl (by omega) (by omega) a.pos a.bit a.pos.toNat (by omega) (by omega) (.inr hc31) (gt2 (by omega) get_here) (gt3 (by omega) get_here)) ?_)
            rintro _ n59 _ ⟨rfl, rfl⟩ hn59
            refine OA.app0 ?_
            refine OA.p (some 154) (.bool false) rfl rfl rfl rfl ?_
            refine OA.p (some 155) (.bool false) rfl rfl rfl rfl ?_
            refine OA.nil ?_
            intro _
            refine RA.condF rfl ?_
            refine RA.skip env_ok ?_
            intro _
            refine RA.seq hd ?_
            refine RA.region env_ok ?_
            refine OA.p (some 156) (.bool false) rfl rfl rfl rfl ?_
            refine OA.nil ?_
            intro _
            refine RA.condF rfl ?_
            refine RA.skip env_ok ?_
            exact ⟨rfl, .inr (⟨N, l, j, jq, ⟨rfl, rfl, rfl, rfl, trivial⟩, ⟨[(q, some ⟨[[(.slice (some ⟨j, 0, none⟩) N 0), (.int .i64 0)]], 2, 115, true⟩), (j, some (oItem l)), (jq, some (oItem l))], (Less.of (fac (mm (fun _ => get_here) (fun _ => (gt2 (by omega) get_here))) (fac (mm (fun _ => (get_there (by omega) get_here)) (fun _ => (gt3 (by omega) get_here))) (fac (mm (fun _ => (gt2 (by omega) get_here)) (fun _ => (gt4 (by omega) get_here))) fan))) (gone_of (by simp only [goneP, memP, List.cons_append, List.nil_append, true_or, or_true, true_and, and_true, or_false] <;> omega))), rfl⟩, by omega, (kb3 (by omega)), ⟨hl, by omega, by omega, by omega, by omega, by omega, by omega, hsz⟩⟩)⟩
           ·
            refine OA.p (some 146) (.bool true) rfl rfl rfl (Eq.trans (r_neqS rfl rfl rfl) (ndF hc31)) ?_
            refine OA.p (some 147) (.bool true) rfl rfl rfl rfl ?_
            refine OA.p (some 10) (.bool true) rfl rfl rfl rfl ?_
            refine OA.nil ?_
            intro _
            refine RA.rebase [(0, lv), (3, (Pt q 0 0)), (4, (.slice (some ⟨jq, 0, none⟩) N 0)), (5, (.int .i64 ((i : Nat) : Int))), (6, (Pt n3 0 0)), (7, (.bool true)), (10, (.bool true)), (25, (.bool true)), (44, (.int .i64 (a.what.tmod 5))), (70, (.bool false)), (107, (.bool false)), (126, (.bool true))] ⟨rfl, rfl, rfl, rfl, rfl, rfl, rfl, rfl, rfl, rfl, rfl, rfl, trivial⟩ (fun τr60 => ?_)
            refine RA.seq hd ?_
            refine RA.seq hd ?_
            refine RA.region env_ok ?_
            refine OA.p (some 148) (Pt q 0 0) rfl rfl rfl rfl ?_
            refine OA.p (some 149) (Pt n3 0 7) rfl rfl rfl rfl ?_
            refine OA.p (some 150) (.int .i64 a.pos) rfl rfl rfl (r_load1 rfl rfl rfl rfl rfl get_here rfl rfl) ?_
            refine OA.p (some 151) (Pt n3 0 8) rfl rfl rfl rfl ?_
            refine OA.p (some 152) (.int .i64 a.bit) rfl rfl rfl (r_load1 rfl rfl rfl rfl rfl get_here rfl rfl) ?_
            refine OA.call (dst := (some 153)) (all := [(Pt q 0 0), (.int .i64 a.pos), (.int .i64 a.bit)]) rfl rfl rfl rfl rfl rfl rfl rfl (CQ.imp (wBend (hd.of (by omega) (kb5 (by omega))) q j N l hl (by omega) (by omega) a.pos a.bit a.pos.toNat (by omega) (by omega) (hsz.get (by omega)) hc30 hc31 (gt2 (by omega) get_here) (gt3 (by omega) get_here)) ?_)
            rintro _ n61 _ ⟨rfl, rfl⟩ hn61
            refine OA.app1 ?_
            refine OA.p (some 154) (.bool true) rfl rfl rfl rfl ?_
            refine OA.p (some 155) (.bool false) rfl rfl rfl rfl ?_
            refine OA.nil ?_
            intro _
            refine RA.condF rfl ?_
            refine RA.skip env_ok ?_
            intro _
            refine RA.seq hd ?_
            refine RA.region env_ok ?_
            refine OA.p (some 156) (.bool true) rfl rfl rfl rfl ?_
            refine OA.nil ?_
            intro _
            refine RA.condT rfl ?_
            refine RA.seq hd ?_
            refine RA.region env_ok ?_
            refine OA.op1 (dst := (some 157)) (v := (.slice (some ⟨n61, 0, none⟩) 0 0)) (n1 := (n61 + 1)) (w := (n61, some (oItem ([] : List Item)))) rfl rfl rfl (by kernel_rfl) (by omega) ?_
            refine OA.p (some 158) (.slice (some ⟨jq, 0, none⟩) N 0) rfl rfl rfl rfl ?_
            by_cases hc32 : N = 0
            · exfalso; omega
            ·
             refine OA.op (dst := (some 159)) (v := (.slice (some ⟨(n61 + 1), 0, none⟩) N 0)) (n1 := (n61 + 2)) (d1 := [((n61 + 1), some (oItem l)), (n61, none)]) (D' := [((n61 + 1), some (oItem l)), (n61, none), (n61, some (oItem ([] : List Item))), (j, some (oItem (l.set a.pos.toNat (benti (l.getD a.pos.toNat dItem) a.bit)))), (n3, some ⟨[(cAct a)], 9, 67, true⟩), (n3, some ⟨[xNp45], 9, 67, true⟩), (q, some ⟨[[(.slice (some ⟨j, 0, none⟩) N 0), (.int .i64 0)]], 2, 115, true⟩), (j, some (oItem l)), (jq, some (oItem l))]) rfl rfl rfl (r_appendL (c := cItem) (l' := l) rfl rfl rfl rfl rfl rfl rfl rfl rfl rfl (by decide) get_here (gt6 (by omega) get_here) (by rw [show ([] : List Item).length = 0 from rfl]) (by omega) (by rw [hl]; omega) (by rw [List.nil_append, List.drop_zero, List.take_of_length_le (by omega)]) (by omega) (of_decide_eq_true (by kernel_rfl)) (by omega)) (by omega) rfl ?_
             refine OA.p (some 4) (.slice (some ⟨(n61 + 1), 0, none⟩) N 0) rfl rfl rfl rfl ?_
             refine OA.nil ?_
             intro _
             refine RA.par (md := [some [], some [], some [n3], some [], some [], some [n3], some [], some [], some [n3], some [(n61 + 1)], some [], some [], some [(n61 + 1)], some [], some [n3], none, some [(n61 + 1)], some [], some [], none, some [(n61 + 1)], some [], none]) env_ok (hd.of (by omega) (kb9 (by omega))) (by kernel_rfl) ?_
             refine PQ.pure (dst := (some 160)) (v := (.slice (some ⟨(n61 + 1), 0, none⟩) N 0)) rfl rfl rfl noStore (none_ok _ _) rfl ?_
             refine PQ.pure (dst := (some 161)) (v := (Pt n3 0 7)) rfl rfl rfl noStore (none_ok _ _) rfl ?_
             refine PQ.pure (dst := (some 162)) (v := (.int .i64 a.pos)) rfl rfl rfl (app [(n3, some ⟨[(cAct a)], 9, 67, true⟩)] noStore) (seen_one (V := []) (D := [((n61 + 1), some (oItem l)), (n61, none), (n61, some (oItem ([] : List Item))), (j, some (oItem (l.set a.pos.toNat (benti (l.getD a.pos.toNat dItem) a.bit)))), (n3, some ⟨[(cAct a)], 9, 67, true⟩), (n3, some ⟨[xNp45], 9, 67, true⟩), (q, some ⟨[[(.slice (some ⟨j, 0, none⟩) N 0), (.int .i64 0)]], 2, 115, true⟩), (j, some (oItem l)), (jq, some (oItem l))]) (by kernel_rfl) (gt4 (by omega) get_here)) (r_load1 rfl rfl rfl rfl rfl get_here rfl rfl) ?_
             refine PQ.pure (dst := (some 163)) (v := (.slice (some ⟨(n61 + 1), 0, none⟩) N 0)) rfl rfl rfl noStore (none_ok _ _) rfl ?_
             refine PQ.pure (dst := (some 164)) (v := (Pt n3 0 7)) rfl rfl rfl noStore (none_ok _ _) rfl ?_
             refine PQ.pure (dst := (some 165)) (v := (.int .i64 a.pos)) rfl rfl rfl (app [(n3, some ⟨[(cAct a)], 9, 67, true⟩)] noStore) (seen_one (V := []) (D := [((n61 + 1), some (oItem l)), (n61, none), (n61, some (oItem ([] : List Item))), (j, some (oItem (l.set a.pos.toNat (benti (l.getD a.pos.toNat dItem) a.bit)))), (n3, some ⟨[(cAct a)], 9, 67, true⟩), (n3, some ⟨[xNp45], 9, 67, true⟩), (q, some ⟨[[(.slice (some ⟨j, 0, none⟩) N 0), (.int .i64 0)]], 2, 115, true⟩), (j, some (oItem l)), (jq, some (oItem l))]) (by kernel_rfl) (gt4 (by omega) get_here)) (r_load1 rfl rfl rfl rfl rfl get_here rfl rfl) ?_
             refine PQ.pure (dst := (some 166)) (v := (.slice (some ⟨(n61 + 1), 0, none⟩) N 0)) rfl rfl rfl noStore (none_ok _ _) rfl ?_
             refine PQ.pure (dst := (some 167)) (v := (Pt n3 0 7)) rfl rfl rfl noStore (none_ok _ _) rfl ?_
             refine PQ.pure (dst := (some 168)) (v := (.int .i64 a.pos)) rfl rfl rfl (app [(n3, some ⟨[(cAct a)], 9, 67, true⟩)] noStore) (seen_one (V := []) (D := [((n61 + 1), some (oItem l)), (n61, none), (n61, some (oItem ([] : List Item))), (j, some (oItem (l.set a.pos.toNat (benti (l.getD a.pos.toNat dItem) a.bit)))), (n3, some ⟨[(cAct a)], 9, 67, true⟩), (n3, some ⟨[xNp45], 9, 67, true⟩), (q, some ⟨[[(.slice (some ⟨j, 0, none⟩) N 0), (.int .i64 0)]], 2, 115, true⟩), (j, some (oItem l)), (jq, some (oItem l))]) (by kernel_rfl) (gt4 (by omega) get_here)) (r_load1 rfl rfl rfl rfl rfl get_here rfl rfl) ?_
             refine PQ.pure (dst := (some 169)) (v := (.pointer (some ⟨(n61 + 1), a.pos.toNat, some 0⟩))) rfl rfl rfl (app [((n61 + 1), some (oItem l))] noStore) (seen_one (V := []) (D := [((n61 + 1), some (oItem l)), (n61, none), (n61, some (oItem ([] : List Item))), (j, some (oItem (l.set a.pos.toNat (benti (l.getD a.pos.toNat dItem) a.bit)))), (n3, some ⟨[(cAct a)], 9, 67, true⟩), (n3, some ⟨[xNp45], 9, 67, true⟩), (q, some ⟨[[(.slice (some ⟨j, 0, none⟩) N 0), (.int .i64 0)]], 2, 115, true⟩), (j, some (oItem l)), (jq, some (oItem l))]) (by kernel_rfl) get_here) (r_iaS (l := a.pos.toNat) rfl rfl rfl rfl rfl rfl (by omega) (by omega) get_here rfl (by omega)) ?_
             refine PQ.pure (dst := (some 170)) (v := (.pointer (some ⟨(n61 + 1), a.pos.toNat, some 2⟩))) rfl rfl rfl noStore (none_ok _ _) rfl ?_
             refine PQ.pure (dst := (some 171)) (v := (.pointer (some ⟨(n61 + 1), a.pos.toNat, some 4⟩))) rfl rfl rfl noStore (none_ok _ _) rfl ?_
             refine PQ.pure (dst := (some 172)) (v := (.string (l.getD a.pos.toNat dItem).s)) rfl rfl rfl (app [((n61 + 1), some (oItem l))] noStore) (seen_one (V := []) (D := [((n61 + 1), some (oItem l)), (n61, none), (n61, some (oItem ([] : List Item))), (j, some (oItem (l.set a.pos.toNat (benti (l.getD a.pos.toNat dItem) a.bit)))), (n3, some ⟨[(cAct a)], 9, 67, true⟩), (n3, some ⟨[xNp45], 9, 67, true⟩), (q, some ⟨[[(.slice (some ⟨j, 0, none⟩) N 0), (.int .i64 0)]], 2, 115, true⟩), (j, some (oItem l)), (jq, some (oItem l))]) (by kernel_rfl) get_here) (r_loadF (c := cItem) dItem rfl rfl rfl rfl rfl get_here (by rw [hl]; omega) rfl) ?_
             refine PQ.pure (dst := (some 173)) (v := (Pt n3 0 8)) rfl rfl rfl noStore (none_ok _ _) rfl ?_
             refine PQ.pure (dst := (some 174)) (v := (.int .i64 a.bit)) rfl rfl rfl (app [(n3, some ⟨[(cAct a)], 9, 67, true⟩)] noStore) (seen_one (V := []) (D := [((n61 + 1), some (oItem l)), (n61, none), (n61, some (oItem ([] : List Item))), (j, some (oItem (l.set a.pos.toNat (benti (l.getD a.pos.toNat dItem) a.bit)))), (n3, some ⟨[(cAct a)], 9, 67, true⟩), (n3, some ⟨[xNp45], 9, 67, true⟩), (q, some ⟨[[(.slice (some ⟨j, 0, none⟩) N 0), (.int .i64 0)]], 2, 115, true⟩), (j, some (oItem l)), (jq, some (oItem l))]) (by kernel_rfl) (gt4 (by omega) get_here)) (r_load1 rfl rfl rfl rfl rfl get_here rfl rfl) ?_
             refine PQ.callP (dst := (some 175)) (all := [(.string (l.getD a.pos.toNat dItem).s), (.int .i64 a.bit)]) (v := (.string (bentS (l.getD a.pos.toNat dItem).s a.bit))) _ (hd.of (by omega) (kb9 (by omega))) rfl rfl rfl rfl rfl rfl rfl rfl (seen_any (V := []) (D := [((n61 + 1), some (oItem l)), (n61, none), (n61, some (oItem ([] : List Item))), (j, some (oItem (l.set a.pos.toNat (benti (l.getD a.pos.toNat dItem) a.bit)))), (n3, some ⟨[(cAct a)], 9, 67, true⟩), (n3, some ⟨[xNp45], 9, 67, true⟩), (q, some ⟨[[(.slice (some ⟨j, 0, none⟩) N 0), (.int .i64 0)]], 2, 115, true⟩), (j, some (oItem l)), (jq, some (oItem l))]) (by kernel_rfl)) (nbent (l.getD a.pos.toNat dItem).s a.bit (hsz.get (by omega)) hc31) ?_
             intro n62 hn62
             refine PQ.pure (dst := (some 176)) (v := (.pointer (some ⟨(n61 + 1), a.pos.toNat, some 0⟩))) rfl rfl rfl (app [((n61 + 1), some (oItem l))] noStore) (seen_one (V := []) (D := [((n61 + 1), some (oItem l)), (n61, none), (n61, some (oItem ([] : List Item))), (j, some (oItem (l.set a.pos.toNat (benti (l.getD a.pos.toNat dItem) a.bit)))), (n3, some ⟨[(cAct a)], 9, 67, true⟩), (n3, some ⟨[xNp45], 9, 67, true⟩), (q, some ⟨[[(.slice (some ⟨j, 0, none⟩) N 0), (.int .i64 0)]], 2, 115, true⟩), (j, some (oItem l)), (jq, some (oItem l))]) (by kernel_rfl) get_here) (r_iaS (l := a.pos.toNat) rfl rfl rfl rfl rfl rfl (by omega) (by omega) get_here rfl (by omega)) ?_
             refine PQ.pure (dst := (some 177)) (v := (.pointer (some ⟨(n61 + 1), a.pos.toNat, some 2⟩))) rfl rfl rfl noStore (none_ok _ _) rfl ?_
             refine PQ.pure (dst := (some 178)) (v := (.pointer (some ⟨(n61 + 1), a.pos.toNat, some 4⟩))) rfl rfl rfl noStore (none_ok _ _) rfl ?_
             refine PQ.op (dst := none) (v := (.tuple #[])) (n1 := n62) (d1 := [((n61 + 1), some (oItem (l.set a.pos.toNat (xNp43 l a))))]) rfl rfl rfl _ (seen_any (V := []) (D := [((n61 + 1), some (oItem l)), (n61, none), (n61, some (oItem ([] : List Item))), (j, some (oItem (l.set a.pos.toNat (benti (l.getD a.pos.toNat dItem) a.bit)))), (n3, some ⟨[(cAct a)], 9, 67, true⟩), (n3, some ⟨[xNp45], 9, 67, true⟩), (q, some ⟨[[(.slice (some ⟨j, 0, none⟩) N 0), (.int .i64 0)]], 2, 115, true⟩), (j, some (oItem l)), (jq, some (oItem l))]) (by kernel_rfl)) (r_storeR (c := cItem) dItem (xNp43 l a) rfl rfl rfl rfl rfl rfl rfl get_here (by rw [hl]; omega) (Nat.le_of_ble_eq_true rfl) rfl) (by omega) (kp1 (wr_old [3, 4, 5] (by kernel_rfl) (by omega) (by omega) (fac (lo0 rfl) (fac (lo0 rfl) (fac (lo1 rfl (by omega)) fan))))) ?_
             refine PQ.pure (dst := (some 179)) (v := (.pointer (some ⟨(n61 + 1), a.pos.toNat, some 0⟩))) rfl rfl rfl (app [((n61 + 1), some (oItem (l.set a.pos.toNat (xNp43 l a))))] noStore) (seen_one (V := [((n61 + 1), some (oItem (l.set a.pos.toNat (xNp43 l a))))]) (D := [((n61 + 1), some (oItem l)), (n61, none), (n61, some (oItem ([] : List Item))), (j, some (oItem (l.set a.pos.toNat (benti (l.getD a.pos.toNat dItem) a.bit)))), (n3, some ⟨[(cAct a)], 9, 67, true⟩), (n3, some ⟨[xNp45], 9, 67, true⟩), (q, some ⟨[[(.slice (some ⟨j, 0, none⟩) N 0), (.int .i64 0)]], 2, 115, true⟩), (j, some (oItem l)), (jq, some (oItem l))]) (by kernel_rfl) get_here) (r_iaS (l := a.pos.toNat) rfl rfl rfl rfl rfl rfl (by omega) (by omega) get_here rfl (by omega)) ?_
             refine PQ.pure (dst := (some 180)) (v := (.pointer (some ⟨(n61 + 1), a.pos.toNat, some 5⟩))) rfl rfl rfl noStore (none_ok _ _) rfl ?_
             refine PQ.op (dst := none) (v := (.tuple #[])) (n1 := n62) (d1 := [((n61 + 1), some (oItem ((l.set a.pos.toNat (xNp43 l a)).set a.pos.toNat (xNp41 l a))))]) rfl rfl rfl _ (seen_any (V := [((n61 + 1), some (oItem (l.set a.pos.toNat (xNp43 l a))))]) (D := [((n61 + 1), some (oItem l)), (n61, none), (n61, some (oItem ([] : List Item))), (j, some (oItem (l.set a.pos.toNat (benti (l.getD a.pos.toNat dItem) a.bit)))), (n3, some ⟨[(cAct a)], 9, 67, true⟩), (n3, some ⟨[xNp45], 9, 67, true⟩), (q, some ⟨[[(.slice (some ⟨j, 0, none⟩) N 0), (.int .i64 0)]], 2, 115, true⟩), (j, some (oItem l)), (jq, some (oItem l))]) (by kernel_rfl)) (r_storeR (c := cItem) dItem (xNp41 l a) rfl rfl rfl rfl rfl rfl rfl get_here (by rw [List.length_set, hl]; omega) (Nat.le_of_ble_eq_true rfl) rfl) (by omega) (kp1 (wr_tight (by kernel_rfl) (by omega))) ?_
             refine PQ.done (d := [((n61 + 1), some (oItem ((l.set a.pos.toNat (xNp43 l a)).set a.pos.toNat (xNp41 l a)))), ((n61 + 1), some (oItem (l.set a.pos.toNat (xNp43 l a))))]) (by kernel_rfl) ?_
             exact ⟨rfl, .inr (⟨N, (l.set a.pos.toNat (benti (l.getD a.pos.toNat dItem) a.bit)), j, (n61 + 1), ⟨rfl, rfl, rfl, rfl, trivial⟩, ⟨[(q, some ⟨[[(.slice (some ⟨j, 0, none⟩) N 0), (.int .i64 0)]], 2, 115, true⟩), (j, some (oItem (l.set a.pos.toNat (benti (l.getD a.pos.toNat dItem) a.bit)))), ((n61 + 1), some (oItem ((l.set a.pos.toNat (xNp43 l a)).set a.pos.toNat (xNp41 l a))))], (Less.of (fac (mm (fun _ => get_here) (fun _ => (gt8 (by omega) get_here))) (fac (mm (fun _ => (get_there (by omega) get_here)) (fun _ => (gt5 (by omega) get_here))) (fac (mm (fun _ => (gt2 (by omega) get_here)) (fun _ => get_here)) fan))) (gone_of (by simp only [goneP, memP, List.cons_append, List.nil_append, true_or, or_true, true_and, and_true, or_false] <;> omega))), (by rw [show ((l.set a.pos.toNat (benti (l.getD a.pos.toNat dItem) a.bit)) : List Item) = ((l.set a.pos.toNat (xNp43 l a)).set a.pos.toNat (xNp41 l a)) from Eq.symm (set_two (by omega) (Item.mk (l.getD a.pos.toNat dItem).leg (l.getD a.pos.toNat dItem).nat (l.getD a.pos.toNat dItem).fr (l.getD a.pos.toNat dItem).to (bentS (l.getD a.pos.toNat dItem).s a.bit) (l.getD a.pos.toNat dItem).bent) (fun e => Item.mk e.leg e.nat e.fr e.to e.s true))])⟩, by omega, (kb3 (by omega)), ⟨by rw [List.length_set]; exact hl, by omega, by omega, by omega, by omega, by omega, by omega, hsz.set (by omega)⟩⟩)⟩
         ·
          refine OA.p (some 127) (.bool false) rfl rfl rfl (Eq.trans (r_bin rfl rfl rfl (b_eql rfl)) (dF hc29)) ?_
          refine OA.p (some 126) (.bool false) rfl rfl rfl rfl ?_
          refine OA.nil ?_
          intro _
          refine RA.condF rfl ?_
          refine RA.seq hd ?_
          refine RA.region env_ok ?_
          refine OA.p (some 45) (Pt n3 0 1) rfl rfl rfl rfl ?_
          refine OA.p (some 46) (.agg ⟨[(.int .i64 a.leg), (.int .i64 a.nat), (W a.fr), (W a.to), (.string a.s), (.bool a.bent)]⟩) rfl rfl rfl (r_loadA rfl rfl rfl rfl get_here rfl rfl rfl) ?_
          refine OA.op1 (dst := (some 11)) (v := (.pointer (some ⟨(n3 + 1), 0, some 0⟩))) (n1 := (n3 + 2)) (w := ((n3 + 1), some ⟨[xNp47], 6, 59, true⟩)) rfl rfl rfl rfl (by omega) ?_
          refine OA.op1 (dst := none) (v := (.tuple #[])) (n1 := (n3 + 2)) (w := ((n3 + 1), some ⟨[[(.int .i64 a.leg), (.int .i64 a.nat), (W a.fr), (W a.to), (.string a.s), (.bool a.bent)]], 6, 59, true⟩)) rfl rfl rfl (r_store rfl rfl rfl rfl rfl rfl rfl get_here rfl rfl (Nat.le_of_ble_eq_true rfl) rfl) (by omega) ?_
          refine OA.nil ?_
          intro _
          refine RA.seq hd ?_
          refine RA.region env_ok ?_
          refine OA.p (some 47) (Pt n3 0 1) rfl rfl rfl rfl ?_
          refine OA.p (some 48) (Pt n3 0 3) rfl rfl rfl rfl ?_
          refine OA.p (some 49) (Pt n3 0 5) rfl rfl rfl rfl ?_
          refine OA.p (some 50) (.string a.s) rfl rfl rfl (r_load1 rfl rfl rfl rfl rfl (gt2 (by omega) get_here) rfl rfl) ?_
          refine OA.p (some 51) (Pt n3 0 1) rfl rfl rfl rfl ?_
          refine OA.p (some 52) (Pt n3 0 3) rfl rfl rfl rfl ?_
          refine OA.p (some 53) (Pt n3 0 5) rfl rfl rfl rfl ?_
          refine OA.p (some 54) (.string a.s) rfl rfl rfl (r_load1 rfl rfl rfl rfl rfl (gt2 (by omega) get_here) rfl rfl) ?_
          refine OA.p (some 55) (.int .i64 ((a.s.size : Nat) : Int)) rfl rfl rfl rfl ?_
          refine OA.p (some 56) (.int .i64 (((min a.s.size 10) : Nat) : Int)) rfl rfl rfl (r_min (a := a.s.size) (b := 10) rfl rfl rfl) ?_
          refine OA.p (some 57) (.string (a.s.extract 0 (min a.s.size 10))) rfl rfl rfl (r_cut (a := 0) (b := (min a.s.size 10)) rfl rfl (fun _ => rfl) (fun _ => rfl) rfl rfl rfl bound_nat (by omega) (by omega) rfl) ?_
          refine OA.p (some 58) (.pointer (some ⟨(n3 + 1), 0, some 2⟩)) rfl rfl rfl rfl ?_
          refine OA.p (some 59) (.pointer (some ⟨(n3 + 1), 0, some 4⟩)) rfl rfl rfl rfl ?_
          refine OA.op1 (dst := none) (v := (.tuple #[])) (n1 := (n3 + 2)) (w := ((n3 + 1), some ⟨[(xNp46 a)], 6, 59, true⟩)) rfl rfl rfl (r_store rfl rfl rfl rfl rfl rfl rfl get_here rfl rfl (Nat.le_of_ble_eq_true rfl) rfl) (by omega) ?_
          refine OA.nil ?_
          intro _
          refine RA.weaken (D' := [((n3 + 1), some ⟨[(xNp46 a)], 6, 59, true⟩), (n3, some ⟨[(cAct a)], 9, 67, true⟩), (q, some ⟨[[(.slice (some ⟨j, 0, none⟩) N 0), (.int .i64 0)]], 2, 115, true⟩), (j, some (oItem l)), (jq, some (oItem l))]) hd (Less.of (fac (mm (fun _ => get_here) (fun _ => get_here)) (fac (mm (fun _ => (get_there (by omega) get_here)) (fun _ => (gt3 (by omega) get_here))) (fac (mm (fun _ => (gt2 (by omega) get_here)) (fun _ => (gt5 (by omega) get_here))) (fac (mm (fun _ => (gt3 (by omega) get_here)) (fun _ => (gt6 (by omega) get_here))) (fac (mm (fun _ => (gt4 (by omega) get_here)) (fun _ => (gt7 (by omega) get_here))) fan))))) (gone_of (by simp only [goneP, memP, List.cons_append, List.nil_append, true_or, or_true, true_and, and_true, or_false] <;> omega))) ?_
          refine RA.rebase [(0, lv), (3, (Pt q 0 0)), (4, (.slice (some ⟨jq, 0, none⟩) N 0)), (5, (.int .i64 ((i : Nat) : Int))), (6, (Pt n3 0 0)), (7, (.bool true)), (11, (.pointer (some ⟨(n3 + 1), 0, some 0⟩))), (25, (.bool true)), (44, (.int .i64 (a.what.tmod 5))), (70, (.bool false)), (107, (.bool false)), (126, (.bool false))] ⟨rfl, rfl, rfl, rfl, rfl, rfl, rfl, rfl, rfl, rfl, rfl, rfl, trivial⟩ (fun τr63 => ?_)
          refine RA.seq hd ?_
          refine RA.seq hd ?_
          refine RA.region env_ok ?_
          refine OA.p (some 60) (Pt q 0 0) rfl rfl rfl rfl ?_
          refine OA.p (some 61) (.agg ⟨(xNp46 a)⟩) rfl rfl rfl (r_loadA rfl rfl rfl rfl get_here rfl rfl rfl) ?_
          refine OA.call (dst := (some 62)) (all := (xNp44 q a)) rfl rfl rfl rfl rfl rfl rfl rfl (CQ.imp (nPutB (hd.of (by omega) (kb5 (by omega))) q j N l hl (by omega) (by omega) (Item.mk a.leg a.nat a.fr a.to (a.s.extract 0 (min a.s.size 10)) a.bent) (gt2 (by omega) get_here) (gt3 (by omega) get_here)) ?_)
          rintro _ n64 _ ⟨in64, hin64a, hin64b, rfl, rfl⟩ hn64
          show OA _ _ _ _ _ _ _ _ [(q, some ⟨[[(.slice (some ⟨in64, 0, none⟩) (N + 1) 0), (.int .i64 0)]], 2, 115, true⟩), (in64, some (oItem (l ++ [(Item.mk a.leg a.nat a.fr a.to (a.s.extract 0 (min a.s.size 10)) a.bent)]))), (j, none), ((n3 + 1), some ⟨[(xNp46 a)], 6, 59, true⟩), (n3, some ⟨[(cAct a)], 9, 67, true⟩), (q, some ⟨[[(.slice (some ⟨j, 0, none⟩) N 0), (.int .i64 0)]], 2, 115, true⟩), (j, some (oItem l)), (jq, some (oItem l))] _
          refine OA.p (some 63) (.bool false) rfl rfl rfl rfl ?_
          refine OA.nil ?_
          intro _
          refine RA.condF rfl ?_
          refine RA.skip env_ok ?_
          intro _
          refine RA.par (md := [some [], some [], none, some [(n3 + 1)], some [], none, some []]) env_ok (hd.of (by omega) (kb8 (by omega))) (by kernel_rfl) ?_
          refine PQ.op (dst := (some 64)) (v := (.slice (some ⟨n64, 0, none⟩) 0 0)) (n1 := (n64 + 1)) (d1 := [(n64, some (oItem ([] : List Item)))]) rfl rfl rfl noStore (none_ok _ _) (by kernel_rfl) (by omega) (kp1 (wr_new (by omega) (by omega))) ?_
          refine PQ.pure (dst := (some 65)) (v := (.slice (some ⟨jq, 0, none⟩) N 0)) rfl rfl rfl noStore (none_ok _ _) rfl ?_
          by_cases hc33 : N = 0
          · exfalso; omega
          ·
           refine PQ.op (dst := (some 66)) (v := (.slice (some ⟨(n64 + 1), 0, none⟩) N 0)) (n1 := (n64 + 2)) (d1 := [((n64 + 1), some (oItem l)), (n64, none)]) rfl rfl rfl _ (seen_any (V := [(n64, some (oItem ([] : List Item)))]) (D := [(q, some ⟨[[(.slice (some ⟨in64, 0, none⟩) (N + 1) 0), (.int .i64 0)]], 2, 115, true⟩), (in64, some (oItem (l ++ [(Item.mk a.leg a.nat a.fr a.to (a.s.extract 0 (min a.s.size 10)) a.bent)]))), (j, none), ((n3 + 1), some ⟨[(xNp46 a)], 6, 59, true⟩), (n3, some ⟨[(cAct a)], 9, 67, true⟩), (q, some ⟨[[(.slice (some ⟨j, 0, none⟩) N 0), (.int .i64 0)]], 2, 115, true⟩), (j, some (oItem l)), (jq, some (oItem l))]) (by kernel_rfl)) (r_appendL (c := cItem) (l' := l) rfl rfl rfl rfl rfl rfl rfl rfl rfl rfl (by decide) get_here (gt8 (by omega) get_here) (by rw [show ([] : List Item).length = 0 from rfl]) (by omega) (by rw [hl]; omega) (by rw [List.nil_append, List.drop_zero, List.take_of_length_le (by omega)]) (by omega) (of_decide_eq_true (by kernel_rfl)) (by omega)) (by omega) (kp2 (wr_new (by omega) (by omega)) (wr_late [3, 4] (by kernel_rfl) (by kernel_rfl) (by omega) 0 (by kernel_rfl) (by simp [keys]) (fac (lo1 rfl (by omega)) (fac (lo0 rfl) fan)))) ?_
           refine PQ.pure (dst := (some 67)) (v := (.agg ⟨(xNp46 a)⟩)) rfl rfl rfl (app [((n3 + 1), some ⟨[(xNp46 a)], 6, 59, true⟩)] noStore) (seen_one (V := []) (D := [(q, some ⟨[[(.slice (some ⟨in64, 0, none⟩) (N + 1) 0), (.int .i64 0)]], 2, 115, true⟩), (in64, some (oItem (l ++ [(Item.mk a.leg a.nat a.fr a.to (a.s.extract 0 (min a.s.size 10)) a.bent)]))), (j, none), ((n3 + 1), some ⟨[(xNp46 a)], 6, 59, true⟩), (n3, some ⟨[(cAct a)], 9, 67, true⟩), (q, some ⟨[[(.slice (some ⟨j, 0, none⟩) N 0), (.int .i64 0)]], 2, 115, true⟩), (j, some (oItem l)), (jq, some (oItem l))]) (by kernel_rfl) (gt3 (by omega) get_here)) (r_loadA rfl rfl rfl rfl get_here rfl rfl rfl) ?_
           refine PQ.op (dst := (some 68)) (v := (.slice (some ⟨(n64 + 2), 0, none⟩) 1 0)) (n1 := (n64 + 3)) (d1 := [((n64 + 2), some ⟨[(xNp46 a)], 6, 59, true⟩)]) rfl rfl rfl noStore (none_ok _ _) (by kernel_rfl) (by omega) (kp1 (wr_new (by omega) (by omega))) ?_
           refine PQ.op (dst := (some 69)) (v := (.slice (some ⟨(n64 + 3), 0, none⟩) (N + 1) 0)) (n1 := (n64 + 4)) (d1 := [((n64 + 3), some (oItem (l ++ [(Item.mk a.leg a.nat a.fr a.to (a.s.extract 0 (min a.s.size 10)) a.bent)]))), ((n64 + 1), none)]) rfl rfl rfl _ (seen_any (V := [((n64 + 2), some ⟨[(xNp46 a)], 6, 59, true⟩), ((n64 + 1), some (oItem l)), (n64, none), (n64, some (oItem ([] : List Item)))]) (D := [(q, some ⟨[[(.slice (some ⟨in64, 0, none⟩) (N + 1) 0), (.int .i64 0)]], 2, 115, true⟩), (in64, some (oItem (l ++ [(Item.mk a.leg a.nat a.fr a.to (a.s.extract 0 (min a.s.size 10)) a.bent)]))), (j, none), ((n3 + 1), some ⟨[(xNp46 a)], 6, 59, true⟩), (n3, some ⟨[(cAct a)], 9, 67, true⟩), (q, some ⟨[[(.slice (some ⟨j, 0, none⟩) N 0), (.int .i64 0)]], 2, 115, true⟩), (j, some (oItem l)), (jq, some (oItem l))]) (by kernel_rfl)) (r_appendR (c := cItem) (l' := (l ++ [(Item.mk a.leg a.nat a.fr a.to (a.s.extract 0 (min a.s.size 10)) a.bent)])) rfl rfl rfl rfl rfl rfl rfl rfl rfl rfl (by decide) (get_there (by omega) get_here) get_here (by rw [hl]) (mp_snoc (c := cItem) (x := (Item.mk a.leg a.nat a.fr a.to (a.s.extract 0 (min a.s.size 10)) a.bent))) (by omega) (of_decide_eq_true (by kernel_rfl)) (by omega)) (by omega) (kp2 (wr_new (by omega) (by omega)) (wr_tight (by kernel_rfl) (by omega))) ?_
           refine PQ.pure (dst := (some 4)) (v := (.slice (some ⟨(n64 + 3), 0, none⟩) (N + 1) 0)) rfl rfl rfl noStore (none_ok _ _) rfl ?_
           refine PQ.done (d := [((n64 + 3), some (oItem (l ++ [(Item.mk a.leg a.nat a.fr a.to (a.s.extract 0 (min a.s.size 10)) a.bent)]))), ((n64 + 1), none), ((n64 + 2), some ⟨[(xNp46 a)], 6, 59, true⟩), ((n64 + 1), some (oItem l)), (n64, none), (n64, some (oItem ([] : List Item)))]) (by kernel_rfl) ?_
           exact ⟨rfl, .inr (⟨(N + 1), (l ++ [(Item.mk a.leg a.nat a.fr a.to (a.s.extract 0 (min a.s.size 10)) a.bent)]), in64, (n64 + 3), ⟨rfl, rfl, rfl, rfl, trivial⟩, ⟨[(q, some ⟨[[(.slice (some ⟨in64, 0, none⟩) (N + 1) 0), (.int .i64 0)]], 2, 115, true⟩), (in64, some (oItem (l ++ [(Item.mk a.leg a.nat a.fr a.to (a.s.extract 0 (min a.s.size 10)) a.bent)]))), ((n64 + 3), some (oItem (l ++ [(Item.mk a.leg a.nat a.fr a.to (a.s.extract 0 (min a.s.size 10)) a.bent)])))], (Less.of (fac (mm (fun _ => get_here) (fun _ => (gt6 (by omega) get_here))) (fac (mm (fun _ => (get_there (by omega) get_here)) (fun _ => (gt7 (by omega) get_here))) (fac (mm (fun _ => (gt2 (by omega) get_here)) (fun _ => get_here)) fan))) (gone_of (by simp only [goneP, memP, List.cons_append, List.nil_append, true_or, or_true, true_and, and_true, or_false] <;> omega))), rfl⟩, by omega, (kb3 (by omega)), ⟨by rw [List.length_append, hl]; rfl, by omega, by omega, by omega, by omega, by omega, by omega, hsz.snoc (cut10 _)⟩⟩)⟩
      ·
       rintro _ τ65 n65 Dn65 hmn65 ⟨rfl, hSn65⟩
       rcases hSn65 with ⟨jq2, hHn65, ⟨_, hLn65, rfl⟩, hn65, hKn65, hIn65⟩ | ⟨N2, l2, j2, jq2, hHn65, ⟨_, hLn65, rfl⟩, hn65, hKn65, hIn65⟩
       ·
        intro _
        refine RA.weaken hd hLn65 ?_
        rw [Has.eq hHn65]
        have hKn65_0 : q < n65 := hKn65 _ (by simp only [keys, List.map_cons, List.map_nil, List.mem_cons, true_or, or_true])
        have hKn65_1 : jq2 < n65 := hKn65 _ (by simp only [keys, List.map_cons, List.map_nil, List.mem_cons, true_or, or_true])
        clear hKn65
        obtain ⟨hjq, hqjq⟩ := hIn65
        refine RA.seq hd ?_
        refine RA.region env_ok ?_
        refine OA.p (some 181) (Pt q 0 0) rfl rfl rfl rfl ?_
        refine OA.callP (dst := (some 182)) (all := [(Pt q 0 0)]) (v := (.slice none 0 0)) (hd.of (by omega) (kb2 (by omega))) rfl rfl rfl rfl rfl rfl rfl rfl (nAllA q get_here) ?_
        intro n66 hn66
        refine OA.p (some 12) (.slice none 0 0) rfl rfl rfl rfl ?_
        refine OA.nil ?_
        intro _
        refine RA.seq hd ?_
        refine RA.seq hd ?_
        refine RA.region env_ok ?_
        refine OA.p (some 183) (.slice none 0 0) rfl rfl rfl rfl ?_
        refine OA.p (some 184) (.int .i64 0) rfl rfl rfl rfl ?_
        refine OA.p (some 185) (.slice (some ⟨jq2, 0, none⟩) 0 0) rfl rfl rfl rfl ?_
        refine OA.p (some 186) (.int .i64 0) rfl rfl rfl rfl ?_
        refine OA.p (some 187) (.bool false) rfl rfl rfl (r_bin rfl rfl rfl (b_neq rfl)) ?_
        refine OA.p (some 188) (.bool false) rfl rfl rfl rfl ?_
        refine OA.p (some 189) (Pt q 0 0) rfl rfl rfl rfl ?_
        refine OA.callP (dst := (some 190)) (all := [(Pt q 0 0)]) (v := (.int .i64 0)) (hd.of (by omega) (kb2 (by omega))) rfl rfl rfl rfl rfl rfl rfl rfl (nLenA q get_here) ?_
        intro n67 hn67
        refine OA.p (some 191) (.slice (some ⟨jq2, 0, none⟩) 0 0) rfl rfl rfl rfl ?_
        refine OA.p (some 192) (.int .i64 0) rfl rfl rfl rfl ?_
        refine OA.p (some 193) (.bool false) rfl rfl rfl (r_bin rfl rfl rfl (b_neq rfl)) ?_
        refine OA.p (some 194) (.bool false) rfl rfl rfl rfl ?_
        refine OA.nil ?_
        intro _
        refine RA.condF rfl ?_
        refine RA.skip env_ok ?_
        intro _
        refine RA.seq hd ?_
        refine RA.region env_ok ?_
        refine OA.p (some 13) (.int .i64 0) rfl rfl rfl rfl ?_
        refine OA.nil ?_
        intro _
        refine RA.block ?_
        refine RA.unroll hd ?_
        refine RA.seq hd ?_
        refine RA.seq hd ?_
        refine RA.region env_ok ?_
        refine OA.p (some 195) (.int .i64 0) rfl rfl rfl rfl ?_
        refine OA.p (some 196) (.slice (some ⟨jq2, 0, none⟩) 0 0) rfl rfl rfl rfl ?_
        refine OA.p (some 197) (.int .i64 0) rfl rfl rfl rfl ?_
        refine OA.p (some 198) (.bool false) rfl rfl rfl (r_bin rfl rfl rfl (b_lss rfl)) ?_
        refine OA.nil ?_
        intro _
        refine RA.condF rfl ?_
        refine RA.exit env_ok ?_
        intro _
        refine RA.region env_ok ?_
        refine OA.p (some 26) (.int .i64 ((i : Nat) : Int)) rfl rfl rfl rfl ?_
        refine OA.p (some 27) (.int .i64 (((i + 1) : Nat) : Int)) rfl rfl rfl (r_bin rfl rfl rfl (b_add (i64_eq (by omega)))) ?_
        refine OA.p (some 5) (.int .i64 (((i + 1) : Nat) : Int)) rfl rfl rfl rfl ?_
        refine OA.nil ?_
        refine ⟨(80 - (i + 1)), by omega, [(q, some ⟨[[(.slice none 0 0), (.int .i64 0)]], 2, 115, true⟩), (jq2, some (oItem ([] : List Item)))], (Less.refl _ _ _), .inl (⟨(i + 1), jq2, rfl, by omega, ⟨rfl, rfl, rfl, rfl, trivial⟩, rfl, (kb2 (by omega)), ⟨by omega, by omega, by omega, by omega⟩⟩)⟩
       ·
        intro _
        refine RA.weaken hd hLn65 ?_
        rw [Has.eq hHn65]
        have hKn65_0 : q < n65 := hKn65 _ (by simp only [keys, List.map_cons, List.map_nil, List.mem_cons, true_or, or_true])
        have hKn65_1 : j2 < n65 := hKn65 _ (by simp only [keys, List.map_cons, List.map_nil, List.mem_cons, true_or, or_true])
        have hKn65_2 : jq2 < n65 := hKn65 _ (by simp only [keys, List.map_cons, List.map_nil, List.mem_cons, true_or, or_true])
        clear hKn65
        obtain ⟨hl, hNi, hj, hjq, hqj, hqjq, hjj, hsz⟩ := hIn65
        refine RA.seq hd ?_
        refine RA.region env_ok ?_
        refine OA.p (some 181) (Pt q 0 0) rfl rfl rfl rfl ?_
        refine OA.call (dst := (some 182)) (all := [(Pt q 0 0)]) rfl rfl rfl rfl rfl rfl rfl rfl (CQ.imp (nAll (hd.of (by omega) (kb3 (by omega))) q j2 N2 l2 hl (by omega) (by omega) get_here (get_there (by omega) get_here)) ?_)
        rintro _ n68 _ ⟨in68, hin68a, hin68b, rfl, rfl⟩ hn68
        refine OA.app1 ?_
        refine OA.p (some 12) (.slice (some ⟨in68, 0, none⟩) N2 0) rfl rfl rfl rfl ?_
        refine OA.nil ?_
        intro _
        refine RA.seq hd ?_
        refine RA.seq hd ?_
        refine RA.region env_ok ?_
        refine OA.p (some 183) (.slice (some ⟨in68, 0, none⟩) N2 0) rfl rfl rfl rfl ?_
        refine OA.p (some 184) (.int .i64 ((N2 : Nat) : Int)) rfl rfl rfl rfl ?_
        refine OA.p (some 185) (.slice (some ⟨jq2, 0, none⟩) N2 0) rfl rfl rfl rfl ?_
        refine OA.p (some 186) (.int .i64 ((N2 : Nat) : Int)) rfl rfl rfl rfl ?_
        refine OA.p (some 187) (.bool false) rfl rfl rfl (r_bin rfl rfl rfl (b_neq (decide_eq_false (fun h => h rfl)))) ?_
        refine OA.p (some 188) (.bool false) rfl rfl rfl rfl ?_
        refine OA.p (some 189) (Pt q 0 0) rfl rfl rfl rfl ?_
        refine OA.callP (dst := (some 190)) (all := [(Pt q 0 0)]) (v := (.int .i64 ((N2 : Nat) : Int))) (hd.of (by omega) (kb4 (by omega))) rfl rfl rfl rfl rfl rfl rfl rfl (nLenB q j2 N2 (get_there (by omega) get_here)) ?_
        intro n69 hn69
        refine OA.p (some 191) (.slice (some ⟨jq2, 0, none⟩) N2 0) rfl rfl rfl rfl ?_
        refine OA.p (some 192) (.int .i64 ((N2 : Nat) : Int)) rfl rfl rfl rfl ?_
        refine OA.p (some 193) (.bool false) rfl rfl rfl (r_bin rfl rfl rfl (b_neq (decide_eq_false (fun h => h rfl)))) ?_
        refine OA.p (some 194) (.bool false) rfl rfl rfl rfl ?_
        refine OA.nil ?_
        intro _
        refine RA.condF rfl ?_
        refine RA.skip env_ok ?_
        intro _
        refine RA.seq hd ?_
        refine RA.region env_ok ?_
        refine OA.p (some 13) (.int .i64 0) rfl rfl rfl rfl ?_
        refine OA.nil ?_
        intro _
        refine RA.block ?_
        refine RA.loop hd (fun kk_ τ n' D => (∃ kk : Nat, kk_ = (N2 - kk) ∧ n69 ≤ n' ∧ Has τ [(0, lv), (3, (Pt q 0 0)), (4, (.slice (some ⟨jq2, 0, none⟩) N2 0)), (5, (.int .i64 ((i : Nat) : Int))), (12, (.slice (some ⟨in68, 0, none⟩) N2 0)), (13, (.int .i64 ((kk : Nat) : Int)))] ∧ D = [(in68, some (oItem l2)), (q, some ⟨[[(.slice (some ⟨j2, 0, none⟩) N2 0), (.int .i64 0)]], 2, 115, true⟩), (j2, some (oItem l2)), (jq2, some (oItem l2))] ∧ (∀ i ∈ keys D, i < n') ∧ kk ≤ N2)) ((N2 - 0)) (⟨0, rfl, by omega, ⟨rfl, rfl, rfl, rfl, rfl, rfl, trivial⟩, rfl, (kb4 (by omega)), by omega⟩) ?_
        rintro kn70 τ70 n70 _ ⟨kk, rfl, hn70, hHn70, rfl, hKn70, hIn70⟩
        rw [Has.eq hHn70]
        have hKn70_0 : in68 < n70 := hKn70 _ (by simp only [keys, List.map_cons, List.map_nil, List.mem_cons, true_or, or_true])
        have hKn70_1 : q < n70 := hKn70 _ (by simp only [keys, List.map_cons, List.map_nil, List.mem_cons, true_or, or_true])
        have hKn70_2 : j2 < n70 := hKn70 _ (by simp only [keys, List.map_cons, List.map_nil, List.mem_cons, true_or, or_true])
        have hKn70_3 : jq2 < n70 := hKn70 _ (by simp only [keys, List.map_cons, List.map_nil, List.mem_cons, true_or, or_true])
        clear hKn70
        refine RA.seq hd ?_
        refine RA.seq hd ?_
        refine RA.region env_ok ?_
        refine OA.p (some 195) (.int .i64 ((kk : Nat) : Int)) rfl rfl rfl rfl ?_
        refine OA.p (some 196) (.slice (some ⟨jq2, 0, none⟩) N2 0) rfl rfl rfl rfl ?_
        refine OA.p (some 197) (.int .i64 ((N2 : Nat) : Int)) rfl rfl rfl rfl ?_
        by_cases hc34 : ((kk : Nat) : Int) < ((N2 : Nat) : Int)
        ·
         refine OA.p (some 198) (.bool true) rfl rfl rfl (Eq.trans (r_bin rfl rfl rfl (b_lss rfl)) (dT hc34)) ?_
         refine OA.nil ?_
         intro _
         refine RA.condT rfl ?_
         refine RA.skip env_ok ?_
         intro _
         refine RA.seq hd ?_
         refine RA.block ?_
         refine RA.seq hd ?_
         refine RA.par (md := [some [], some [], some [in68], some [in68], some [], some [], some [jq2], some [jq2], some []]) env_ok (hd.of (by omega) (kb4 (by omega))) (by kernel_rfl) ?_
         refine PQ.pure (dst := (some 201)) (v := (.slice (some ⟨in68, 0, none⟩) N2 0)) rfl rfl rfl noStore (none_ok _ _) rfl ?_
         refine PQ.pure (dst := (some 202)) (v := (.int .i64 ((kk : Nat) : Int))) rfl rfl rfl noStore (none_ok _ _) rfl ?_
         refine PQ.pure (dst := (some 203)) (v := (Pt in68 kk 0)) rfl rfl rfl (app [(in68, some (oItem l2))] noStore) (seen_one (V := []) (D := [(in68, some (oItem l2)), (q, some ⟨[[(.slice (some ⟨j2, 0, none⟩) N2 0), (.int .i64 0)]], 2, 115, true⟩), (j2, some (oItem l2)), (jq2, some (oItem l2))]) (by kernel_rfl) get_here) (r_iaS (l := kk) rfl rfl rfl rfl rfl rfl (by omega) (by omega) get_here rfl (by omega)) ?_
         refine PQ.pure (dst := (some 204)) (v := (.agg ⟨(cItem (l2.getD kk dItem))⟩)) rfl rfl rfl (app [(in68, some (oItem l2))] noStore) (seen_one (V := []) (D := [(in68, some (oItem l2)), (q, some ⟨[[(.slice (some ⟨j2, 0, none⟩) N2 0), (.int .i64 0)]], 2, 115, true⟩), (j2, some (oItem l2)), (jq2, some (oItem l2))]) (by kernel_rfl) get_here) (r_loadR (c := cItem) dItem rfl rfl rfl rfl get_here (by rw [hl]; omega) rfl) ?_
         refine PQ.pure (dst := (some 205)) (v := (.slice (some ⟨jq2, 0, none⟩) N2 0)) rfl rfl rfl noStore (none_ok _ _) rfl ?_
         refine PQ.pure (dst := (some 206)) (v := (.int .i64 ((kk : Nat) : Int))) rfl rfl rfl noStore (none_ok _ _) rfl ?_
         refine PQ.pure (dst := (some 207)) (v := (Pt jq2 kk 0)) rfl rfl rfl (app [(jq2, some (oItem l2))] noStore) (seen_one (V := []) (D := [(in68, some (oItem l2)), (q, some ⟨[[(.slice (some ⟨j2, 0, none⟩) N2 0), (.int .i64 0)]], 2, 115, true⟩), (j2, some (oItem l2)), (jq2, some (oItem l2))]) (by kernel_rfl) (gt3 (by omega) get_here)) (r_iaS (l := kk) rfl rfl rfl rfl rfl rfl (by omega) (by omega) get_here rfl (by omega)) ?_
         refine PQ.pure (dst := (some 208)) (v := (.agg ⟨(cItem (l2.getD kk dItem))⟩)) rfl rfl rfl (app [(jq2, some (oItem l2))] noStore) (seen_one (V := []) (D := [(in68, some (oItem l2)), (q, some ⟨[[(.slice (some ⟨j2, 0, none⟩) N2 0), (.int .i64 0)]], 2, 115, true⟩), (j2, some (oItem l2)), (jq2, some (oItem l2))]) (by kernel_rfl) (gt3 (by omega) get_here)) (r_loadR (c := cItem) dItem rfl rfl rfl rfl get_here (by rw [hl]; omega) rfl) ?_
         refine PQ.pure (dst := (some 209)) (v := (.bool false)) rfl rfl rfl noStore (none_ok _ _) (r_neqA (r := true) rfl rfl rfl (by kernel_rfl) (aeq_self _ _ _ (by kernel_rfl))) ?_
         refine PQ.done (d := []) (by kernel_rfl) ?_
         intro _
         refine RA.condF rfl ?_
         refine RA.skip env_ok ?_
         intro _
         refine RA.region env_ok ?_
         refine OA.p (some 199) (.int .i64 ((kk : Nat) : Int)) rfl rfl rfl rfl ?_
         refine OA.p (some 200) (.int .i64 (((kk + 1) : Nat) : Int)) rfl rfl rfl (r_bin rfl rfl rfl (b_add (i64_eq (by omega)))) ?_
         refine OA.p (some 13) (.int .i64 (((kk + 1) : Nat) : Int)) rfl rfl rfl rfl ?_
         refine OA.nil ?_
         refine ⟨(N2 - (kk + 1)), by omega, [(in68, some (oItem l2)), (q, some ⟨[[(.slice (some ⟨j2, 0, none⟩) N2 0), (.int .i64 0)]], 2, 115, true⟩), (j2, some (oItem l2)), (jq2, some (oItem l2))], (Less.refl _ _ _), ⟨(kk + 1), rfl, by omega, ⟨rfl, rfl, rfl, rfl, rfl, rfl, trivial⟩, rfl, (kb4 (by omega)), by omega⟩⟩
        ·
         refine OA.p (some 198) (.bool false) rfl rfl rfl (Eq.trans (r_bin rfl rfl rfl (b_lss rfl)) (dF hc34)) ?_
         refine OA.nil ?_
         intro _
         refine RA.condF rfl ?_
         refine RA.exit env_ok ?_
         intro _
         refine RA.region env_ok ?_
         refine OA.p (some 26) (.int .i64 ((i : Nat) : Int)) rfl rfl rfl rfl ?_
         refine OA.p (some 27) (.int .i64 (((i + 1) : Nat) : Int)) rfl rfl rfl (r_bin rfl rfl rfl (b_add (i64_eq (by omega)))) ?_
         refine OA.p (some 5) (.int .i64 (((i + 1) : Nat) : Int)) rfl rfl rfl rfl ?_
         refine OA.nil ?_
         refine ⟨(80 - (i + 1)), by omega, [(q, some ⟨[[(.slice (some ⟨j2, 0, none⟩) N2 0), (.int .i64 0)]], 2, 115, true⟩), (j2, some (oItem l2)), (jq2, some (oItem l2))], (Less.of (fac (mm (fun _ => get_here) (fun _ => (get_there (by omega) get_here))) (fac (mm (fun _ => (get_there (by omega) get_here)) (fun _ => (gt2 (by omega) get_here))) (fac (mm (fun _ => (gt2 (by omega) get_here)) (fun _ => (gt3 (by omega) get_here))) fan))) (gone_of (by simp only [goneP, memP, List.cons_append, List.nil_append, true_or, or_true, true_and, and_true, or_false] <;> omega))), .inr (⟨(i + 1), N2, l2, j2, jq2, rfl, by omega, ⟨rfl, rfl, rfl, rfl, trivial⟩, rfl, (kb3 (by omega)), ⟨hl, by omega, by omega, by omega, by omega, by omega, by omega, by omega, by omega, hsz⟩⟩)⟩
     ·
      refine OA.p (some 40) (.bool false) rfl rfl rfl (Eq.trans (r_bin rfl rfl rfl (b_lss rfl)) (dF hc22)) ?_
      refine OA.p (some 41) (.bool false) rfl rfl rfl rfl ?_
      refine OA.p (some 7) (.bool false) rfl rfl rfl rfl ?_
      refine OA.nil ?_
      intro _
      refine RA.rebase [(0, lv), (3, (Pt q 0 0)), (4, (.slice (some ⟨jq, 0, none⟩) N 0)), (5, (.int .i64 ((i : Nat) : Int))), (6, (Pt n3 0 0)), (7, (.bool false)), (25, (.bool true))] ⟨rfl, rfl, rfl, rfl, rfl, rfl, rfl, trivial⟩ (fun τr71 => ?_)
      refine RA.seq hd (RA.imp (Q := fun x τ' n' D' => x = .normal ∧ ((∃ jq2 : Nat, Has τ' [(0, lv), (3, (Pt q 0 0)), (4, (.slice (some ⟨jq2, 0, none⟩) 0 0)), (5, (.int .i64 ((i : Nat) : Int)))] ∧ (∃ D2, Less n n' D' D2 ∧ D2 = [(q, some ⟨[[(.slice none 0 0), (.int .i64 0)]], 2, 115, true⟩), (jq2, some (oItem ([] : List Item)))]) ∧ (n3 + 1) ≤ n' ∧ (∀ i ∈ keys [(q, some ⟨[[(.slice none 0 0), (.int .i64 0)]], 2, 115, true⟩), (jq2, some (oItem ([] : List Item)))], i < n') ∧ n ≤ jq2 ∧ q ≠ jq2) ∨ (∃ N2 : Nat, ∃ l2 : List Item, ∃ j2 : Nat, ∃ jq2 : Nat, Has τ' [(0, lv), (3, (Pt q 0 0)), (4, (.slice (some ⟨jq2, 0, none⟩) N2 0)), (5, (.int .i64 ((i : Nat) : Int)))] ∧ (∃ D2, Less n n' D' D2 ∧ D2 = [(q, some ⟨[[(.slice (some ⟨j2, 0, none⟩) N2 0), (.int .i64 0)]], 2, 115, true⟩), (j2, some (oItem l2)), (jq2, some (oItem l2))]) ∧ (n3 + 1) ≤ n' ∧ (∀ i ∈ keys [(q, some ⟨[[(.slice (some ⟨j2, 0, none⟩) N2 0), (.int .i64 0)]], 2, 115, true⟩), (j2, some (oItem l2)), (jq2, some (oItem l2))], i < n') ∧ l2.length = N2 ∧ N2 ≤ i + 1 ∧ n ≤ j2 ∧ n ≤ jq2 ∧ q ≠ j2 ∧ q ≠ jq2 ∧ j2 ≠ jq2 ∧ SZ l2))) ?_ ?_)
      ·
       refine RA.seq hd ?_
       refine RA.region env_ok ?_
       refine OA.p (some 42) (Pt n3 0 0) rfl rfl rfl rfl ?_
       refine OA.p (some 43) (.int .i64 a.what) rfl rfl rfl (r_load1 rfl rfl rfl rfl rfl get_here rfl rfl) ?_
       refine OA.p (some 44) (.int .i64 (a.what.tmod 5)) rfl rfl rfl (r_bin rfl rfl rfl (b_rem (by decide) rfl)) ?_
       refine OA.nil ?_
       intro _
       refine RA.block ?_
       refine RA.seq hd ?_
       refine RA.region env_ok ?_
       by_cases hc35 : (a.what.tmod 5) = 2
       ·
        refine OA.p (some 71) (.bool true) rfl rfl rfl (Eq.trans (r_bin rfl rfl rfl (b_eql rfl)) (dT hc35)) ?_
        refine OA.p (some 70) (.bool true) rfl rfl rfl rfl ?_
        refine OA.nil ?_
        intro _
        refine RA.condT rfl ?_
        refine RA.seq hd ?_
        refine RA.region env_ok ?_
        refine OA.p (some 73) (Pt q 0 0) rfl rfl rfl rfl ?_
        refine OA.p (some 74) (Pt n3 0 7) rfl rfl rfl rfl ?_
        refine OA.p (some 75) (.int .i64 a.pos) rfl rfl rfl (r_load1 rfl rfl rfl rfl rfl get_here rfl rfl) ?_
        refine OA.call (dst := (some 76)) (all := [(Pt q 0 0), (.int .i64 a.pos)]) rfl rfl rfl rfl rfl rfl rfl rfl (CQ.imp (nTakeOB (hd.of (by omega) (kb5 (by omega))) q j N a.pos (by omega) (gt2 (by omega) get_here)) ?_)
        rintro _ n72 _ ⟨rfl, rfl⟩ hn72
        refine OA.app0 ?_
        refine OA.p (some 72) (.tuple ⟨[(.agg ⟨(cItem dItem)⟩), (.bool false)]⟩) rfl rfl rfl rfl ?_
        refine OA.p (some 77) (.agg ⟨(cItem dItem)⟩) rfl rfl rfl rfl ?_
        refine OA.p (some 78) (.bool false) rfl rfl rfl rfl ?_
        refine OA.op1 (dst := (some 8)) (v := (Pt n72 0 0)) (n1 := (n72 + 1)) (w := (n72, some ⟨[xNp47], 6, 59, true⟩)) rfl rfl rfl rfl (by omega) ?_
        refine OA.op1 (dst := none) (v := (.tuple #[])) (n1 := (n72 + 1)) (w := (n72, some ⟨[(cItem dItem)], 6, 59, true⟩)) rfl rfl rfl (r_store rfl rfl rfl rfl rfl rfl rfl get_here rfl rfl (Nat.le_of_ble_eq_true rfl) rfl) (by omega) ?_
        refine OA.p (some 9) (.bool false) rfl rfl rfl rfl ?_
        refine OA.nil ?_
        intro _
        refine RA.seq hd ?_
        refine RA.seq hd ?_
        refine RA.par (md := [some [], some [], some [], some [], some [], some [], some [n72], some [], some [], some [n3], some [jq], some [jq], some [], some [], some []]) env_ok (hd.of (by omega) (kb7 (by omega))) (by kernel_rfl) ?_
        refine PQ.pure (dst := (some 79)) (v := (.bool false)) rfl rfl rfl noStore (none_ok _ _) rfl ?_
        refine PQ.pure (dst := (some 80)) (v := (.bool false)) rfl rfl rfl noStore (none_ok _ _) rfl ?_
        refine PQ.pure (dst := (some 81)) (v := (.bool false)) rfl rfl rfl noStore (none_ok _ _) rfl ?_
        refine PQ.pure (dst := (some 82)) (v := (.bool false)) rfl rfl rfl noStore (none_ok _ _) rfl ?_
        refine PQ.pure (dst := (some 83)) (v := (.bool false)) rfl rfl rfl noStore (none_ok _ _) rfl ?_
        refine PQ.pure (dst := (some 84)) (v := (.bool false)) rfl rfl rfl noStore (none_ok _ _) rfl ?_
        refine PQ.off (dst := (some 85)) rfl rfl rfl ?_
        refine PQ.off (dst := (some 86)) rfl rfl rfl ?_
        refine PQ.off (dst := (some 87)) rfl rfl rfl ?_
        refine PQ.off (dst := (some 88)) rfl rfl rfl ?_
        refine PQ.off (dst := (some 89)) rfl rfl rfl ?_
        refine PQ.off (dst := (some 90)) rfl rfl rfl ?_
        refine PQ.off (dst := (some 91)) rfl rfl rfl ?_
        refine PQ.pure (dst := (some 92)) (v := (.bool false)) rfl rfl rfl noStore (none_ok _ _) rfl ?_
        refine PQ.pure (dst := (some 93)) (v := (.bool false)) rfl rfl rfl noStore (none_ok _ _) rfl ?_
        refine PQ.done (d := []) (by kernel_rfl) ?_
        intro _
        refine RA.rebase [(0, lv), (3, (Pt q 0 0)), (4, (.slice (some ⟨jq, 0, none⟩) N 0)), (5, (.int .i64 ((i : Nat) : Int))), (6, (Pt n3 0 0)), (7, (.bool false)), (8, (Pt n72 0 0)), (9, (.bool false)), (25, (.bool true)), (44, (.int .i64 (a.what.tmod 5))), (70, (.bool true)), (93, (.bool false))] ⟨rfl, rfl, rfl, rfl, rfl, rfl, rfl, rfl, rfl, rfl, rfl, rfl, trivial⟩ (fun τr73 => ?_)
        refine RA.condF rfl ?_
        refine RA.skip env_ok ?_
        intro _
        refine RA.seq hd ?_
        refine RA.region env_ok ?_
        refine OA.p (some 94) (.bool false) rfl rfl rfl rfl ?_
        refine OA.nil ?_
        intro _
        refine RA.condF rfl ?_
        refine RA.skip env_ok ?_
        exact ⟨rfl, .inr (⟨N, l, j, jq, ⟨rfl, rfl, rfl, rfl, trivial⟩, ⟨[(q, some ⟨[[(.slice (some ⟨j, 0, none⟩) N 0), (.int .i64 0)]], 2, 115, true⟩), (j, some (oItem l)), (jq, some (oItem l))], (Less.of (fac (mm (fun _ => get_here) (fun _ => (gt4 (by omega) get_here))) (fac (mm (fun _ => (get_there (by omega) get_here)) (fun _ => (gt5 (by omega) get_here))) (fac (mm (fun _ => (gt2 (by omega) get_here)) (fun _ => (gt6 (by omega) get_here))) fan))) (gone_of (by simp only [goneP, memP, List.cons_append, List.nil_append, true_or, or_true, true_and, and_true, or_false] <;> omega))), rfl⟩, by omega, (kb3 (by omega)), ⟨hl, by omega, by omega, by omega, by omega, by omega, by omega, hsz⟩⟩)⟩
       ·
        refine OA.p (some 71) (.bool false) rfl rfl rfl (Eq.trans (r_bin rfl rfl rfl (b_eql rfl)) (dF hc35)) ?_
        refine OA.p (some 70) (.bool false) rfl rfl rfl rfl ?_
        refine OA.nil ?_
        intro _
        refine RA.condF rfl ?_
        refine RA.seq hd ?_
        refine RA.region env_ok ?_
        by_cases hc36 : (a.what.tmod 5) = 3
        ·
         refine OA.p (some 108) (.bool true) rfl rfl rfl (Eq.trans (r_bin rfl rfl rfl (b_eql rfl)) (dT hc36)) ?_
         refine OA.p (some 107) (.bool true) rfl rfl rfl rfl ?_
         refine OA.nil ?_
         intro _
         refine RA.condT rfl ?_
         refine RA.seq hd ?_
         refine RA.seq hd ?_
         refine RA.region env_ok ?_
         refine OA.p (some 109) (Pt q 0 0) rfl rfl rfl rfl ?_
         refine OA.p (some 110) (Pt n3 0 7) rfl rfl rfl rfl ?_
         refine OA.p (some 111) (.int .i64 a.pos) rfl rfl rfl (r_load1 rfl rfl rfl rfl rfl get_here rfl rfl) ?_
         refine OA.call (dst := (some 112)) (all := [(Pt q 0 0), (.int .i64 a.pos)]) rfl rfl rfl rfl rfl rfl rfl rfl (CQ.imp (nDoubleOB (hd.of (by omega) (kb5 (by omega))) q j N a.pos (by omega) (gt2 (by omega) get_here)) ?_)
         rintro _ n74 _ ⟨rfl, rfl⟩ hn74
         refine OA.app0 ?_
         refine OA.p (some 113) (.bool false) rfl rfl rfl rfl ?_
         refine OA.p (some 114) (.bool false) rfl rfl rfl rfl ?_
         refine OA.nil ?_
         intro _
         refine RA.condF rfl ?_
         refine RA.skip env_ok ?_
         intro _
         refine RA.seq hd ?_
         refine RA.region env_ok ?_
         refine OA.p (some 115) (.bool false) rfl rfl rfl rfl ?_
         refine OA.nil ?_
         intro _
         refine RA.condF rfl ?_
         refine RA.skip env_ok ?_
         exact ⟨rfl, .inr (⟨N, l, j, jq, ⟨rfl, rfl, rfl, rfl, trivial⟩, ⟨[(q, some ⟨[[(.slice (some ⟨j, 0, none⟩) N 0), (.int .i64 0)]], 2, 115, true⟩), (j, some (oItem l)), (jq, some (oItem l))], (Less.of (fac (mm (fun _ => get_here) (fun _ => (gt2 (by omega) get_here))) (fac (mm (fun _ => (get_there (by omega) get_here)) (fun _ => (gt3 (by omega) get_here))) (fac (mm (fun _ => (gt2 (by omega) get_here)) (fun _ => (gt4 (by omega) get_here))) fan))) (gone_of (by simp only [goneP, memP, List.cons_append, List.nil_append, true_or, or_true, true_and, and_true, or_false] <;> omega))), rfl⟩, by omega, (kb3 (by omega)), ⟨hl, by omega, by omega, by omega, by omega, by omega, by omega, hsz⟩⟩)⟩
        ·
         refine OA.p (some 108) (.bool false) rfl rfl rfl (Eq.trans (r_bin rfl rfl rfl (b_eql rfl)) (dF hc36)) ?_
         refine OA.p (some 107) (.bool false) rfl rfl rfl rfl ?_
         refine OA.nil ?_
         intro _
         refine RA.condF rfl ?_
         refine RA.seq hd ?_
         refine RA.region env_ok ?_
         by_cases hc37 : (a.what.tmod 5) = 4
         ·
          refine OA.p (some 127) (.bool true) rfl rfl rfl (Eq.trans (r_bin rfl rfl rfl (b_eql rfl)) (dT hc37)) ?_
          refine OA.p (some 126) (.bool true) rfl rfl rfl rfl ?_
          refine OA.nil ?_
          intro _
          refine RA.condT rfl ?_
          refine RA.seq hd ?_
          refine RA.region env_ok ?_
          refine OA.p (some 128) (.bool false) rfl rfl rfl rfl ?_
          refine OA.p (some 129) (.bool false) rfl rfl rfl rfl ?_
          refine OA.off (dst := (some 130)) rfl rfl rfl ?_
          refine OA.off (dst := (some 131)) rfl rfl rfl ?_
          refine OA.off (dst := (some 132)) rfl rfl rfl ?_
          refine OA.off (dst := (some 133)) rfl rfl rfl ?_
          refine OA.off (dst := (some 134)) rfl rfl rfl ?_
          refine OA.off (dst := (some 135)) rfl rfl rfl ?_
          refine OA.off (dst := (some 136)) rfl rfl rfl ?_
          refine OA.p (some 137) (.bool false) rfl rfl rfl rfl ?_
          refine OA.p (some 138) (.bool false) rfl rfl rfl rfl ?_
          refine OA.off (dst := (some 139)) rfl rfl rfl ?_
          refine OA.off (dst := (some 140)) rfl rfl rfl ?_
          refine OA.off (dst := (some 141)) rfl rfl rfl ?_
          refine OA.off (dst := (some 142)) rfl rfl rfl ?_
          refine OA.off (dst := (some 143)) rfl rfl rfl ?_
          refine OA.off (dst := (some 144)) rfl rfl rfl ?_
          refine OA.off (dst := (some 145)) rfl rfl rfl ?_
          refine OA.off (dst := (some 146)) rfl rfl rfl ?_
          refine OA.p (some 147) (.bool false) rfl rfl rfl rfl ?_
          refine OA.p (some 10) (.bool false) rfl rfl rfl rfl ?_
          refine OA.nil ?_
          intro _
          refine RA.rebase [(0, lv), (3, (Pt q 0 0)), (4, (.slice (some ⟨jq, 0, none⟩) N 0)), (5, (.int .i64 ((i : Nat) : Int))), (6, (Pt n3 0 0)), (7, (.bool false)), (10, (.bool false)), (25, (.bool true)), (44, (.int .i64 (a.what.tmod 5))), (70, (.bool false)), (107, (.bool false)), (126, (.bool true))] ⟨rfl, rfl, rfl, rfl, rfl, rfl, rfl, rfl, rfl, rfl, rfl, rfl, trivial⟩ (fun τr75 => ?_)
          refine RA.seq hd ?_
          refine RA.seq hd ?_
          refine RA.region env_ok ?_
          refine OA.p (some 148) (Pt q 0 0) rfl rfl rfl rfl ?_
          refine OA.p (some 149) (Pt n3 0 7) rfl rfl rfl rfl ?_
          refine OA.p (some 150) (.int .i64 a.pos) rfl rfl rfl (r_load1 rfl rfl rfl rfl rfl get_here rfl rfl) ?_
          refine OA.p (some 151) (Pt n3 0 8) rfl rfl rfl rfl ?_
          refine OA.p (some 152) (.int .i64 a.bit) rfl rfl rfl (r_load1 rfl rfl rfl rfl rfl get_here rfl rfl) ?_
          refine OA.call (dst := (some 153)) (all := [(Pt q 0 0), (.int .i64 a.pos), (.int .i64 a.bit)]) rfl rfl rfl rfl rfl rfl rfl rfl (CQ.imp (nBendOB (hd.of (by omega) (kb5 (by omega))) q j N a.pos a.bit (by omega) (gt2 (by omega) get_here)) ?_)
          rintro _ n76 _ ⟨rfl, rfl⟩ hn76
          refine OA.app0 ?_
          refine OA.p (some 154) (.bool false) rfl rfl rfl rfl ?_
          refine OA.p (some 155) (.bool false) rfl rfl rfl rfl ?_
          refine OA.nil ?_
          intro _
          refine RA.condF rfl ?_
          refine RA.skip env_ok ?_
          intro _
          refine RA.seq hd ?_
          refine RA.region env_ok ?_
          refine OA.p (some 156) (.bool false) rfl rfl rfl rfl ?_
          refine OA.nil ?_
          intro _
          refine RA.condF rfl ?_
          refine RA.skip env_ok ?_
          exact ⟨rfl, .inr (⟨N, l, j, jq, ⟨rfl, rfl, rfl, rfl, trivial⟩, ⟨[(q, some ⟨[[(.slice (some ⟨j, 0, none⟩) N 0), (.int .i64 0)]], 2, 115, true⟩), (j, some (oItem l)), (jq, some (oItem l))], (Less.of (fac (mm (fun _ => get_here) (fun _ => (gt2 (by omega) get_here))) (fac (mm (fun _ => (get_there (by omega) get_here)) (fun _ => (gt3 (by omega) get_here))) (fac (mm (fun _ => (gt2 (by omega) get_here)) (fun _ => (gt4 (by omega) get_here))) fan))) (gone_of (by simp only [goneP, memP, List.cons_append, List.nil_append, true_or, or_true, true_and, and_true, or_false] <;> omega))), rfl⟩, by omega, (kb3 (by omega)), ⟨hl, by omega, by omega, by omega, by omega, by omega, by omega, hsz⟩⟩)⟩
         ·
          refine OA.p (some 127) (.bool false) rfl rfl rfl (Eq.trans (r_bin rfl rfl rfl (b_eql rfl)) (dF hc37)) ?_
          refine OA.p (some 126) (.bool false) rfl rfl rfl rfl ?_
          refine OA.nil ?_
          intro _
          refine RA.condF rfl ?_
          refine RA.seq hd ?_
          refine RA.region env_ok ?_
          refine OA.p (some 45) (Pt n3 0 1) rfl rfl rfl rfl ?_
          refine OA.p (some 46) (.agg ⟨[(.int .i64 a.leg), (.int .i64 a.nat), (W a.fr), (W a.to), (.string a.s), (.bool a.bent)]⟩) rfl rfl rfl (r_loadA rfl rfl rfl rfl get_here rfl rfl rfl) ?_
          refine OA.op1 (dst := (some 11)) (v := (.pointer (some ⟨(n3 + 1), 0, some 0⟩))) (n1 := (n3 + 2)) (w := ((n3 + 1), some ⟨[xNp47], 6, 59, true⟩)) rfl rfl rfl rfl (by omega) ?_
          refine OA.op1 (dst := none) (v := (.tuple #[])) (n1 := (n3 + 2)) (w := ((n3 + 1), some ⟨[[(.int .i64 a.leg), (.int .i64 a.nat), (W a.fr), (W a.to), (.string a.s), (.bool a.bent)]], 6, 59, true⟩)) rfl rfl rfl (r_store rfl rfl rfl rfl rfl rfl rfl get_here rfl rfl (Nat.le_of_ble_eq_true rfl) rfl) (by omega) ?_
          refine OA.nil ?_
          intro _
          refine RA.seq hd ?_
          refine RA.region env_ok ?_
          refine OA.p (some 47) (Pt n3 0 1) rfl rfl rfl rfl ?_
          refine OA.p (some 48) (Pt n3 0 3) rfl rfl rfl rfl ?_
          refine OA.p (some 49) (Pt n3 0 5) rfl rfl rfl rfl ?_
          refine OA.p (some 50) (.string a.s) rfl rfl rfl (r_load1 rfl rfl rfl rfl rfl (gt2 (by omega) get_here) rfl rfl) ?_
          refine OA.p (some 51) (Pt n3 0 1) rfl rfl rfl rfl ?_
          refine OA.p (some 52) (Pt n3 0 3) rfl rfl rfl rfl ?_
          refine OA.p (some 53) (Pt n3 0 5) rfl rfl rfl rfl ?_
          refine OA.p (some 54) (.string a.s) rfl rfl rfl (r_load1 rfl rfl rfl rfl rfl (gt2 (by omega) get_here) rfl rfl) ?_
          refine OA.p (some 55) (.int .i64 ((a.s.size : Nat) : Int)) rfl rfl rfl rfl ?_
          refine OA.p (some 56) (.int .i64 (((min a.s.size 10) : Nat) : Int)) rfl rfl rfl (r_min (a := a.s.size) (b := 10) rfl rfl rfl) ?_
          refine OA.p (some 57) (.string (a.s.extract 0 (min a.s.size 10))) rfl rfl rfl (r_cut (a := 0) (b := (min a.s.size 10)) rfl rfl (fun _ => rfl) (fun _ => rfl) rfl rfl rfl bound_nat (by omega) (by omega) rfl) ?_
          refine OA.p (some 58) (.pointer (some ⟨(n3 + 1), 0, some 2⟩)) rfl rfl rfl rfl ?_
          refine OA.p (some 59) (.pointer (some ⟨(n3 + 1), 0, some 4⟩)) rfl rfl rfl rfl ?_
          refine OA.op1 (dst := none) (v := (.tuple #[])) (n1 := (n3 + 2)) (w := ((n3 + 1), some ⟨[(xNp46 a)], 6, 59, true⟩)) rfl rfl rfl (r_store rfl rfl rfl rfl rfl rfl rfl get_here rfl rfl (Nat.le_of_ble_eq_true rfl) rfl) (by omega) ?_
          refine OA.nil ?_
          intro _
          refine RA.weaken (D' := [((n3 + 1), some ⟨[(xNp46 a)], 6, 59, true⟩), (n3, some ⟨[(cAct a)], 9, 67, true⟩), (q, some ⟨[[(.slice (some ⟨j, 0, none⟩) N 0), (.int .i64 0)]], 2, 115, true⟩), (j, some (oItem l)), (jq, some (oItem l))]) hd (Less.of (fac (mm (fun _ => get_here) (fun _ => get_here)) (fac (mm (fun _ => (get_there (by omega) get_here)) (fun _ => (gt3 (by omega) get_here))) (fac (mm (fun _ => (gt2 (by omega) get_here)) (fun _ => (gt5 (by omega) get_here))) (fac (mm (fun _ => (gt3 (by omega) get_here)) (fun _ => (gt6 (by omega) get_here))) (fac (mm (fun _ => (gt4 (by omega) get_here)) (fun _ => (gt7 (by omega) get_here))) fan))))) (gone_of (by simp only [goneP, memP, List.cons_append, List.nil_append, true_or, or_true, true_and, and_true, or_false] <;> omega))) ?_
          refine RA.rebase [(0, lv), (3, (Pt q 0 0)), (4, (.slice (some ⟨jq, 0, none⟩) N 0)), (5, (.int .i64 ((i : Nat) : Int))), (6, (Pt n3 0 0)), (7, (.bool false)), (11, (.pointer (some ⟨(n3 + 1), 0, some 0⟩))), (25, (.bool true)), (44, (.int .i64 (a.what.tmod 5))), (70, (.bool false)), (107, (.bool false)), (126, (.bool false))] ⟨rfl, rfl, rfl, rfl, rfl, rfl, rfl, rfl, rfl, rfl, rfl, rfl, trivial⟩ (fun τr77 => ?_)
          refine RA.seq hd ?_
          refine RA.seq hd ?_
          refine RA.region env_ok ?_
          refine OA.p (some 60) (Pt q 0 0) rfl rfl rfl rfl ?_
          refine OA.p (some 61) (.agg ⟨(xNp46 a)⟩) rfl rfl rfl (r_loadA rfl rfl rfl rfl get_here rfl rfl rfl) ?_
          refine OA.call (dst := (some 62)) (all := (xNp44 q a)) rfl rfl rfl rfl rfl rfl rfl rfl (CQ.imp (nPutB (hd.of (by omega) (kb5 (by omega))) q j N l hl (by omega) (by omega) (Item.mk a.leg a.nat a.fr a.to (a.s.extract 0 (min a.s.size 10)) a.bent) (gt2 (by omega) get_here) (gt3 (by omega) get_here)) ?_)
          rintro _ n78 _ ⟨in78, hin78a, hin78b, rfl, rfl⟩ hn78
          show OA _ _ _ _ _ _ _ _ [(q, some ⟨[[(.slice (some ⟨in78, 0, none⟩) (N + 1) 0), (.int .i64 0)]], 2, 115, true⟩), (in78, some (oItem (l ++ [(Item.mk a.leg a.nat a.fr a.to (a.s.extract 0 (min a.s.size 10)) a.bent)]))), (j, none), ((n3 + 1), some ⟨[(xNp46 a)], 6, 59, true⟩), (n3, some ⟨[(cAct a)], 9, 67, true⟩), (q, some ⟨[[(.slice (some ⟨j, 0, none⟩) N 0), (.int .i64 0)]], 2, 115, true⟩), (j, some (oItem l)), (jq, some (oItem l))] _
          refine OA.p (some 63) (.bool false) rfl rfl rfl rfl ?_
          refine OA.nil ?_
          intro _
          refine RA.condF rfl ?_
          refine RA.skip env_ok ?_
          intro _
          refine RA.par (md := [some [], some [], none, some [(n3 + 1)], some [], none, some []]) env_ok (hd.of (by omega) (kb8 (by omega))) (by kernel_rfl) ?_
          refine PQ.op (dst := (some 64)) (v := (.slice (some ⟨n78, 0, none⟩) 0 0)) (n1 := (n78 + 1)) (d1 := [(n78, some (oItem ([] : List Item)))]) rfl rfl rfl noStore (none_ok _ _) (by kernel_rfl) (by omega) (kp1 (wr_new (by omega) (by omega))) ?_
          refine PQ.pure (dst := (some 65)) (v := (.slice (some ⟨jq, 0, none⟩) N 0)) rfl rfl rfl noStore (none_ok _ _) rfl ?_
          by_cases hc38 : N = 0
          ·
           refine PQ.pure (dst := (some 66)) (v := (.slice (some ⟨n78, 0, none⟩) 0 0)) rfl rfl rfl _ (seen_any (V := [(n78, some (oItem ([] : List Item)))]) (D := [(q, some ⟨[[(.slice (some ⟨in78, 0, none⟩) (N + 1) 0), (.int .i64 0)]], 2, 115, true⟩), (in78, some (oItem (l ++ [(Item.mk a.leg a.nat a.fr a.to (a.s.extract 0 (min a.s.size 10)) a.bent)]))), (j, none), ((n3 + 1), some ⟨[(xNp46 a)], 6, 59, true⟩), (n3, some ⟨[(cAct a)], 9, 67, true⟩), (q, some ⟨[[(.slice (some ⟨j, 0, none⟩) N 0), (.int .i64 0)]], 2, 115, true⟩), (j, some (oItem l)), (jq, some (oItem l))]) (by kernel_rfl)) (r_appendZ rfl rfl rfl rfl (.inl ⟨_, _, _, rfl⟩) rfl rfl rfl rfl rfl (by decide) (by omega)) ?_
           refine PQ.pure (dst := (some 67)) (v := (.agg ⟨(xNp46 a)⟩)) rfl rfl rfl (app [((n3 + 1), some ⟨[(xNp46 a)], 6, 59, true⟩)] noStore) (seen_one (V := []) (D := [(q, some ⟨[[(.slice (some ⟨in78, 0, none⟩) (N + 1) 0), (.int .i64 0)]], 2, 115, true⟩), (in78, some (oItem (l ++ [(Item.mk a.leg a.nat a.fr a.to (a.s.extract 0 (min a.s.size 10)) a.bent)]))), (j, none), ((n3 + 1), some ⟨[(xNp46 a)], 6, 59, true⟩), (n3, some ⟨[(cAct a)], 9, 67, true⟩), (q, some ⟨[[(.slice (some ⟨j, 0, none⟩) N 0), (.int .i64 0)]], 2, 115, true⟩), (j, some (oItem l)), (jq, some (oItem l))]) (by kernel_rfl) (gt3 (by omega) get_here)) (r_loadA rfl rfl rfl rfl get_here rfl rfl rfl) ?_
           refine PQ.op (dst := (some 68)) (v := (.slice (some ⟨(n78 + 1), 0, none⟩) 1 0)) (n1 := (n78 + 2)) (d1 := [((n78 + 1), some ⟨[(xNp46 a)], 6, 59, true⟩)]) rfl rfl rfl noStore (none_ok _ _) (by kernel_rfl) (by omega) (kp1 (wr_new (by omega) (by omega))) ?_
           refine PQ.op (dst := (some 69)) (v := (.slice (some ⟨(n78 + 2), 0, none⟩) 1 0)) (n1 := (n78 + 3)) (d1 := [((n78 + 2), some (oItem [(Item.mk a.leg a.nat a.fr a.to (a.s.extract 0 (min a.s.size 10)) a.bent)])), (n78, none)]) rfl rfl rfl _ (seen_any (V := [((n78 + 1), some ⟨[(xNp46 a)], 6, 59, true⟩), (n78, some (oItem ([] : List Item)))]) (D := [(q, some ⟨[[(.slice (some ⟨in78, 0, none⟩) (N + 1) 0), (.int .i64 0)]], 2, 115, true⟩), (in78, some (oItem (l ++ [(Item.mk a.leg a.nat a.fr a.to (a.s.extract 0 (min a.s.size 10)) a.bent)]))), (j, none), ((n3 + 1), some ⟨[(xNp46 a)], 6, 59, true⟩), (n3, some ⟨[(cAct a)], 9, 67, true⟩), (q, some ⟨[[(.slice (some ⟨j, 0, none⟩) N 0), (.int .i64 0)]], 2, 115, true⟩), (j, some (oItem l)), (jq, some (oItem l))]) (by kernel_rfl)) (r_appendR (c := cItem) (l' := [(Item.mk a.leg a.nat a.fr a.to (a.s.extract 0 (min a.s.size 10)) a.bent)]) rfl rfl rfl rfl rfl rfl rfl rfl rfl rfl (by decide) (get_there (by omega) get_here) get_here (by rw [show ([] : List Item).length = 0 from rfl]) rfl (by omega) (of_decide_eq_true (by kernel_rfl)) (by omega)) (by omega) (kp2 (wr_new (by omega) (by omega)) (wr_tight (by kernel_rfl) (by omega))) ?_
           refine PQ.pure (dst := (some 4)) (v := (.slice (some ⟨(n78 + 2), 0, none⟩) 1 0)) rfl rfl rfl noStore (none_ok _ _) rfl ?_
           refine PQ.done (d := [((n78 + 2), some (oItem [(Item.mk a.leg a.nat a.fr a.to (a.s.extract 0 (min a.s.size 10)) a.bent)])), (n78, none), ((n78 + 1), some ⟨[(xNp46 a)], 6, 59, true⟩), (n78, some (oItem ([] : List Item)))]) (by kernel_rfl) ?_
           exact ⟨rfl, .inr (⟨(N + 1), (l ++ [(Item.mk a.leg a.nat a.fr a.to (a.s.extract 0 (min a.s.size 10)) a.bent)]), in78, (n78 + 2), ⟨rfl, rfl, (congrArg (fun z => Value.slice (some ⟨(n78 + 2), 0, none⟩) z 0) (show 1 = (N + 1) from by omega)), rfl, trivial⟩, ⟨[(q, some ⟨[[(.slice (some ⟨in78, 0, none⟩) (N + 1) 0), (.int .i64 0)]], 2, 115, true⟩), (in78, some (oItem (l ++ [(Item.mk a.leg a.nat a.fr a.to (a.s.extract 0 (min a.s.size 10)) a.bent)]))), ((n78 + 2), some (oItem [(Item.mk a.leg a.nat a.fr a.to (a.s.extract 0 (min a.s.size 10)) a.bent)]))], (Less.of (fac (mm (fun _ => get_here) (fun _ => (gt4 (by omega) get_here))) (fac (mm (fun _ => (get_there (by omega) get_here)) (fun _ => (gt5 (by omega) get_here))) (fac (mm (fun _ => (gt2 (by omega) get_here)) (fun _ => get_here)) fan))) (gone_of (by simp only [goneP, memP, List.cons_append, List.nil_append, true_or, or_true, true_and, and_true, or_false] <;> omega))), (by rw [show ((l ++ [(Item.mk a.leg a.nat a.fr a.to (a.s.extract 0 (min a.s.size 10)) a.bent)]) : List Item) = [(Item.mk a.leg a.nat a.fr a.to (a.s.extract 0 (min a.s.size 10)) a.bent)] from Eq.symm (by first | exact er_last hl (by omega) | exact er_nil hl (by omega) (by omega) | (rw [nil_of hl (by omega)]; done) | (rw [← nil_of hl (by omega)]; rfl))])⟩, by omega, (kb3 (by omega)), ⟨by rw [List.length_append, hl]; rfl, by omega, by omega, by omega, by omega, by omega, by omega, hsz.snoc (cut10 _)⟩⟩)⟩
          ·
           refine PQ.op (dst := (some 66)) (v := (.slice (some ⟨(n78 + 1), 0, none⟩) N 0)) (n1 := (n78 + 2)) (d1 := [((n78 + 1), some (oItem l)), (n78, none)]) rfl rfl rfl _ (seen_any (V := [(n78, some (oItem ([] : List Item)))]) (D := [(q, some ⟨[[(.slice (some ⟨in78, 0, none⟩) (N + 1) 0), (.int .i64 0)]], 2, 115, true⟩), (in78, some (oItem (l ++ [(Item.mk a.leg a.nat a.fr a.to (a.s.extract 0 (min a.s.size 10)) a.bent)]))), (j, none), ((n3 + 1), some ⟨[(xNp46 a)], 6, 59, true⟩), (n3, some ⟨[(cAct a)], 9, 67, true⟩), (q, some ⟨[[(.slice (some ⟨j, 0, none⟩) N 0), (.int .i64 0)]], 2, 115, true⟩), (j, some (oItem l)), (jq, some (oItem l))]) (by kernel_rfl)) (r_appendL (c := cItem) (l' := l) rfl rfl rfl rfl rfl rfl rfl rfl rfl rfl (by decide) get_here (gt8 (by omega) get_here) (by rw [show ([] : List Item).length = 0 from rfl]) (by omega) (by rw [hl]; omega) (by rw [List.nil_append, List.drop_zero, List.take_of_length_le (by omega)]) (by omega) (of_decide_eq_true (by kernel_rfl)) (by omega)) (by omega) (kp2 (wr_new (by omega) (by omega)) (wr_late [3, 4] (by kernel_rfl) (by kernel_rfl) (by omega) 0 (by kernel_rfl) (by simp [keys]) (fac (lo1 rfl (by omega)) (fac (lo0 rfl) fan)))) ?_
           refine PQ.pure (dst := (some 67)) (v := (.agg ⟨(xNp46 a)⟩)) rfl rfl rfl (app [((n3 + 1), some ⟨[(xNp46 a)], 6, 59, true⟩)] noStore) (seen_one (V := []) (D := [(q, some ⟨[[(.slice (some ⟨in78, 0, none⟩) (N + 1) 0), (.int .i64 0)]], 2, 115, true⟩), (in78, some (oItem (l ++ [(Item.mk a.leg a.nat a.fr a.to (a.s.extract 0 (min a.s.size 10)) a.bent)]))), (j, none), ((n3 + 1), some ⟨[(xNp46 a)], 6, 59, true⟩), (n3, some ⟨[(cAct a)], 9, 67, true⟩), (q, some ⟨[[(.slice (some ⟨j, 0, none⟩) N 0), (.int .i64 0)]], 2, 115, true⟩), (j, some (oItem l)), (jq, some (oItem l))]) (by kernel_rfl) (gt3 (by omega) get_here)) (r_loadA rfl rfl rfl rfl get_here rfl rfl rfl) ?_
           refine PQ.op (dst := (some 68)) (v := (.slice (some ⟨(n78 + 2), 0, none⟩) 1 0)) (n1 := (n78 + 3)) (d1 := [((n78 + 2), some ⟨[(xNp46 a)], 6, 59, true⟩)]) rfl rfl rfl noStore (none_ok _ _) (by kernel_rfl) (by omega) (kp1 (wr_new (by omega) (by omega))) ?_
           refine PQ.op (dst := (some 69)) (v := (.slice (some ⟨(n78 + 3), 0, none⟩) (N + 1) 0)) (n1 := (n78 + 4)) (d1 := [((n78 + 3), some (oItem (l ++ [(Item.mk a.leg a.nat a.fr a.to (a.s.extract 0 (min a.s.size 10)) a.bent)]))), ((n78 + 1), none)]) rfl rfl rfl _ (seen_any (V := [((n78 + 2), some ⟨[(xNp46 a)], 6, 59, true⟩), ((n78 + 1), some (oItem l)), (n78, none), (n78, some (oItem ([] : List Item)))]) (D := [(q, some ⟨[[(.slice (some ⟨in78, 0, none⟩) (N + 1) 0), (.int .i64 0)]], 2, 115, true⟩), (in78, some (oItem (l ++ [(Item.mk a.leg a.nat a.fr a.to (a.s.extract 0 (min a.s.size 10)) a.bent)]))), (j, none), ((n3 + 1), some ⟨[(xNp46 a)], 6, 59, true⟩), (n3, some ⟨[(cAct a)], 9, 67, true⟩), (q, some ⟨[[(.slice (some ⟨j, 0, none⟩) N 0), (.int .i64 0)]], 2, 115, true⟩), (j, some (oItem l)), (jq, some (oItem l))]) (by kernel_rfl)) (r_appendR (c := cItem) (l' := (l ++ [(Item.mk a.leg a.nat a.fr a.to (a.s.extract 0 (min a.s.size 10)) a.bent)])) rfl rfl rfl rfl rfl rfl rfl rfl rfl rfl (by decide) (get_there (by omega) get_here) get_here (by rw [hl]) (mp_snoc (c := cItem) (x := (Item.mk a.leg a.nat a.fr a.to (a.s.extract 0 (min a.s.size 10)) a.bent))) (by omega) (of_decide_eq_true (by kernel_rfl)) (by omega)) (by omega) (kp2 (wr_new (by omega) (by omega)) (wr_tight (by kernel_rfl) (by omega))) ?_
           refine PQ.pure (dst := (some 4)) (v := (.slice (some ⟨(n78 + 3), 0, none⟩) (N + 1) 0)) rfl rfl rfl noStore (none_ok _ _) rfl ?_
           refine PQ.done (d := [((n78 + 3), some (oItem (l ++ [(Item.mk a.leg a.nat a.fr a.to (a.s.extract 0 (min a.s.size 10)) a.bent)]))), ((n78 + 1), none), ((n78 + 2), some ⟨[(xNp46 a)], 6, 59, true⟩), ((n78 + 1), some (oItem l)), (n78, none), (n78, some (oItem ([] : List Item)))]) (by kernel_rfl) ?_
           exact ⟨rfl, .inr (⟨(N + 1), (l ++ [(Item.mk a.leg a.nat a.fr a.to (a.s.extract 0 (min a.s.size 10)) a.bent)]), in78, (n78 + 3), ⟨rfl, rfl, rfl, rfl, trivial⟩, ⟨[(q, some ⟨[[(.slice (some ⟨in78, 0, none⟩) (N + 1) 0), (.int .i64 0)]], 2, 115, true⟩), (in78, some (oItem (l ++ [(Item.mk a.leg a.nat a.fr a.to (a.s.extract 0 (min a.s.size 10)) a.bent)]))), ((n78 + 3), some (oItem (l ++ [(Item.mk a.leg a.nat a.fr a.to (a.s.extract 0 (min a.s.size 10)) a.bent)])))], (Less.of (fac (mm (fun _ => get_here) (fun _ => (gt6 (by omega) get_here))) (fac (mm (fun _ => (get_there (by omega) get_here)) (fun _ => (gt7 (by omega) get_here))) (fac (mm (fun _ => (gt2 (by omega) get_here)) (fun _ => get_here)) fan))) (gone_of (by simp only [goneP, memP, List.cons_append, List.nil_append, true_or, or_true, true_and, and_true, or_false] <;> omega))), rfl⟩, by omega, (kb3 (by omega)), ⟨by rw [List.length_append, hl]; rfl, by omega, by omega, by omega, by omega, by omega, by omega, hsz.snoc (cut10 _)⟩⟩)⟩
      ·
       rintro _ τ79 n79 Dn79 hmn79 ⟨rfl, hSn79⟩
       rcases hSn79 with ⟨jq2, hHn79, ⟨_, hLn79, rfl⟩, hn79, hKn79, hIn79⟩ | ⟨N2, l2, j2, jq2, hHn79, ⟨_, hLn79, rfl⟩, hn79, hKn79, hIn79⟩
       ·
        intro _
        refine RA.weaken hd hLn79 ?_
        rw [Has.eq hHn79]
        have hKn79_0 : q < n79 := hKn79 _ (by simp only [keys, List.map_cons, List.map_nil, List.mem_cons, true_or, or_true])
        have hKn79_1 : jq2 < n79 := hKn79 _ (by simp only [keys, List.map_cons, List.map_nil, List.mem_cons, true_or, or_true])
        clear hKn79
        obtain ⟨hjq, hqjq⟩ := hIn79
        refine RA.seq hd ?_
        refine RA.region env_ok ?_
        refine OA.p (some 181) (Pt q 0 0) rfl rfl rfl rfl ?_
        refine OA.callP (dst := (some 182)) (all := [(Pt q 0 0)]) (v := (.slice none 0 0)) (hd.of (by omega) (kb2 (by omega))) rfl rfl rfl rfl rfl rfl rfl rfl (nAllA q get_here) ?_
        intro n80 hn80
        refine OA.p (some 12) (.slice none 0 0) rfl rfl rfl rfl ?_
        refine OA.nil ?_
        intro _
        refine RA.seq hd ?_
        refine RA.seq hd ?_
        refine RA.region env_ok ?_
        refine OA.p (some 183) (.slice none 0 0) rfl rfl rfl rfl ?_
        refine OA.p (some 184) (.int .i64 0) rfl rfl rfl rfl ?_
        refine OA.p (some 185) (.slice (some ⟨jq2, 0, none⟩) 0 0) rfl rfl rfl rfl ?_
        refine OA.p (some 186) (.int .i64 0) rfl rfl rfl rfl ?_
        refine OA.p (some 187) (.bool false) rfl rfl rfl (r_bin rfl rfl rfl (b_neq rfl)) ?_
        refine OA.p (some 188) (.bool false) rfl rfl rfl rfl ?_
        refine OA.p (some 189) (Pt q 0 0) rfl rfl rfl rfl ?_
        refine OA.callP (dst := (some 190)) (all := [(Pt q 0 0)]) (v := (.int .i64 0)) (hd.of (by omega) (kb2 (by omega))) rfl rfl rfl rfl rfl rfl rfl rfl (nLenA q get_here) ?_
        intro n81 hn81
        refine OA.p (some 191) (.slice (some ⟨jq2, 0, none⟩) 0 0) rfl rfl rfl rfl ?_
        refine OA.p (some 192) (.int .i64 0) rfl rfl rfl rfl ?_
        refine OA.p (some 193) (.bool false) rfl rfl rfl (r_bin rfl rfl rfl (b_neq rfl)) ?_
        refine OA.p (some 194) (.bool false) rfl rfl rfl rfl ?_
        refine OA.nil ?_
        intro _
        refine RA.condF rfl ?_
        refine RA.skip env_ok ?_
        intro _
        refine RA.seq hd ?_
        refine RA.region env_ok ?_
        refine OA.p (some 13) (.int .i64 0) rfl rfl rfl rfl ?_
        refine OA.nil ?_
        intro _
        refine RA.block ?_
        refine RA.unroll hd ?_
        refine RA.seq hd ?_
        refine RA.seq hd ?_
        refine RA.region env_ok ?_
        refine OA.p (some 195) (.int .i64 0) rfl rfl rfl rfl ?_
        refine OA.p (some 196) (.slice (some ⟨jq2, 0, none⟩) 0 0) rfl rfl rfl rfl ?_
        refine OA.p (some 197) (.int .i64 0) rfl rfl rfl rfl ?_
        refine OA.p (some 198) (.bool false) rfl rfl rfl (r_bin rfl rfl rfl (b_lss rfl)) ?_
        refine OA.nil ?_
        intro _
        refine RA.condF rfl ?_
        refine RA.exit env_ok ?_
        intro _
        refine RA.region env_ok ?_
        refine OA.p (some 26) (.int .i64 ((i : Nat) : Int)) rfl rfl rfl rfl ?_
        refine OA.p (some 27) (.int .i64 (((i + 1) : Nat) : Int)) rfl rfl rfl (r_bin rfl rfl rfl (b_add (i64_eq (by omega)))) ?_
        refine OA.p (some 5) (.int .i64 (((i + 1) : Nat) : Int)) rfl rfl rfl rfl ?_
        refine OA.nil ?_
        refine ⟨(80 - (i + 1)), by omega, [(q, some ⟨[[(.slice none 0 0), (.int .i64 0)]], 2, 115, true⟩), (jq2, some (oItem ([] : List Item)))], (Less.refl _ _ _), .inl (⟨(i + 1), jq2, rfl, by omega, ⟨rfl, rfl, rfl, rfl, trivial⟩, rfl, (kb2 (by omega)), ⟨by omega, by omega, by omega, by omega⟩⟩)⟩
       ·
        intro _
        refine RA.weaken hd hLn79 ?_
        rw [Has.eq hHn79]
        have hKn79_0 : q < n79 := hKn79 _ (by simp only [keys, List.map_cons, List.map_nil, List.mem_cons, true_or, or_true])
        have hKn79_1 : j2 < n79 := hKn79 _ (by simp only [keys, List.map_cons, List.map_nil, List.mem_cons, true_or, or_true])
        have hKn79_2 : jq2 < n79 := hKn79 _ (by simp only [keys, List.map_cons, List.map_nil, List.mem_cons, true_or, or_true])
        clear hKn79
        obtain ⟨hl, hNi, hj, hjq, hqj, hqjq, hjj, hsz⟩ := hIn79
        refine RA.seq hd ?_
        refine RA.region env_ok ?_
        refine OA.p (some 181) (Pt q 0 0) rfl rfl rfl rfl ?_
        refine OA.call (dst := (some 182)) (all := [(Pt q 0 0)]) rfl rfl rfl rfl rfl rfl rfl rfl (CQ.imp (nAll (hd.of (by omega) (kb3 (by omega))) q j2 N2 l2 hl (by omega) (by omega) get_here (get_there (by omega) get_here)) ?_)
        rintro _ n82 _ ⟨in82, hin82a, hin82b, rfl, rfl⟩ hn82
        refine OA.app1 ?_
        refine OA.p (some 12) (.slice (some ⟨in82, 0, none⟩) N2 0) rfl rfl rfl rfl ?_
        refine OA.nil ?_
        intro _
        refine RA.seq hd ?_
        refine RA.seq hd ?_
        refine RA.region env_ok ?_
        refine OA.p (some 183) (.slice (some ⟨in82, 0, none⟩) N2 0) rfl rfl rfl rfl ?_
        refine OA.p (some 184) (.int .i64 ((N2 : Nat) : Int)) rfl rfl rfl rfl ?_
        refine OA.p (some 185) (.slice (some ⟨jq2, 0, none⟩) N2 0) rfl rfl rfl rfl ?_
        refine OA.p (some 186) (.int .i64 ((N2 : Nat) : Int)) rfl rfl rfl rfl ?_
        refine OA.p (some 187) (.bool false) rfl rfl rfl (r_bin rfl rfl rfl (b_neq (decide_eq_false (fun h => h rfl)))) ?_
        refine OA.p (some 188) (.bool false) rfl rfl rfl rfl ?_
        refine OA.p (some 189) (Pt q 0 0) rfl rfl rfl rfl ?_
        refine OA.callP (dst := (some 190)) (all := [(Pt q 0 0)]) (v := (.int .i64 ((N2 : Nat) : Int))) (hd.of (by omega) (kb4 (by omega))) rfl rfl rfl rfl rfl rfl rfl rfl (nLenB q j2 N2 (get_there (by omega) get_here)) ?_
        intro n83 hn83
        refine OA.p (some 191) (.slice (some ⟨jq2, 0, none⟩) N2 0) rfl rfl rfl rfl ?_
        refine OA.p (some 192) (.int .i64 ((N2 : Nat) : Int)) rfl rfl rfl rfl ?_
        refine OA.p (some 193) (.bool false) rfl rfl rfl (r_bin rfl rfl rfl (b_neq (decide_eq_false (fun h => h rfl)))) ?_
        refine OA.p (some 194) (.bool false) rfl rfl rfl rfl ?_
        refine OA.nil ?_
        intro _
        refine RA.condF rfl ?_
        refine RA.skip env_ok ?_
        intro _
        refine RA.seq hd ?_
        refine RA.region env_ok ?_
        refine OA.p (some 13) (.int .i64 0) rfl rfl rfl rfl ?_
        refine OA.nil ?_
        intro _
        refine RA.block ?_
        refine RA.loop hd (fun kk_ τ n' D => (∃ kk : Nat, kk_ = (N2 - kk) ∧ n83 ≤ n' ∧ Has τ [(0, lv), (3, (Pt q 0 0)), (4, (.slice (some ⟨jq2, 0, none⟩) N2 0)), (5, (.int .i64 ((i : Nat) : Int))), (12, (.slice (some ⟨in82, 0, none⟩) N2 0)), (13, (.int .i64 ((kk : Nat) : Int)))] ∧ D = [(in82, some (oItem l2)), (q, some ⟨[[(.slice (some ⟨j2, 0, none⟩) N2 0), (.int .i64 0)]], 2, 115, true⟩), (j2, some (oItem l2)), (jq2, some (oItem l2))] ∧ (∀ i ∈ keys D, i < n') ∧ kk ≤ N2)) ((N2 - 0)) (⟨0, rfl, by omega, ⟨rfl, rfl, rfl, rfl, rfl, rfl, trivial⟩, rfl, (kb4 (by omega)), by omega⟩) ?_
        rintro kn84 τ84 n84 _ ⟨kk, rfl, hn84, hHn84, rfl, hKn84, hIn84⟩
        rw [Has.eq hHn84]
        have hKn84_0 : in82 < n84 := hKn84 _ (by simp only [keys, List.map_cons, List.map_nil, List.mem_cons, true_or, or_true])
        have hKn84_1 : q < n84 := hKn84 _ (by simp only [keys, List.map_cons, List.map_nil, List.mem_cons, true_or, or_true])
        have hKn84_2 : j2 < n84 := hKn84 _ (by simp only [keys, List.map_cons, List.map_nil, List.mem_cons, true_or, or_true])
        have hKn84_3 : jq2 < n84 := hKn84 _ (by simp only [keys, List.map_cons, List.map_nil, List.mem_cons, true_or, or_true])
        clear hKn84
        refine RA.seq hd ?_
        refine RA.seq hd ?_
        refine RA.region env_ok ?_
        refine OA.p (some 195) (.int .i64 ((kk : Nat) : Int)) rfl rfl rfl rfl ?_
        refine OA.p (some 196) (.slice (some ⟨jq2, 0, none⟩) N2 0) rfl rfl rfl rfl ?_
        refine OA.p (some 197) (.int .i64 ((N2 : Nat) : Int)) rfl rfl rfl rfl ?_
        by_cases hc39 : ((kk : Nat) : Int) < ((N2 : Nat) : Int)
        ·
         refine OA.p (some 198) (.bool true) rfl rfl rfl (Eq.trans (r_bin rfl rfl rfl (b_lss rfl)) (dT hc39)) ?_
         refine OA.nil ?_
         intro _
         refine RA.condT rfl ?_
         refine RA.skip env_ok ?_
         intro _
         refine RA.seq hd ?_
         refine RA.block ?_
         refine RA.seq hd ?_
         refine RA.par (md := [some [], some [], some [in82], some [in82], some [], some [], some [jq2], some [jq2], some []]) env_ok (hd.of (by omega) (kb4 (by omega))) (by kernel_rfl) ?_
         refine PQ.pure (dst := (some 201)) (v := (.slice (some ⟨in82, 0, none⟩) N2 0)) rfl rfl rfl noStore (none_ok _ _) rfl ?_
         refine PQ.pure (dst := (some 202)) (v := (.int .i64 ((kk : Nat) : Int))) rfl rfl rfl noStore (none_ok _ _) rfl ?_
         refine PQ.pure (dst := (some 203)) (v := (Pt in82 kk 0)) rfl rfl rfl (app [(in82, some (oItem l2))] noStore) (seen_one (V := []) (D := [(in82, some (oItem l2)), (q, some ⟨[[(.slice (some ⟨j2, 0, none⟩) N2 0), (.int .i64 0)]], 2, 115, true⟩), (j2, some (oItem l2)), (jq2, some (oItem l2))]) (by kernel_rfl) get_here) (r_iaS (l := kk) rfl rfl rfl rfl rfl rfl (by omega) (by omega) get_here rfl (by omega)) ?_
         refine PQ.pure (dst := (some 204)) (v := (.agg ⟨(cItem (l2.getD kk dItem))⟩)) rfl rfl rfl (app [(in82, some (oItem l2))] noStore) (seen_one (V := []) (D := [(in82, some (oItem l2)), (q, some ⟨[[(.slice (some ⟨j2, 0, none⟩) N2 0), (.int .i64 0)]], 2, 115, true⟩), (j2, some (oItem l2)), (jq2, some (oItem l2))]) (by kernel_rfl) get_here) (r_loadR (c := cItem) dItem rfl rfl rfl rfl get_here (by rw [hl]; omega) rfl) ?_
         refine PQ.pure (dst := (some 205)) (v := (.slice (some ⟨jq2, 0, none⟩) N2 0)) rfl rfl rfl noStore (none_ok _ _) rfl ?_
         refine PQ.pure (dst := (some 206)) (v := (.int .i64 ((kk : Nat) : Int))) rfl rfl rfl noStore (none_ok _ _) rfl ?_
         refine PQ.pure (dst := (some 207)) (v := (Pt jq2 kk 0)) rfl rfl rfl (app [(jq2, some (oItem l2))] noStore) (seen_one (V := []) (D := [(in82, some (oItem l2)), (q, some ⟨[[(.slice (some ⟨j2, 0, none⟩) N2 0), (.int .i64 0)]], 2, 115, true⟩), (j2, some (oItem l2)), (jq2, some (oItem l2))]) (by kernel_rfl) (gt3 (by omega) get_here)) (r_iaS (l := kk) rfl rfl rfl rfl rfl rfl (by omega) (by omega) get_here rfl (by omega)) ?_
         refine PQ.pure (dst := (some 208)) (v := (.agg ⟨(cItem (l2.getD kk dItem))⟩)) rfl rfl rfl (app [(jq2, some (oItem l2))] noStore) (seen_one (V := []) (D := [(in82, some (oItem l2)), (q, some ⟨[[(.slice (some ⟨j2, 0, none⟩) N2 0), (.int .i64 0)]], 2, 115, true⟩), (j2, some (oItem l2)), (jq2, some (oItem l2))]) (by kernel_rfl) (gt3 (by omega) get_here)) (r_loadR (c := cItem) dItem rfl rfl rfl rfl get_here (by rw [hl]; omega) rfl) ?_
         refine PQ.pure (dst := (some 209)) (v := (.bool false)) rfl rfl rfl noStore (none_ok _ _) (r_neqA (r := true) rfl rfl rfl (by kernel_rfl) (aeq_self _ _ _ (by kernel_rfl))) ?_
         refine PQ.done (d := []) (by kernel_rfl) ?_
         intro _
         refine RA.condF rfl ?_
         refine RA.skip env_ok ?_
         intro _
         refine RA.region env_ok ?_
         refine OA.p (some 199) (.int .i64 ((kk : Nat) : Int)) rfl rfl rfl rfl ?_
         refine OA.p (some 200) (.int .i64 (((kk + 1) : Nat) : Int)) rfl rfl rfl (r_bin rfl rfl rfl (b_add (i64_eq (by omega)))) ?_
         refine OA.p (some 13) (.int .i64 (((kk + 1) : Nat) : Int)) rfl rfl rfl rfl ?_
         refine OA.nil ?_
         refine ⟨(N2 - (kk + 1)), by omega, [(in82, some (oItem l2)), (q, some ⟨[[(.slice (some ⟨j2, 0, none⟩) N2 0), (.int .i64 0)]], 2, 115, true⟩), (j2, some (oItem l2)), (jq2, some (oItem l2))], (Less.refl _ _ _), ⟨(kk + 1), rfl, by omega, ⟨rfl, rfl, rfl, rfl, rfl, rfl, trivial⟩, rfl, (kb4 (by omega)), by omega⟩⟩
        ·
         refine OA.p (some 198) (.bool false) rfl rfl rfl (Eq.trans (r_bin rfl rfl rfl (b_lss rfl)) (dF hc39)) ?_
         refine OA.nil ?_
         intro _
         refine RA.condF rfl ?_
         refine RA.exit env_ok ?_
         intro _
         refine RA.region env_ok ?_
         refine OA.p (some 26) (.int .i64 ((i : Nat) : Int)) rfl rfl rfl rfl ?_
         refine OA.p (some 27) (.int .i64 (((i + 1) : Nat) : Int)) rfl rfl rfl (r_bin rfl rfl rfl (b_add (i64_eq (by omega)))) ?_
         refine OA.p (some 5) (.int .i64 (((i + 1) : Nat) : Int)) rfl rfl rfl rfl ?_
         refine OA.nil ?_
         refine ⟨(80 - (i + 1)), by omega, [(q, some ⟨[[(.slice (some ⟨j2, 0, none⟩) N2 0), (.int .i64 0)]], 2, 115, true⟩), (j2, some (oItem l2)), (jq2, some (oItem l2))], (Less.of (fac (mm (fun _ => get_here) (fun _ => (get_there (by omega) get_here))) (fac (mm (fun _ => (get_there (by omega) get_here)) (fun _ => (gt2 (by omega) get_here))) (fac (mm (fun _ => (gt2 (by omega) get_here)) (fun _ => (gt3 (by omega) get_here))) fan))) (gone_of (by simp only [goneP, memP, List.cons_append, List.nil_append, true_or, or_true, true_and, and_true, or_false] <;> omega))), .inr (⟨(i + 1), N2, l2, j2, jq2, rfl, by omega, ⟨rfl, rfl, rfl, rfl, trivial⟩, rfl, (kb3 (by omega)), ⟨hl, by omega, by omega, by omega, by omega, by omega, by omega, by omega, by omega, hsz⟩⟩)⟩
    ·
     refine OA.p (some 34) (.bool false) rfl rfl rfl (Eq.trans (r_bin rfl rfl rfl (b_geq rfl)) (dF hc21)) ?_
     refine OA.p (some 35) (.bool false) rfl rfl rfl rfl ?_
     refine OA.off (dst := (some 36)) rfl rfl rfl ?_
     refine OA.off (dst := (some 37)) rfl rfl rfl ?_
     refine OA.off (dst := (some 38)) rfl rfl rfl ?_
     refine OA.off (dst := (some 39)) rfl rfl rfl ?_
     refine OA.off (dst := (some 40)) rfl rfl rfl ?_
     refine OA.p (some 41) (.bool false) rfl rfl rfl rfl ?_
     refine OA.p (some 7) (.bool false) rfl rfl rfl rfl ?_
     refine OA.nil ?_
     intro _
     refine RA.rebase [(0, lv), (3, (Pt q 0 0)), (4, (.slice (some ⟨jq, 0, none⟩) N 0)), (5, (.int .i64 ((i : Nat) : Int))), (6, (Pt n3 0 0)), (7, (.bool false)), (25, (.bool true))] ⟨rfl, rfl, rfl, rfl, rfl, rfl, rfl, trivial⟩ (fun τr85 => ?_)
     refine RA.seq hd (RA.imp (Q := fun x τ' n' D' => x = .normal ∧ ((∃ jq2 : Nat, Has τ' [(0, lv), (3, (Pt q 0 0)), (4, (.slice (some ⟨jq2, 0, none⟩) 0 0)), (5, (.int .i64 ((i : Nat) : Int)))] ∧ (∃ D2, Less n n' D' D2 ∧ D2 = [(q, some ⟨[[(.slice none 0 0), (.int .i64 0)]], 2, 115, true⟩), (jq2, some (oItem ([] : List Item)))]) ∧ (n3 + 1) ≤ n' ∧ (∀ i ∈ keys [(q, some ⟨[[(.slice none 0 0), (.int .i64 0)]], 2, 115, true⟩), (jq2, some (oItem ([] : List Item)))], i < n') ∧ n ≤ jq2 ∧ q ≠ jq2) ∨ (∃ N2 : Nat, ∃ l2 : List Item, ∃ j2 : Nat, ∃ jq2 : Nat, Has τ' [(0, lv), (3, (Pt q 0 0)), (4, (.slice (some ⟨jq2, 0, none⟩) N2 0)), (5, (.int .i64 ((i : Nat) : Int)))] ∧ (∃ D2, Less n n' D' D2 ∧ D2 = [(q, some ⟨[[(.slice (some ⟨j2, 0, none⟩) N2 0), (.int .i64 0)]], 2, 115, true⟩), (j2, some (oItem l2)), (jq2, some (oItem l2))]) ∧ (n3 + 1) ≤ n' ∧ (∀ i ∈ keys [(q, some ⟨[[(.slice (some ⟨j2, 0, none⟩) N2 0), (.int .i64 0)]], 2, 115, true⟩), (j2, some (oItem l2)), (jq2, some (oItem l2))], i < n') ∧ l2.length = N2 ∧ N2 ≤ i + 1 ∧ n ≤ j2 ∧ n ≤ jq2 ∧ q ≠ j2 ∧ q ≠ jq2 ∧ j2 ≠ jq2 ∧ SZ l2))) ?_ ?_)
     ·
      refine RA.seq hd ?_
      refine RA.region env_ok ?_
      refine OA.p (some 42) (Pt n3 0 0) rfl rfl rfl rfl ?_
      refine OA.p (some 43) (.int .i64 a.what) rfl rfl rfl (r_load1 rfl rfl rfl rfl rfl get_here rfl rfl) ?_
      refine OA.p (some 44) (.int .i64 (a.what.tmod 5)) rfl rfl rfl (r_bin rfl rfl rfl (b_rem (by decide) rfl)) ?_
      refine OA.nil ?_
      intro _
      refine RA.block ?_
      refine RA.seq hd ?_
      refine RA.region env_ok ?_
      by_cases hc40 : (a.what.tmod 5) = 2
      ·
       refine OA.p (some 71) (.bool true) rfl rfl rfl (Eq.trans (r_bin rfl rfl rfl (b_eql rfl)) (dT hc40)) ?_
       refine OA.p (some 70) (.bool true) rfl rfl rfl rfl ?_
       refine OA.nil ?_
       intro _
       refine RA.condT rfl ?_
       refine RA.seq hd ?_
       refine RA.region env_ok ?_
       refine OA.p (some 73) (Pt q 0 0) rfl rfl rfl rfl ?_
       refine OA.p (some 74) (Pt n3 0 7) rfl rfl rfl rfl ?_
       refine OA.p (some 75) (.int .i64 a.pos) rfl rfl rfl (r_load1 rfl rfl rfl rfl rfl get_here rfl rfl) ?_
       refine OA.call (dst := (some 76)) (all := [(Pt q 0 0), (.int .i64 a.pos)]) rfl rfl rfl rfl rfl rfl rfl rfl (CQ.imp (nTakeOB (hd.of (by omega) (kb5 (by omega))) q j N a.pos (by omega) (gt2 (by omega) get_here)) ?_)
       rintro _ n86 _ ⟨rfl, rfl⟩ hn86
       refine OA.app0 ?_
       refine OA.p (some 72) (.tuple ⟨[(.agg ⟨(cItem dItem)⟩), (.bool false)]⟩) rfl rfl rfl rfl ?_
       refine OA.p (some 77) (.agg ⟨(cItem dItem)⟩) rfl rfl rfl rfl ?_
       refine OA.p (some 78) (.bool false) rfl rfl rfl rfl ?_
       refine OA.op1 (dst := (some 8)) (v := (Pt n86 0 0)) (n1 := (n86 + 1)) (w := (n86, some ⟨[xNp47], 6, 59, true⟩)) rfl rfl rfl rfl (by omega) ?_
       refine OA.op1 (dst := none) (v := (.tuple #[])) (n1 := (n86 + 1)) (w := (n86, some ⟨[(cItem dItem)], 6, 59, true⟩)) rfl rfl rfl (r_store rfl rfl rfl rfl rfl rfl rfl get_here rfl rfl (Nat.le_of_ble_eq_true rfl) rfl) (by omega) ?_
       refine OA.p (some 9) (.bool false) rfl rfl rfl rfl ?_
       refine OA.nil ?_
       intro _
       refine RA.seq hd ?_
       refine RA.seq hd ?_
       refine RA.par (md := [some [], some [], some [], some [], some [], some [], some [n86], some [], some [], some [n3], some [jq], some [jq], some [], some [], some []]) env_ok (hd.of (by omega) (kb7 (by omega))) (by kernel_rfl) ?_
       refine PQ.pure (dst := (some 79)) (v := (.bool false)) rfl rfl rfl noStore (none_ok _ _) rfl ?_
       refine PQ.pure (dst := (some 80)) (v := (.bool false)) rfl rfl rfl noStore (none_ok _ _) rfl ?_
       refine PQ.pure (dst := (some 81)) (v := (.bool false)) rfl rfl rfl noStore (none_ok _ _) rfl ?_
       refine PQ.pure (dst := (some 82)) (v := (.bool false)) rfl rfl rfl noStore (none_ok _ _) rfl ?_
       refine PQ.pure (dst := (some 83)) (v := (.bool false)) rfl rfl rfl noStore (none_ok _ _) rfl ?_
       refine PQ.pure (dst := (some 84)) (v := (.bool false)) rfl rfl rfl noStore (none_ok _ _) rfl ?_
       refine PQ.off (dst := (some 85)) rfl rfl rfl ?_
       refine PQ.off (dst := (some 86)) rfl rfl rfl ?_
       refine PQ.off (dst := (some 87)) rfl rfl rfl ?_
       refine PQ.off (dst := (some 88)) rfl rfl rfl ?_
       refine PQ.off (dst := (some 89)) rfl rfl rfl ?_
       refine PQ.off (dst := (some 90)) rfl rfl rfl ?_
       refine PQ.off (dst := (some 91)) rfl rfl rfl ?_
       refine PQ.pure (dst := (some 92)) (v := (.bool false)) rfl rfl rfl noStore (none_ok _ _) rfl ?_
       refine PQ.pure (dst := (some 93)) (v := (.bool false)) rfl rfl rfl noStore (none_ok _ _) rfl ?_
       refine PQ.done (d := []) (by kernel_rfl) ?_
       intro _
       refine RA.rebase [(0, lv), (3, (Pt q 0 0)), (4, (.slice (some ⟨jq, 0, none⟩) N 0)), (5, (.int .i64 ((i : Nat) : Int))), (6, (Pt n3 0 0)), (7, (.bool false)), (8, (Pt n86 0 0)), (9, (.bool false)), (25, (.bool true)), (44, (.int .i64 (a.what.tmod 5))), (70, (.bool true)), (93, (.bool false))] ⟨rfl, rfl, rfl, rfl, rfl, rfl, rfl, rfl, rfl, rfl, rfl, rfl, trivial⟩ (fun τr87 => ?_)
       refine RA.condF rfl ?_
       refine RA.skip env_ok ?_
       intro _
       refine RA.seq hd ?_
       refine RA.region env_ok ?_
       refine OA.p (some 94) (.bool false) rfl rfl rfl rfl ?_
       refine OA.nil ?_
       intro _
       refine RA.condF rfl ?_
       refine RA.skip env_ok ?_
       exact ⟨rfl, .inr (⟨N, l, j, jq, ⟨rfl, rfl, rfl, rfl, trivial⟩, ⟨[(q, some ⟨[[(.slice (some ⟨j, 0, none⟩) N 0), (.int .i64 0)]], 2, 115, true⟩), (j, some (oItem l)), (jq, some (oItem l))], (Less.of (fac (mm (fun _ => get_here) (fun _ => (gt4 (by omega) get_here))) (fac (mm (fun _ => (get_there (by omega) get_here)) (fun _ => (gt5 (by omega) get_here))) (fac (mm (fun _ => (gt2 (by omega) get_here)) (fun _ => (gt6 (by omega) get_here))) fan))) (gone_of (by simp only [goneP, memP, List.cons_append, List.nil_append, true_or, or_true, true_and, and_true, or_false] <;> omega))), rfl⟩, by omega, (kb3 (by omega)), ⟨hl, by omega, by omega, by omega, by omega, by omega, by omega, hsz⟩⟩)⟩
      ·
       refine OA.p (some 71) (.bool false) rfl rfl rfl (Eq.trans (r_bin rfl rfl rfl (b_eql rfl)) (dF hc40)) ?_
       refine OA.p (some 70) (.bool false) rfl rfl rfl rfl ?_
       refine OA.nil ?_
       intro _
       refine RA.condF rfl ?_
       refine RA.seq hd ?_
       refine RA.region env_ok ?_
       by_cases hc41 : (a.what.tmod 5) = 3
       ·
        refine OA.p (some 108) (.bool true) rfl rfl rfl (Eq.trans (r_bin rfl rfl rfl (b_eql rfl)) (dT hc41)) ?_
        refine OA.p (some 107) (.bool true) rfl rfl rfl rfl ?_
        refine OA.nil ?_
        intro _
        refine RA.condT rfl ?_
        refine RA.seq hd ?_
        refine RA.seq hd ?_
        refine RA.region env_ok ?_
        refine OA.p (some 109) (Pt q 0 0) rfl rfl rfl rfl ?_
        refine OA.p (some 110) (Pt n3 0 7) rfl rfl rfl rfl ?_
        refine OA.p (some 111) (.int .i64 a.pos) rfl rfl rfl (r_load1 rfl rfl rfl rfl rfl get_here rfl rfl) ?_
        refine OA.call (dst := (some 112)) (all := [(Pt q 0 0), (.int .i64 a.pos)]) rfl rfl rfl rfl rfl rfl rfl rfl (CQ.imp (nDoubleOB (hd.of (by omega) (kb5 (by omega))) q j N a.pos (by omega) (gt2 (by omega) get_here)) ?_)
        rintro _ n88 _ ⟨rfl, rfl⟩ hn88
        refine OA.app0 ?_
        refine OA.p (some 113) (.bool false) rfl rfl rfl rfl ?_
        refine OA.p (some 114) (.bool false) rfl rfl rfl rfl ?_
        refine OA.nil ?_
        intro _
        refine RA.condF rfl ?_
        refine RA.skip env_ok ?_
        intro _
        refine RA.seq hd ?_
        refine RA.region env_ok ?_
        refine OA.p (some 115) (.bool false) rfl rfl rfl rfl ?_
        refine OA.nil ?_
        intro _
        refine RA.condF rfl ?_
        refine RA.skip env_ok ?_
        exact ⟨rfl, .inr (⟨N, l, j, jq, ⟨rfl, rfl, rfl, rfl, trivial⟩, ⟨[(q, some ⟨[[(.slice (some ⟨j, 0, none⟩) N 0), (.int .i64 0)]], 2, 115, true⟩), (j, some (oItem l)), (jq, some (oItem l))], (Less.of (fac (mm (fun _ => get_here) (fun _ => (gt2 (by omega) get_here))) (fac (mm (fun _ => (get_there (by omega) get_here)) (fun _ => (gt3 (by omega) get_here))) (fac (mm (fun _ => (gt2 (by omega) get_here)) (fun _ => (gt4 (by omega) get_here))) fan))) (gone_of (by simp only [goneP, memP, List.cons_append, List.nil_append, true_or, or_true, true_and, and_true, or_false] <;> omega))), rfl⟩, by omega, (kb3 (by omega)), ⟨hl, by omega, by omega, by omega, by omega, by omega, by omega, hsz⟩⟩)⟩
       ·
        refine OA.p (some 108) (.bool false) rfl rfl rfl (Eq.trans (r_bin rfl rfl rfl (b_eql rfl)) (dF hc41)) ?_
        refine OA.p (some 107) (.bool false) rfl rfl rfl rfl ?_
        refine OA.nil ?_
        intro _
        refine RA.condF rfl ?_
        refine RA.seq hd ?_
        refine RA.region env_ok ?_
        by_cases hc42 : (a.what.tmod 5) = 4
        ·
         refine OA.p (some 127) (.bool true) rfl rfl rfl (Eq.trans (r_bin rfl rfl rfl (b_eql rfl)) (dT hc42)) ?_
         refine OA.p (some 126) (.bool true) rfl rfl rfl rfl ?_
         refine OA.nil ?_
         intro _
         refine RA.condT rfl ?_
         refine RA.seq hd ?_
         refine RA.region env_ok ?_
         refine OA.p (some 128) (.bool false) rfl rfl rfl rfl ?_
         refine OA.p (some 129) (.bool false) rfl rfl rfl rfl ?_
         refine OA.off (dst := (some 130)) rfl rfl rfl ?_
         refine OA.off (dst := (some 131)) rfl rfl rfl ?_
         refine OA.off (dst := (some 132)) rfl rfl rfl ?_
         refine OA.off (dst := (some 133)) rfl rfl rfl ?_
         refine OA.off (dst := (some 134)) rfl rfl rfl ?_
         refine OA.off (dst := (some 135)) rfl rfl rfl ?_
         refine OA.off (dst := (some 136)) rfl rfl rfl ?_
         refine OA.p (some 137) (.bool false) rfl rfl rfl rfl ?_
         refine OA.p (some 138) (.bool false) rfl rfl rfl rfl ?_
         refine OA.off (dst := (some 139)) rfl rfl rfl ?_
         refine OA.off (dst := (some 140)) rfl rfl rfl ?_
         refine OA.off (dst := (some 141)) rfl rfl rfl ?_
         refine OA.off (dst := (some 142)) rfl rfl rfl ?_
         refine OA.off (dst := (some 143)) rfl rfl rfl ?_
         refine OA.off (dst := (some 144)) rfl rfl rfl ?_
         refine OA.off (dst := (some 145)) rfl rfl rfl ?_
         refine OA.off (dst := (some 146)) rfl rfl rfl ?_
         refine OA.p (some 147) (.bool false) rfl rfl rfl rfl ?_
         refine OA.p (some 10) (.bool false) rfl rfl rfl rfl ?_
         refine OA.nil ?_
         intro _
         refine RA.rebase [(0, lv), (3, (Pt q 0 0)), (4, (.slice (some ⟨jq, 0, none⟩) N 0)), (5, (.int .i64 ((i : Nat) : Int))), (6, (Pt n3 0 0)), (7, (.bool false)), (10, (.bool false)), (25, (.bool true)), (44, (.int .i64 (a.what.tmod 5))), (70, (.bool false)), (107, (.bool false)), (126, (.bool true))] ⟨rfl, rfl, rfl, rfl, rfl, rfl, rfl, rfl, rfl, rfl, rfl, rfl, trivial⟩ (fun τr89 => ?_)
         refine RA.seq hd ?_
         refine RA.seq hd ?_
         refine RA.region env_ok ?_
         refine OA.p (some 148) (Pt q 0 0) rfl rfl rfl rfl ?_
         refine OA.p (some 149) (Pt n3 0 7) rfl rfl rfl rfl ?_
         refine OA.p (some 150) (.int .i64 a.pos) rfl rfl rfl (r_load1 rfl rfl rfl rfl rfl get_here rfl rfl) ?_
         refine OA.p (some 151) (Pt n3 0 8) rfl rfl rfl rfl ?_
         refine OA.p (some 152) (.int .i64 a.bit) rfl rfl rfl (r_load1 rfl rfl rfl rfl rfl get_here rfl rfl) ?_
         refine OA.call (dst := (some 153)) (all := [(Pt q 0 0), (.int .i64 a.pos), (.int .i64 a.bit)]) rfl rfl rfl rfl rfl rfl rfl rfl (CQ.imp (nBendOB (hd.of (by omega) (kb5 (by omega))) q j N a.pos a.bit (by omega) (gt2 (by omega) get_here)) ?_)
         rintro _ n90 _ ⟨rfl, rfl⟩ hn90
         refine OA.app0 ?_
         refine OA.p (some 154) (.bool false) rfl rfl rfl rfl ?_
         refine OA.p (some 155) (.bool false) rfl rfl rfl rfl ?_
         refine OA.nil ?_
         intro _
         refine RA.condF rfl ?_
         refine RA.skip env_ok ?_
         intro _
         refine RA.seq hd ?_
         refine RA.region env_ok ?_
         refine OA.p (some 156) (.bool false) rfl rfl rfl rfl ?_
         refine OA.nil ?_
         intro _
         refine RA.condF rfl ?_
         refine RA.skip env_ok ?_
         exact ⟨rfl, .inr (⟨N, l, j, jq, ⟨rfl, rfl, rfl, rfl, trivial⟩, ⟨[(q, some ⟨[[(.slice (some ⟨j, 0, none⟩) N 0), (.int .i64 0)]], 2, 115, true⟩), (j, some (oItem l)), (jq, some (oItem l))], (Less.of (fac (mm (fun _ => get_here) (fun _ => (gt2 (by omega) get_here))) (fac (mm (fun _ => (get_there (by omega) get_here)) (fun _ => (gt3 (by omega) get_here))) (fac (mm (fun _ => (gt2 (by omega) get_here)) (fun _ => (gt4 (by omega) get_here))) fan))) (gone_of (by simp only [goneP, memP, List.cons_append, List.nil_append, true_or, or_true, true_and, and_true, or_false] <;> omega))), rfl⟩, by omega, (kb3 (by omega)), ⟨hl, by omega, by omega, by omega, by omega, by omega, by omega, hsz⟩⟩)⟩
        ·
         refine OA.p (some 127) (.bool false) rfl rfl rfl (Eq.trans (r_bin rfl rfl rfl (b_eql rfl)) (dF hc42)) ?_
         refine OA.p (some 126) (.bool false) rfl rfl rfl rfl ?_
         refine OA.nil ?_
         intro _
         refine RA.condF rfl ?_
         refine RA.seq hd ?_
         refine RA.region env_ok ?_
         refine OA.p (some 45) (Pt n3 0 1) rfl rfl rfl rfl ?_
         refine OA.p (some 46) (.agg ⟨[(.int .i64 a.leg), (.int .i64 a.nat), (W a.fr), (W a.to), (.string a.s), (.bool a.bent)]⟩) rfl rfl rfl (r_loadA rfl rfl rfl rfl get_here rfl rfl rfl) ?_
         refine OA.op1 (dst := (some 11)) (v := (.pointer (some ⟨(n3 + 1), 0, some 0⟩))) (n1 := (n3 + 2)) (w := ((n3 + 1), some ⟨[xNp47], 6, 59, true⟩)) rfl rfl rfl rfl (by omega) ?_
         refine OA.op1 (dst := none) (v := (.tuple #[])) (n1 := (n3 + 2)) (w := ((n3 + 1), some ⟨[[(.int .i64 a.leg), (.int .i64 a.nat), (W a.fr), (W a.to), (.string a.s), (.bool a.bent)]], 6, 59, true⟩)) rfl rfl rfl (r_store rfl rfl rfl rfl rfl rfl rfl get_here rfl rfl (Nat.le_of_ble_eq_true rfl) rfl) (by omega) ?_
         refine OA.nil ?_
         intro _
         refine RA.seq hd ?_
         refine RA.region env_ok ?_
         refine OA.p (some 47) (Pt n3 0 1) rfl rfl rfl rfl ?_
         refine OA.p (some 48) (Pt n3 0 3) rfl rfl rfl rfl ?_
         refine OA.p (some 49) (Pt n3 0 5) rfl rfl rfl rfl ?_
         refine OA.p (some 50) (.string a.s) rfl rfl rfl (r_load1 rfl rfl rfl rfl rfl (gt2 (by omega) get_here) rfl rfl) ?_
         refine OA.p (some 51) (Pt n3 0 1) rfl rfl rfl rfl ?_
         refine OA.p (some 52) (Pt n3 0 3) rfl rfl rfl rfl ?_
         refine OA.p (some 53) (Pt n3 0 5) rfl rfl rfl rfl ?_
         refine OA.p (some 54) (.string a.s) rfl rfl rfl (r_load1 rfl rfl rfl rfl rfl (gt2 (by omega) get_here) rfl rfl) ?_
         refine OA.p (some 55) (.int .i64 ((a.s.size : Nat) : Int)) rfl rfl rfl rfl ?_
         refine OA.p (some 56) (.int .i64 (((min a.s.size 10) : Nat) : Int)) rfl rfl rfl (r_min (a := a.s.size) (b := 10) rfl rfl rfl) ?_
         refine OA.p (some 57) (.string (a.s.extract 0 (min a.s.size 10))) rfl rfl rfl (r_cut (a := 0) (b := (min a.s.size 10)) rfl rfl (fun _ => rfl) (fun _ => rfl) rfl rfl rfl bound_nat (by omega) (by omega) rfl) ?_
         refine OA.p (some 58) (.pointer (some ⟨(n3 + 1), 0, some 2⟩)) rfl rfl rfl rfl ?_
         refine OA.p (some 59) (.pointer (some ⟨(n3 + 1), 0, some 4⟩)) rfl rfl rfl rfl ?_
         refine OA.op1 (dst := none) (v := (.tuple #[])) (n1 := (n3 + 2)) (w := ((n3 + 1), some ⟨[(xNp46 a)], 6, 59, true⟩)) rfl rfl rfl (r_store rfl rfl rfl rfl rfl rfl rfl get_here rfl rfl (Nat.le_of_ble_eq_true rfl) rfl) (by omega) ?_
         refine OA.nil ?_
         intro _
         refine RA.weaken (D' := [((n3 + 1), some ⟨[(xNp46 a)], 6, 59, true⟩), (n3, some ⟨[(cAct a)], 9, 67, true⟩), (q, some ⟨[[(.slice (some ⟨j, 0, none⟩) N 0), (.int .i64 0)]], 2, 115, true⟩), (j, some (oItem l)), (jq, some (oItem l))]) hd (Less.of (fac (mm (fun _ => get_here) (fun _ => get_here)) (fac (mm (fun _ => (get_there (by omega) get_here)) (fun _ => (gt3 (by omega) get_here))) (fac (mm (fun _ => (gt2 (by omega) get_here)) (fun _ => (gt5 (by omega) get_here))) (fac (mm (fun _ => (gt3 (by omega) get_here)) (fun _ => (gt6 (by omega) get_here))) (fac (mm (fun _ => (gt4 (by omega) get_here)) (fun _ => (gt7 (by omega) get_here))) fan))))) (gone_of (by simp only [goneP, memP, List.cons_append, List.nil_append, true_or, or_true, true_and, and_true, or_false] <;> omega))) ?_
         refine RA.rebase [(0, lv), (3, (Pt q 0 0)), (4, (.slice (some ⟨jq, 0, none⟩) N 0)), (5, (.int .i64 ((i : Nat) : Int))), (6, (Pt n3 0 0)), (7, (.bool false)), (11, (.pointer (some ⟨(n3 + 1), 0, some 0⟩))), (25, (.bool true)), (44, (.int .i64 (a.what.tmod 5))), (70, (.bool false)), (107, (.bool false)), (126, (.bool false))] ⟨rfl, rfl, rfl, rfl, rfl, rfl, rfl, rfl, rfl, rfl, rfl, rfl, trivial⟩ (fun τr91 => ?_)
         refine RA.seq hd ?_
         refine RA.seq hd ?_
         refine RA.region env_ok ?_
         refine OA.p (some 60) (Pt q 0 0) rfl rfl rfl rfl ?_
         refine OA.p (some 61) (.agg ⟨(xNp46 a)⟩) rfl rfl rfl (r_loadA rfl rfl rfl rfl get_here rfl rfl rfl) ?_
         refine OA.call (dst := (some 62)) (all := (xNp44 q a)) rfl rfl rfl rfl rfl rfl rfl rfl (CQ.imp (nPutB (hd.of (by omega) (kb5 (by omega))) q j N l hl (by omega) (by omega) (Item.mk a.leg a.nat a.fr a.to (a.s.extract 0 (min a.s.size 10)) a.bent) (gt2 (by omega) get_here) (gt3 (by omega) get_here)) ?_)
         rintro _ n92 _ ⟨in92, hin92a, hin92b, rfl, rfl⟩ hn92
         show OA _ _ _ _ _ _ _ _ [(q, some ⟨[[(.slice (some ⟨in92, 0, none⟩) (N + 1) 0), (.int .i64 0)]], 2, 115, true⟩), (in92, some (oItem (l ++ [(Item.mk a.leg a.nat a.fr a.to (a.s.extract 0 (min a.s.size 10)) a.bent)]))), (j, none), ((n3 + 1), some ⟨[(xNp46 a)], 6, 59, true⟩), (n3, some ⟨[(cAct a)], 9, 67, true⟩), (q, some ⟨[[(.slice (some ⟨j, 0, none⟩) N 0), (.int .i64 0)]], 2, 115, true⟩), (j, some (oItem l)), (jq, some (oItem l))] _
         refine OA.p (some 63) (.bool false) rfl rfl rfl rfl ?_
         refine OA.nil ?_
         intro _
         refine RA.condF rfl ?_
         refine RA.skip env_ok ?_
         intro _
         refine RA.par (md := [some [], some [], none, some [(n3 + 1)], some [], none, some []]) env_ok (hd.of (by omega) (kb8 (by omega))) (by kernel_rfl) ?_
         refine PQ.op (dst := (some 64)) (v := (.slice (some ⟨n92, 0, none⟩) 0 0)) (n1 := (n92 + 1)) (d1 := [(n92, some (oItem ([] : List Item)))]) rfl rfl rfl noStore (none_ok _ _) (by kernel_rfl) (by omega) (kp1 (wr_new (by omega) (by omega))) ?_
         refine PQ.pure (dst := (some 65)) (v := (.slice (some ⟨jq, 0, none⟩) N 0)) rfl rfl rfl noStore (none_ok _ _) rfl ?_
         by_cases hc43 : N = 0
         ·
          refine PQ.pure (dst := (some 66)) (v := (.slice (some ⟨n92, 0, none⟩) 0 0)) rfl rfl rfl _ (seen_any (V := [(n92, some (oItem ([] : List Item)))]) (D := [(q, some ⟨[[(.slice (some ⟨in92, 0, none⟩) (N + 1) 0), (.int .i64 0)]], 2, 115, true⟩), (in92, some (oItem (l ++ [(Item.mk a.leg a.nat a.fr a.to (a.s.extract 0 (min a.s.size 10)) a.bent)]))), (j, none), ((n3 + 1), some ⟨[(xNp46 a)], 6, 59, true⟩), (n3, some ⟨[(cAct a)], 9, 67, true⟩), (q, some ⟨[[(.slice (some ⟨j, 0, none⟩) N 0), (.int .i64 0)]], 2, 115, true⟩), (j, some (oItem l)), (jq, some (oItem l))]) (by kernel_rfl)) (r_appendZ rfl rfl rfl rfl (.inl ⟨_, _, _, rfl⟩) rfl rfl rfl rfl rfl (by decide) (by omega)) ?_
          refine PQ.pure (dst := (some 67)) (v := (.agg ⟨(xNp46 a)⟩)) rfl rfl rfl (app [((n3 + 1), some ⟨[(xNp46 a)], 6, 59, true⟩)] noStore) (seen_one (V := []) (D := [(q, some ⟨[[(.slice (some ⟨in92, 0, none⟩) (N + 1) 0), (.int .i64 0)]], 2, 115, true⟩), (in92, some (oItem (l ++ [(Item.mk a.leg a.nat a.fr a.to (a.s.extract 0 (min a.s.size 10)) a.bent)]))), (j, none), ((n3 + 1), some ⟨[(xNp46 a)], 6, 59, true⟩), (n3, some ⟨[(cAct a)], 9, 67, true⟩), (q, some ⟨[[(.slice (some ⟨j, 0, none⟩) N 0), (.int .i64 0)]], 2, 115, true⟩), (j, some (oItem l)), (jq, some (oItem l))]) (by kernel_rfl) (gt3 (by omega) get_here)) (r_loadA rfl rfl rfl rfl get_here rfl rfl rfl) ?_
          refine PQ.op (dst := (some 68)) (v := (.slice (some ⟨(n92 + 1), 0, none⟩) 1 0)) (n1 := (n92 + 2)) (d1 := [((n92 + 1), some ⟨[(xNp46 a)], 6, 59, true⟩)]) rfl rfl rfl noStore (none_ok _ _) (by kernel_rfl) (by omega) (kp1 (wr_new (by omega) (by omega))) ?_
          refine PQ.op (dst := (some 69)) (v := (.slice (some ⟨(n92 + 2), 0, none⟩) 1 0)) (n1 := (n92 + 3)) (d1 := [((n92 + 2), some (oItem [(Item.mk a.leg a.nat a.fr a.to (a.s.extract 0 (min a.s.size 10)) a.bent)])), (n92, none)]) rfl rfl rfl _ (seen_any (V := [((n92 + 1), some ⟨[(xNp46 a)], 6, 59, true⟩), (n92, some (oItem ([] : List Item)))]) (D := [(q, some ⟨[[(.slice (some ⟨in92, 0, none⟩) (N + 1) 0), (.int .i64 0)]], 2, 115, true⟩), (in92, some (oItem (l ++ [(Item.mk a.leg a.nat a.fr a.to (a.s.extract 0 (min a.s.size 10)) a.bent)]))), (j, none), ((n3 + 1), some ⟨[(xNp46 a)], 6, 59, true⟩), (n3, some ⟨[(cAct a)], 9, 67, true⟩), (q, some ⟨[[(.slice (some ⟨j, 0, none⟩) N 0), (.int .i64 0)]], 2, 115, true⟩), (j, some (oItem l)), (jq, some (oItem l))]) (by kernel_rfl)) (r_appendR (c := cItem) (l' := [(Item.mk a.leg a.nat a.fr a.to (a.s.extract 0 (min a.s.size 10)) a.bent)]) rfl rfl rfl rfl rfl rfl rfl rfl rfl rfl (by decide) (get_there (by omega) get_here) get_here (by rw [show ([] : List Item).length = 0 from rfl]) rfl (by omega) (of_decide_eq_true (by kernel_rfl)) (by omega)) (by omega) (kp2 (wr_new (by omega) (by omega)) (wr_tight (by kernel_rfl) (by omega))) ?_
          refine PQ.pure (dst := (some 4)) (v := (.slice (some ⟨(n92 + 2), 0, none⟩) 1 0)) rfl rfl rfl noStore (none_ok _ _) rfl ?_
          refine PQ.done (d := [((n92 + 2), some (oItem [(Item.mk a.leg a.nat a.fr a.to (a.s.extract 0 (min a.s.size 10)) a.bent)])), (n92, none), ((n92 + 1), some ⟨[(xNp46 a)], 6, 59, true⟩), (n92, some (oItem ([] : List Item)))]) (by kernel_rfl) ?_
          exact ⟨rfl, .inr (⟨(N + 1), (l ++ [(Item.mk a.leg a.nat a.fr a.to (a.s.extract 0 (min a.s.size 10)) a.bent)]), in92, (n92 + 2), ⟨rfl, rfl, (congrArg (fun z => Value.slice (some ⟨(n92 + 2), 0, none⟩) z 0) (show 1 = (N + 1) from by omega)), rfl, trivial⟩, ⟨[(q, some ⟨[[(.slice (some ⟨in92, 0, none⟩) (N + 1) 0), (.int .i64 0)]], 2, 115, true⟩), (in92, some (oItem (l ++ [(Item.mk a.leg a.nat a.fr a.to (a.s.extract 0 (min a.s.size 10)) a.bent)]))), ((n92 + 2), some (oItem [(Item.mk a.leg a.nat a.fr a.to (a.s.extract 0 (min a.s.size 10)) a.bent)]))], (Less.of (fac (mm (fun _ => get_here) (fun _ => (gt4 (by omega) get_here))) (fac (mm (fun _ => (get_there (by omega) get_here)) (fun _ => (gt5 (by omega) get_here))) (fac (mm (fun _ => (gt2 (by omega) get_here)) (fun _ => get_here)) fan))) (gone_of (by simp only [goneP, memP, List.cons_append, List.nil_append, true_or, or_true, true_and, and_true, or_false] <;> omega))), (by rw [show ((l ++ [(Item.mk a.leg a.nat a.fr a.to (a.s.extract 0 (min a.s.size 10)) a.bent)]) : List Item) = [(Item.mk a.leg a.nat a.fr a.to (a.s.extract 0 (min a.s.size 10)) a.bent)] from Eq.symm (by first | exact er_last hl (by omega) | exact er_nil hl (by omega) (by omega) | (rw [nil_of hl (by omega)]; done) | (rw [← nil_of hl (by omega)]; rfl))])⟩, by omega, (kb3 (by omega)), ⟨by rw [List.length_append, hl]; rfl, by omega, by omega, by omega, by omega, by omega, by omega, hsz.snoc (cut10 _)⟩⟩)⟩
         ·
          refine PQ.op (dst := (some 66)) (v := (.slice (some ⟨(n92 + 1), 0, none⟩) N 0)) (n1 := (n92 + 2)) (d1 := [((n92 + 1), some (oItem l)), (n92, none)]) rfl rfl rfl _ (seen_any (V := [(n92, some (oItem ([] : List Item)))]) (D := [(q, some ⟨[[(.slice (some ⟨in92, 0, none⟩) (N + 1) 0), (.int .i64 0)]], 2, 115, true⟩), (in92, some (oItem (l ++ [(Item.mk a.leg a.nat a.fr a.to (a.s.extract 0 (min a.s.size 10)) a.bent)]))), (j, none), ((n3 + 1), some ⟨[(xNp46 a)], 6, 59, true⟩), (n3, some ⟨[(cAct a)], 9, 67, true⟩), (q, some ⟨[[(.slice (some ⟨j, 0, none⟩) N 0), (.int .i64 0)]], 2, 115, true⟩), (j, some (oItem l)), (jq, some (oItem l))]) (by kernel_rfl)) (r_appendL (c := cItem) (l' := l) rfl rfl rfl rfl rfl rfl rfl rfl rfl rfl (by decide) get_here (gt8 (by omega) get_here) (by rw [show ([] : List Item).length = 0 from rfl]) (by omega) (by rw [hl]; omega) (by rw [List.nil_append, List.drop_zero, List.take_of_length_le (by omega)]) (by omega) (of_decide_eq_true (by kernel_rfl)) (by omega)) (by omega) (kp2 (wr_new (by omega) (by omega)) (wr_late [3, 4] (by kernel_rfl) (by kernel_rfl) (by omega) 0 (by kernel_rfl) (by simp [keys]) (fac (lo1 rfl (by omega)) (fac (lo0 rfl) fan)))) ?_
          refine PQ.pure (dst := (some 67)) (v := (.agg ⟨(xNp46 a)⟩)) rfl rfl rfl (app [((n3 + 1), some ⟨[(xNp46 a)], 6, 59, true⟩)] noStore) (seen_one (V := []) (D := [(q, some ⟨[[(.slice (some ⟨in92, 0, none⟩) (N + 1) 0), (.int .i64 0)]], 2, 115, true⟩), (in92, some (oItem (l ++ [(Item.mk a.leg a.nat a.fr a.to (a.s.extract 0 (min a.s.size 10)) a.bent)]))), (j, none), ((n3 + 1), some ⟨[(xNp46 a)], 6, 59, true⟩), (n3, some ⟨[(cAct a)], 9, 67, true⟩), (q, some ⟨[[(.slice (some ⟨j, 0, none⟩) N 0), (.int .i64 0)]], 2, 115, true⟩), (j, some (oItem l)), (jq, some (oItem l))]) (by kernel_rfl) (gt3 (by omega) get_here)) (r_loadA rfl rfl rfl rfl get_here rfl rfl rfl) ?_
          refine PQ.op (dst := (some 68)) (v := (.slice (some ⟨(n92 + 2), 0, none⟩) 1 0)) (n1 := (n92 + 3)) (d1 := [((n92 + 2), some ⟨[(xNp46 a)], 6, 59, true⟩)]) rfl rfl rfl noStore (none_ok _ _) (by kernel_rfl) (by omega) (kp1 (wr_new (by omega) (by omega))) ?_
          refine PQ.op (dst := (some 69)) (v := (.slice (some ⟨(n92 + 3), 0, none⟩) (N + 1) 0)) (n1 := (n92 + 4)) (d1 := [((n92 + 3), some (oItem (l ++ [(Item.mk a.leg a.nat a.fr a.to (a.s.extract 0 (min a.s.size 10)) a.bent)]))), ((n92 + 1), none)]) rfl rfl rfl _ (seen_any (V := [((n92 + 2), some ⟨[(xNp46 a)], 6, 59, true⟩), ((n92 + 1), some (oItem l)), (n92, none), (n92, some (oItem ([] : List Item)))]) (D := [(q, some ⟨[[(.slice (some ⟨in92, 0, none⟩) (N + 1) 0), (.int .i64 0)]], 2, 115, true⟩), (in92, some (oItem (l ++ [(Item.mk a.leg a.nat a.fr a.to (a.s.extract 0 (min a.s.size 10)) a.bent)]))), (j, none), ((n3 + 1), some ⟨[(xNp46 a)], 6, 59, true⟩), (n3, some ⟨[(cAct a)], 9, 67, true⟩), (q, some ⟨[[(.slice (some ⟨j, 0, none⟩) N 0), (.int .i64 0)]], 2, 115, true⟩), (j, some (oItem l)), (jq, some (oItem l))]) (by kernel_rfl)) (r_appendR (c := cItem) (l' := (l ++ [(Item.mk a.leg a.nat a.fr a.to (a.s.extract 0 (min a.s.size 10)) a.bent)])) rfl rfl rfl rfl rfl rfl rfl rfl rfl rfl (by decide) (get_there (by omega) get_here) get_here (by rw [hl]) (mp_snoc (c := cItem) (x := (Item.mk a.leg a.nat a.fr a.to (a.s.extract 0 (min a.s.size 10)) a.bent))) (by omega) (of_decide_eq_true (by kernel_rfl)) (by omega)) (by omega) (kp2 (wr_new (by omega) (by omega)) (wr_tight (by kernel_rfl) (by omega))) ?_
          refine PQ.pure (dst := (some 4)) (v := (.slice (some ⟨(n92 + 3), 0, none⟩) (N + 1) 0)) rfl rfl rfl noStore (none_ok _ _) rfl ?_
          refine PQ.done (d := [((n92 + 3), some (oItem (l ++ [(Item.mk a.leg a.nat a.fr a.to (a.s.extract 0 (min a.s.size 10)) a.bent)]))), ((n92 + 1), none), ((n92 + 2), some ⟨[(xNp46 a)], 6, 59, true⟩), ((n92 + 1), some (oItem l)), (n92, none), (n92, some (oItem ([] : List Item)))]) (by kernel_rfl) ?_
          exact ⟨rfl, .inr (⟨(N + 1), (l ++ [(Item.mk a.leg a.nat a.fr a.to (a.s.extract 0 (min a.s.size 10)) a.bent)]), in92, (n92 + 3), ⟨rfl, rfl, rfl, rfl, trivial⟩, ⟨[(q, some ⟨[[(.slice (some ⟨in92, 0, none⟩) (N + 1) 0), (.int .i64 0)]], 2, 115, true⟩), (in92, some (oItem (l ++ [(Item.mk a.leg a.nat a.fr a.to (a.s.extract 0 (min a.s.size 10)) a.bent)]))), ((n92 + 3), some (oItem (l ++ [(Item.mk a.leg a.nat a.fr a.to (a.s.extract 0 (min a.s.size 10)) a.bent)])))], (Less.of (fac (mm (fun _ => get_here) (fun _ => (gt6 (by omega) get_here))) (fac (mm (fun _ => (get_there (by omega) get_here)) (fun _ => (gt7 (by omega) get_here))) (fac (mm (fun _ => (gt2 (by omega) get_here)) (fun _ => get_here)) fan))) (gone_of (by simp only [goneP, memP, List.cons_append, List.nil_append, true_or, or_true, true_and, and_true, or_false] <;> omega))), rfl⟩, by omega, (kb3 (by omega)), ⟨by rw [List.length_append, hl]; rfl, by omega, by omega, by omega, by omega, by omega, by omega, hsz.snoc (cut10 _)⟩⟩)⟩
     ·
      rintro _ τ93 n93 Dn93 hmn93 ⟨rfl, hSn93⟩
      rcases hSn93 with ⟨jq2, hHn93, ⟨_, hLn93, rfl⟩, hn93, hKn93, hIn93⟩ | ⟨N2, l2, j2, jq2, hHn93, ⟨_, hLn93, rfl⟩, hn93, hKn93, hIn93⟩
      ·
       intro _
       refine RA.weaken hd hLn93 ?_
       rw [Has.eq hHn93]
       have hKn93_0 : q < n93 := hKn93 _ (by simp only [keys, List.map_cons, List.map_nil, List.mem_cons, true_or, or_true])
       have hKn93_1 : jq2 < n93 := hKn93 _ (by simp only [keys, List.map_cons, List.map_nil, List.mem_cons, true_or, or_true])
       clear hKn93
       obtain ⟨hjq, hqjq⟩ := hIn93
       refine RA.seq hd ?_
       refine RA.region env_ok ?_
       refine OA.p (some 181) (Pt q 0 0) rfl rfl rfl rfl ?_
       refine OA.callP (dst := (some 182)) (all := [(Pt q 0 0)]) (v := (.slice none 0 0)) (hd.of (by omega) (kb2 (by omega))) rfl rfl rfl rfl rfl rfl rfl rfl (nAllA q get_here) ?_
       intro n94 hn94
       refine OA.p (some 12) (.slice none 0 0) rfl rfl rfl rfl ?_
       refine OA.nil ?_
       intro _
       refine RA.seq hd ?_
       refine RA.seq hd ?_
       refine RA.region env_ok ?_
       refine OA.p (some 183) (.slice none 0 0) rfl rfl rfl rfl ?_
       refine OA.p (some 184) (.int .i64 0) rfl rfl rfl rfl ?_
       refine OA.p (some 185) (.slice (some ⟨jq2, 0, none⟩) 0 0) rfl rfl rfl rfl ?_
       refine OA.p (some 186) (.int .i64 0) rfl rfl rfl rfl ?_
       refine OA.p (some 187) (.bool false) rfl rfl rfl (r_bin rfl rfl rfl (b_neq rfl)) ?_
       refine OA.p (some 188) (.bool false) rfl rfl rfl rfl ?_
       refine OA.p (some 189) (Pt q 0 0) rfl rfl rfl rfl ?_
       refine OA.callP (dst := (some 190)) (all := [(Pt q 0 0)]) (v := (.int .i64 0)) (hd.of (by omega) (kb2 (by omega))) rfl rfl rfl rfl rfl rfl rfl rfl (nLenA q get_here) ?_
       intro n95 hn95
       refine OA.p (some 191) (.slice (some ⟨jq2, 0, none⟩) 0 0) rfl rfl rfl rfl ?_
       refine OA.p (some 192) (.int .i64 0) rfl rfl rfl rfl ?_
       refine OA.p (some 193) (.bool false) rfl rfl rfl (r_bin rfl rfl rfl (b_neq rfl)) ?_
       refine OA.p (some 194) (.bool false) rfl rfl rfl rfl ?_
       refine OA.nil ?_
       intro _
       refine RA.condF rfl ?_
       refine RA.skip env_ok ?_
       intro _
       refine RA.seq hd ?_
       refine RA.region env_ok ?_
       refine OA.p (some 13) (.int .i64 0) rfl rfl rfl rfl ?_
       refine OA.nil ?_
       intro _
       refine RA.block ?_
       refine RA.unroll hd ?_
       refine RA.seq hd ?_
       refine RA.seq hd ?_
       refine RA.region env_ok ?_
       refine OA.p (some 195) (.int .i64 0) rfl rfl rfl rfl ?_
       refine OA.p (some 196) (.slice (some ⟨jq2, 0, none⟩) 0 0) rfl rfl rfl rfl ?_
       refine OA.p (some 197) (.int .i64 0) rfl rfl rfl rfl ?_
       refine OA.p (some 198) (.bool false) rfl rfl rfl (r_bin rfl rfl rfl (b_lss rfl)) ?_
       refine OA.nil ?_
       intro _
       refine RA.condF rfl ?_
       refine RA.exit env_ok ?_
       intro _
       refine RA.region env_ok ?_
       refine OA.p (some 26) (.int .i64 ((i : Nat) : Int)) rfl rfl rfl rfl ?_
       refine OA.p (some 27) (.int .i64 (((i + 1) : Nat) : Int)) rfl rfl rfl (r_bin rfl rfl rfl (b_add (i64_eq (by omega)))) ?_
       refine OA.p (some 5) (.int .i64 (((i + 1) : Nat) : Int)) rfl rfl rfl rfl ?_
       refine OA.nil ?_
       refine ⟨(80 - (i + 1)), by omega, [(q, some ⟨[[(.slice none 0 0), (.int .i64 0)]], 2, 115, true⟩), (jq2, some (oItem ([] : List Item)))], (Less.refl _ _ _), .inl (⟨(i + 1), jq2, rfl, by omega, ⟨rfl, rfl, rfl, rfl, trivial⟩, rfl, (kb2 (by omega)), ⟨by omega, by omega, by omega, by omega⟩⟩)⟩
      ·
       intro _
       refine RA.weaken hd hLn93 ?_
       rw [Has.eq hHn93]
       have hKn93_0 : q < n93 := hKn93 _ (by simp only [keys, List.map_cons, List.map_nil, List.mem_cons, true_or, or_true])
       have hKn93_1 : j2 < n93 := hKn93 _ (by simp only [keys, List.map_cons, List.map_nil, List.mem_cons, true_or, or_true])
       have hKn93_2 : jq2 < n93 := hKn93 _ (by simp only [keys, List.map_cons, List.map_nil, List.mem_cons, true_or, or_true])
       clear hKn93
       obtain ⟨hl, hNi, hj, hjq, hqj, hqjq, hjj, hsz⟩ := hIn93
       refine RA.seq hd ?_
       refine RA.region env_ok ?_
       refine OA.p (some 181) (Pt q 0 0) rfl rfl rfl rfl ?_
       refine OA.call (dst := (some 182)) (all := [(Pt q 0 0)]) rfl rfl rfl rfl rfl rfl rfl rfl (CQ.imp (nAll (hd.of (by omega) (kb3 (by omega))) q j2 N2 l2 hl (by omega) (by omega) get_here (get_there (by omega) get_here)) ?_)
       rintro _ n96 _ ⟨in96, hin96a, hin96b, rfl, rfl⟩ hn96
       refine OA.app1 ?_
       refine OA.p (some 12) (.slice (some ⟨in96, 0, none⟩) N2 0) rfl rfl rfl rfl ?_
       refine OA.nil ?_
       intro _
       refine RA.seq hd ?_
       refine RA.seq hd ?_
       refine RA.region env_ok ?_
       refine OA.p (some 183) (.slice (some ⟨in96, 0, none⟩) N2 0) rfl rfl rfl rfl ?_
       refine OA.p (some 184) (.int .i64 ((N2 : Nat) : Int)) rfl rfl rfl rfl ?_
       refine OA.p (some 185) (.slice (some ⟨jq2, 0, none⟩) N2 0) rfl rfl rfl rfl ?_
       refine OA.p (some 186) (.int .i64 ((N2 : Nat) : Int)) rfl rfl rfl rfl ?_
       refine OA.p (some 187) (.bool false) rfl rfl rfl (r_bin rfl rfl rfl (b_neq (decide_eq_false (fun h => h rfl)))) ?_
       refine OA.p (some 188) (.bool false) rfl rfl rfl rfl ?_
       refine OA.p (some 189) (Pt q 0 0) rfl rfl rfl rfl ?_
       refine OA.callP (dst := (some 190)) (all := [(Pt q 0 0)]) (v := (.int .i64 ((N2 : Nat) : Int))) (hd.of (by omega) (kb4 (by omega))) rfl rfl rfl rfl rfl rfl rfl rfl (nLenB q j2 N2 (get_there (by omega) get_here)) ?_
       intro n97 hn97
       refine OA.p (some 191) (.slice (some ⟨jq2, 0, none⟩) N2 0) rfl rfl rfl rfl ?_
       refine OA.p (some 192) (.int .i64 ((N2 : Nat) : Int)) rfl rfl rfl rfl ?_
       refine OA.p (some 193) (.bool false) rfl rfl rfl (r_bin rfl rfl rfl (b_neq (decide_eq_false (fun h => h rfl)))) ?_
       refine OA.p (some 194) (.bool false) rfl rfl rfl rfl ?_
       refine OA.nil ?_
       intro _
       refine RA.condF rfl ?_
       refine RA.skip env_ok ?_
       intro _
       refine RA.seq hd ?_
       refine RA.region env_ok ?_
       refine OA.p (some 13) (.int .i64 0) rfl rfl rfl rfl ?_
       refine OA.nil ?_
       intro _
       refine RA.block ?_
       refine RA.loop hd (fun kk_ τ n' D => (∃ kk : Nat, kk_ = (N2 - kk) ∧ n97 ≤ n' ∧ Has τ [(0, lv), (3, (Pt q 0 0)), (4, (.slice (some ⟨jq2, 0, none⟩) N2 0)), (5, (.int .i64 ((i : Nat) : Int))), (12, (.slice (some ⟨in96, 0, none⟩) N2 0)), (13, (.int .i64 ((kk : Nat) : Int)))] ∧ D = [(in96, some (oItem l2)), (q, some ⟨[[(.slice (some ⟨j2, 0, none⟩) N2 0), (.int .i64 0)]], 2, 115, true⟩), (j2, some (oItem l2)), (jq2, some (oItem l2))] ∧ (∀ i ∈ keys D, i < n') ∧ kk ≤ N2)) ((N2 - 0)) (⟨0, rfl, by omega, ⟨rfl, rfl, rfl, rfl, rfl, rfl, trivial⟩, rfl, (kb4 (by omega)), by omega⟩) ?_
       rintro kn98 τ98 n98 _ ⟨kk, rfl, hn98, hHn98, rfl, hKn98, hIn98⟩
       rw [Has.eq hHn98]
       have hKn98_0 : in96 < n98 := hKn98 _ (by simp only [keys, List.map_cons, List.map_nil, List.mem_cons, true_or, or_true])
       have hKn98_1 : q < n98 := hKn98 _ (by simp only [keys, List.map_cons, List.map_nil, List.mem_cons, true_or, or_true])
       have hKn98_2 : j2 < n98 := hKn98 _ (by simp only [keys, List.map_cons, List.map_nil, List.mem_cons, true_or, or_true])
       have hKn98_3 : jq2 < n98 := hKn98 _ (by simp only [keys, List.map_cons, List.map_nil, List.mem_cons, true_or, or_true])
       clear hKn98
       refine RA.seq hd ?_
       refine RA.seq hd ?_
       refine RA.region env_ok ?_
       refine OA.p (some 195) (.int .i64 ((kk : Nat) : Int)) rfl rfl rfl rfl ?_
       refine OA.p (some 196) (.slice (some ⟨jq2, 0, none⟩) N2 0) rfl rfl rfl rfl ?_
       refine OA.p (some 197) (.int .i64 ((N2 : Nat) : Int)) rfl rfl rfl rfl ?_
       by_cases hc44 : ((kk : Nat) : Int) < ((N2 : Nat) : Int)
       ·
        refine OA.p (some 198) (.bool true) rfl rfl rfl (Eq.trans (r_bin rfl rfl rfl (b_lss rfl)) (dT hc44)) ?_
        refine OA.nil ?_
        intro _
        refine RA.condT rfl ?_
        refine RA.skip env_ok ?_
        intro _
        refine RA.seq hd ?_
        refine RA.block ?_
        refine RA.seq hd ?_
        refine RA.par (md := [some [], some [], some [in96], some [in96], some [], some [], some [jq2], some [jq2], some []]) env_ok (hd.of (by omega) (kb4 (by omega))) (by kernel_rfl) ?_
        refine PQ.pure (dst := (some 201)) (v := (.slice (some ⟨in96, 0, none⟩) N2 0)) rfl rfl rfl noStore (none_ok _ _) rfl ?_
        refine PQ.pure (dst := (some 202)) (v := (.int .i64 ((kk : Nat) : Int))) rfl rfl rfl noStore (none_ok _ _) rfl ?_
        refine PQ.pure (dst := (some 203)) (v := (Pt in96 kk 0)) rfl rfl rfl (app [(in96, some (oItem l2))] noStore) (seen_one (V := []) (D := [(in96, some (oItem l2)), (q, some ⟨[[(.slice (some ⟨j2, 0, none⟩) N2 0), (.int .i64 0)]], 2, 115, true⟩), (j2, some (oItem l2)), (jq2, some (oItem l2))]) (by kernel_rfl) get_here) (r_iaS (l := kk) rfl rfl rfl rfl rfl rfl (by omega) (by omega) get_here rfl (by omega)) ?_
        refine PQ.pure (dst := (some 204)) (v := (.agg ⟨(cItem (l2.getD kk dItem))⟩)) rfl rfl rfl (app [(in96, some (oItem l2))] noStore) (seen_one (V := []) (D := [(in96, some (oItem l2)), (q, some ⟨[[(.slice (some ⟨j2, 0, none⟩) N2 0), (.int .i64 0)]], 2, 115, true⟩), (j2, some (oItem l2)), (jq2, some (oItem l2))]) (by kernel_rfl) get_here) (r_loadR (c := cItem) dItem rfl rfl rfl rfl get_here (by rw [hl]; omega) rfl) ?_
        refine PQ.pure (dst := (some 205)) (v := (.slice (some ⟨jq2, 0, none⟩) N2 0)) rfl rfl rfl noStore (none_ok _ _) rfl ?_
        refine PQ.pure (dst := (some 206)) (v := (.int .i64 ((kk : Nat) : Int))) rfl rfl rfl noStore (none_ok _ _) rfl ?_
        refine PQ.pure (dst := (some 207)) (v := (Pt jq2 kk 0)) rfl rfl rfl (app [(jq2, some (oItem l2))] noStore) (seen_one (V := []) (D := [(in96, some (oItem l2)), (q, some ⟨[[(.slice (some ⟨j2, 0, none⟩) N2 0), (.int .i64 0)]], 2, 115, true⟩), (j2, some (oItem l2)), (jq2, some (oItem l2))]) (by kernel_rfl) (gt3 (by omega) get_here)) (r_iaS (l := kk) rfl rfl rfl rfl rfl rfl (by omega) (by omega) get_here rfl (by omega)) ?_
        refine PQ.pure (dst := (some 208)) (v := (.agg ⟨(cItem (l2.getD kk dItem))⟩)) rfl rfl rfl (app [(jq2, some (oItem l2))] noStore) (seen_one (V := []) (D := [(in96, some (oItem l2)), (q, some ⟨[[(.slice (some ⟨j2, 0, none⟩) N2 0), (.int .i64 0)]], 2, 115, true⟩), (j2, some (oItem l2)), (jq2, some (oItem l2))]) (by kernel_rfl) (gt3 (by omega) get_here)) (r_loadR (c := cItem) dItem rfl rfl rfl rfl get_here (by rw [hl]; omega) rfl) ?_
        refine PQ.pure (dst := (some 209)) (v := (.bool false)) rfl rfl rfl noStore (none_ok _ _) (r_neqA (r := true) rfl rfl rfl (by kernel_rfl) (aeq_self _ _ _ (by kernel_rfl))) ?_
        refine PQ.done (d := []) (by kernel_rfl) ?_
        intro _
        refine RA.condF rfl ?_
        refine RA.skip env_ok ?_
        intro _
        refine RA.region env_ok ?_
        refine OA.p (some 199) (.int .i64 ((kk : Nat) : Int)) rfl rfl rfl rfl ?_
        refine OA.p (some 200) (.int .i64 (((kk + 1) : Nat) : Int)) rfl rfl rfl (r_bin rfl rfl rfl (b_add (i64_eq (by omega)))) ?_
        refine OA.p (some 13) (.int .i64 (((kk + 1) : Nat) : Int)) rfl rfl rfl rfl ?_
        refine OA.nil ?_
        refine ⟨(N2 - (kk + 1)), by omega, [(in96, some (oItem l2)), (q, some ⟨[[(.slice (some ⟨j2, 0, none⟩) N2 0), (.int .i64 0)]], 2, 115, true⟩), (j2, some (oItem l2)), (jq2, some (oItem l2))], (Less.refl _ _ _), ⟨(kk + 1), rfl, by omega, ⟨rfl, rfl, rfl, rfl, rfl, rfl, trivial⟩, rfl, (kb4 (by omega)), by omega⟩⟩
       ·
        refine OA.p (some 198) (.bool false) rfl rfl rfl (Eq.trans (r_bin rfl rfl rfl (b_lss rfl)) (dF hc44)) ?_
        refine OA.nil ?_
        intro _
        refine RA.condF rfl ?_
        refine RA.exit env_ok ?_
        intro _
        refine RA.region env_ok ?_
        refine OA.p (some 26) (.int .i64 ((i : Nat) : Int)) rfl rfl rfl rfl ?_
        refine OA.p (some 27) (.int .i64 (((i + 1) : Nat) : Int)) rfl rfl rfl (r_bin rfl rfl rfl (b_add (i64_eq (by omega)))) ?_
        refine OA.p (some 5) (.int .i64 (((i + 1) : Nat) : Int)) rfl rfl rfl rfl ?_
        refine OA.nil ?_
        refine ⟨(80 - (i + 1)), by omega, [(q, some ⟨[[(.slice (some ⟨j2, 0, none⟩) N2 0), (.int .i64 0)]], 2, 115, true⟩), (j2, some (oItem l2)), (jq2, some (oItem l2))], (Less.of (fac (mm (fun _ => get_here) (fun _ => (get_there (by omega) get_here))) (fac (mm (fun _ => (get_there (by omega) get_here)) (fun _ => (gt2 (by omega) get_here))) (fac (mm (fun _ => (gt2 (by omega) get_here)) (fun _ => (gt3 (by omega) get_here))) fan))) (gone_of (by simp only [goneP, memP, List.cons_append, List.nil_append, true_or, or_true, true_and, and_true, or_false] <;> omega))), .inr (⟨(i + 1), N2, l2, j2, jq2, rfl, by omega, ⟨rfl, rfl, rfl, rfl, trivial⟩, rfl, (kb3 (by omega)), ⟨hl, by omega, by omega, by omega, by omega, by omega, by omega, by omega, by omega, hsz⟩⟩)⟩
   ·
    refine OA.p (some 24) (.bool false) rfl rfl rfl (Eq.trans (r_bin rfl rfl rfl (b_lss rfl)) (dF hc20)) ?_
    refine OA.p (some 25) (.bool false) rfl rfl rfl rfl ?_
    refine OA.nil ?_
    intro _
    refine RA.condF rfl ?_
    refine RA.exit env_ok ?_
    intro _
    refine RA.seq hd ?_
    refine RA.region env_ok ?_
    refine OA.p (some 210) (Pt q 0 0) rfl rfl rfl rfl ?_
    refine OA.callP (dst := (some 211)) (all := [(Pt q 0 0)]) (v := (.int .i64 0)) (hd.of (by omega) (kb3 (by omega))) rfl rfl rfl rfl rfl rfl rfl rfl (nFullB q j N get_here) ?_
    intro n99 hn99
    refine OA.p (some 212) (.bool true) rfl rfl rfl (r_bin rfl rfl rfl (b_eql rfl)) ?_
    refine OA.p (some 2) (.bool true) rfl rfl rfl rfl ?_
    refine OA.nil ?_
    intro _
    refine RA.ret env_ok ?_
    refine ⟨.inr rfl, [(.bool true)], (resL_cons rfl resL_nil), rfl, (kc3 (by omega))⟩
  ·
   refine OA.p (some 21) (.bool false) rfl rfl rfl (Eq.trans (r_bin rfl rfl rfl (b_lss rfl)) (dF hc19)) ?_
   refine OA.p (some 22) (.bool false) rfl rfl rfl rfl ?_
   refine OA.off (dst := (some 23)) rfl rfl rfl ?_
   refine OA.off (dst := (some 24)) rfl rfl rfl ?_
   refine OA.p (some 25) (.bool false) rfl rfl rfl rfl ?_
   refine OA.nil ?_
   intro _
   refine RA.condF rfl ?_
   refine RA.exit env_ok ?_
   intro _
   refine RA.seq hd ?_
   refine RA.region env_ok ?_
   refine OA.p (some 210) (Pt q 0 0) rfl rfl rfl rfl ?_
   refine OA.callP (dst := (some 211)) (all := [(Pt q 0 0)]) (v := (.int .i64 0)) (hd.of (by omega) (kb3 (by omega))) rfl rfl rfl rfl rfl rfl rfl rfl (nFullB q j N get_here) ?_
   intro n100 hn100
   refine OA.p (some 212) (.bool true) rfl rfl rfl (r_bin rfl rfl rfl (b_eql rfl)) ?_
   refine OA.p (some 2) (.bool true) rfl rfl rfl rfl ?_
   refine OA.nil ?_
   intro _
   refine RA.ret env_ok ?_
   refine ⟨.inr rfl, [(.bool true)], (resL_cons rfl resL_nil), rfl, (kc3 (by omega))⟩
end Go.Proofs.Ytnjknabighmedaa.Vt
