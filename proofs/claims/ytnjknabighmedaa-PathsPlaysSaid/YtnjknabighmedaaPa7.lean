/- Pa7: walks through functions of the program, by the calculus; written by a program of this workplace. -/
import Derived.Test.YtnjknabighmedaaPa6
import Derived.Test.YtnjknabighmedaaVm6
namespace Go.Proofs.Ytnjknabighmedaa.Vt
open Go Go.Proofs Go.Proofs.YtnjknabighmedaaV
set_option maxRecDepth 100000
set_option linter.unusedVariables false
set_option linter.unusedSimpArgs false
theorem drL_pos {l : List Pth} {a b : BitVec 32} {kp f : Int} : 0 < (drL l a b kp f).length := by
  unfold drL
  split
  · exact Nat.zero_lt_one
  · omega
theorem drL_le {l : List Pth} {a b : BitVec 32} {kp f : Int} {K : Nat} (hl : l.length = K) (h : 0 < K) : (drL l a b kp f).length ≤ K := by
  unfold drL
  split
  · exact h
  · unfold stL
    rw [List.length_map]
    exact Nat.le_trans (List.length_filter_le _ _) (by rw [List.length_range, hl]; exact Nat.le_refl _)
def ascI (fs : List Inn) : Prop := fs.Pairwise (fun a b => a.z < b.z)
theorem stL_asc {l : List Pth} {a b : BitVec 32} {kp : Int} {i : Nat} : ascI (stL l a b kp i) := by
  unfold stL ascI
  refine List.Pairwise.map _ (R := fun (a b : Nat) => a < b) (fun a b h => by show ((a : Nat) : Int) < ((b : Nat) : Int); omega) ?_
  exact List.Pairwise.filter _ List.pairwise_lt_range
theorem drL_asc {l : List Pth} {a b : BitVec 32} {kp f : Int} : ascI (drL l a b kp f) := by
  unfold drL
  split
  · exact List.pairwise_singleton _ _
  · exact stL_asc
theorem asc_inj {fs : List Inn} (h : ascI fs) {i j : Nat} (hi : i < fs.length) (hj : j < fs.length) (he : (fs.getD i dInn).z = (fs.getD j dInn).z) : i = j := by
  have h2 := List.pairwise_iff_getElem.1 h
  rw [List.getD_eq_getElem?_getD, List.getD_eq_getElem?_getD, List.getElem?_eq_getElem hi, List.getElem?_eq_getElem hj] at he
  simp only [Option.getD_some] at he
  rcases Nat.lt_trichotomy i j with h3 | h3 | h3
  · have := h2 i j hi hj h3; omega
  · exact h3
  · have := h2 j i hj hi h3; omega
def atP (fs : List Inn) (f k o : Nat) : Prop := (∀ j, j < k → (fs.getD j dInn).z = ((f : Nat) : Int) → j = o) ∧ (o = 0 ∨ (o < k ∧ (fs.getD o dInn).z = ((f : Nat) : Int)))
theorem atP_0 {fs : List Inn} {f : Nat} : atP fs f 0 0 := ⟨fun j h => absurd h (by omega), .inl rfl⟩
theorem atP_y {fs : List Inn} {f k o : Nat} (ha : ascI fs) (hk : k < fs.length) (hz : (fs.getD k dInn).z = ((f : Nat) : Int)) : atP fs f (k + 1) k :=
  ⟨fun j hj hz2 => asc_inj ha (by omega) hk (hz2.trans hz.symm), .inr ⟨by omega, hz⟩⟩
theorem atP_n {fs : List Inn} {f k o : Nat} (hz : ¬ (fs.getD k dInn).z = ((f : Nat) : Int)) (h : atP fs f k o) : atP fs f (k + 1) o := by
  refine ⟨fun j hj hz2 => ?_, h.2.imp_right (fun ⟨a, b⟩ => ⟨by omega, b⟩)⟩
  rcases Nat.lt_or_ge j k with h3 | h3
  · exact h.1 j h3 hz2
  · exact absurd hz2 (by rw [show j = k by omega]; exact hz)
theorem atP_end {fs : List Inn} {f k o : Nat} (hk : fs.length = k) (h : atP fs f k o) : o = atF f fs := by
  subst hk
  unfold atF idxZ
  by_cases h1 : fs.findIdx (eqI ((f : Nat) : Int)) < fs.length
  · rw [if_pos h1, Int.toNat_natCast]
    have h2 := List.findIdx_getElem (p := eqI ((f : Nat) : Int)) (xs := fs) (w := h1)
    refine (h.1 _ h1 ?_).symm
    rw [List.getD_eq_getElem?_getD, List.getElem?_eq_getElem h1]
    exact (of_decide_eq_true h2).symm
  · rw [if_neg h1]
    rcases h.2 with h2 | ⟨h2, h3⟩
    · rw [h2]; rfl
    · exfalso
      apply h1
      refine List.findIdx_lt_length_of_exists ⟨fs.getD o dInn, getD_mem h2, ?_⟩
      exact decide_eq_true h3.symm
theorem atF_lt {fs : List Inn} {f : Nat} (h : 0 < fs.length) : atF f fs < fs.length := by
  unfold atF idxZ
  split
  · rename_i h1; omega
  · exact h
theorem okP_add {l : List Pth} {a b : BitVec 32} (h : okP l) (ha : 1 ≤ a.toNat ∧ a.toNat ≤ 4) (hb : 8 ≤ b.toNat ∧ b.toNat ≤ 11) : okP (l ++ [newP a b]) := by
  intro e he
  rcases List.mem_append.1 he with h1 | h1
  · exact h e h1
  · rw [List.mem_singleton] at h1
    subst h1
    exact ⟨ha.1, ha.2, hb.1, hb.2⟩
theorem okP_rest {l : List Pth} {fs : List Inn} {K : Nat} (hl : l.length = K) (h : okP l) (hf : okI K fs) : okP (restA l fs) := by
  intro e he
  unfold restA at he
  obtain ⟨x, h1, rfl⟩ := List.mem_map.1 he
  have h2 := hf x h1
  exact h _ (getD_mem (by omega))
theorem okP_set {l : List Pth} {i : Nat} {x : Pth} (h : okP l) (hi : i < l.length) (h1 : x.own = (l.getD i dPth).own) (h2 : x.peer = (l.getD i dPth).peer) : okP (l.set i x) := by
  intro e he
  rcases List.mem_or_eq_of_mem_set he with h3 | h3
  · exact h e h3
  · subst h3
    rw [h1, h2]
    exact h _ (getD_mem hi)
theorem set_getD {l : List Pth} {i : Nat} {x : Pth} (hi : i < l.length) : (l.set i x).getD i dPth = x := by
  rw [List.getD_eq_getElem?_getD, List.getElem?_set_self hi]; rfl
theorem eqP_self {x y : Pth} (h1 : y.own = x.own) (h2 : y.peer = x.peer) : eqP y.own y.peer x = true := decide_eq_true ⟨by rw [h1], by rw [h2]⟩
theorem eqP_far {o p : BitVec 32} {x : Pth} (h : p.toNat ≠ x.peer.toNat) : ¬ eqP o p x = true := fun hh => h (by have := of_decide_eq_true hh; omega)
theorem far100 (p : BitVec 32) : (p + 100#32).toNat ≠ p.toNat := by
  rw [BitVec.toNat_add]
  have := p.isLt
  have h3 : (100#32).toNat = 100 := rfl
  omega
theorem small_add (m k : Nat) (h : m ≤ 3) (hk : k ≤ 100) : (BitVec.ofNat 32 m + BitVec.ofNat 32 k).toNat = m + k := by
  rw [BitVec.toNat_add, BitVec.toNat_ofNat, BitVec.toNat_ofNat]
  omega
theorem acts_step : True := trivial
theorem pAddA {n : Nat} {σ : Store} (hd : Dom n σ) (p jp K f : Nat) (l : List Pth) (hl : l.length = K) (hK : K ≤ 1000) (hpj : p ≠ jp) (a b : BitVec 32) (hp : σ p = some ⟨[[(.slice (some ⟨jp, 0, none⟩) K 2), (.int .i64 ((f : Nat) : Int))]], 2, 131, true⟩) (hjp : σ jp = some (oPth l)) (h : 0 ≤ idxZ (eqP a b) l ∨ 8 ≤ K) : CQ Try.prog noDen 54 [(Pt p 0 0), (W a), (W b)] n σ (fun v n' d => ∃ jn, n ≤ jn ∧ jn < n' ∧ v = .int .i64 (idxZ (eqP a b) l) ∧ d = [(p, some ⟨[[(.slice (some ⟨jn, 0, none⟩) K 2), (.int .i64 ((f : Nat) : Int))]], 2, 131, true⟩), (jn, some (oPth l)), (jp, none)]) := by
  refine CQ.imp (pAdd hd p jp K ((f : Nat) : Int) l hl hK hpj a b hp hjp) ?_
  rintro v n' d ⟨jn, h1, h2, K', h3, h4, rfl, rfl⟩
  have hb := idx_lb (p := eqP a b) (l := l)
  have e : addL a b l = l := by unfold addL; split; rfl; rw [if_pos (by omega)]
  have e2 : addV a b l = idxZ (eqP a b) l := by unfold addV; split; rfl; rw [if_pos (by omega)]; omega
  have e3 : K' = K := by rw [← h3, e, hl]
  exact ⟨jn, h1, h2, by rw [e2], by rw [e, e3]⟩

theorem pAddB {n : Nat} {σ : Store} (hd : Dom n σ) (p jp K f : Nat) (l : List Pth) (hl : l.length = K) (hK : K ≤ 1000) (hpj : p ≠ jp) (a b : BitVec 32) (hp : σ p = some ⟨[[(.slice (some ⟨jp, 0, none⟩) K 2), (.int .i64 ((f : Nat) : Int))]], 2, 131, true⟩) (hjp : σ jp = some (oPth l)) (h : idxZ (eqP a b) l < 0) (h8 : K < 8) : CQ Try.prog noDen 54 [(Pt p 0 0), (W a), (W b)] n σ (fun v n' d => ∃ jn, n ≤ jn ∧ jn < n' ∧ v = .int .i64 ((K : Nat) : Int) ∧ d = [(p, some ⟨[[(.slice (some ⟨jn, 0, none⟩) (K + 1) 2), (.int .i64 ((f : Nat) : Int))]], 2, 131, true⟩), (jn, some (oPth (l ++ [newP a b]))), (jp, none)]) := by
  refine CQ.imp (pAdd hd p jp K ((f : Nat) : Int) l hl hK hpj a b hp hjp) ?_
  rintro v n' d ⟨jn, h1, h2, K', h3, h4, rfl, rfl⟩
  have e : addL a b l = l ++ [newP a b] := by unfold addL; rw [if_neg (by omega), if_neg (by omega)]
  have e2 : addV a b l = (l.length : Int) := by unfold addV; rw [if_neg (by omega), if_neg (by omega)]
  have e3 : K' = K + 1 := by rw [← h3, e, List.length_append, hl]; rfl
  exact ⟨jn, h1, h2, by rw [e2, hl], by rw [e, e3]⟩

theorem pChooseY {n : Nat} {σ : Store} (hd : Dom n σ) (p jp K f : Nat) (x : Int) (hp : σ p = some ⟨[[(.slice (some ⟨jp, 0, none⟩) K 2), (.int .i64 ((f : Nat) : Int))]], 2, 131, true⟩) (h : 0 ≤ x ∧ x < ((K : Nat) : Int)) : CQ Try.prog noDen 57 [(Pt p 0 0), (.int .i64 x)] n σ (fun v n' d => v = .bool true ∧ d = [(p, some ⟨[[(.slice (some ⟨jp, 0, none⟩) K 2), (.int .i64 ((x.toNat : Nat) : Int))]], 2, 131, true⟩)]) := by
  refine CQ.imp (pChoose hd p jp K ((f : Nat) : Int) x hp) ?_
  rintro v n' d ⟨rfl, h1⟩
  refine ⟨by rw [decide_eq_true h], ?_⟩
  rcases h1 with ⟨_, rfl⟩ | ⟨h2, _⟩
  · rw [show ((x.toNat : Nat) : Int) = x by omega]
  · exact absurd h h2

theorem pChooseN {n : Nat} {σ : Store} (hd : Dom n σ) (p jp K f : Nat) (x : Int) (hp : σ p = some ⟨[[(.slice (some ⟨jp, 0, none⟩) K 2), (.int .i64 ((f : Nat) : Int))]], 2, 131, true⟩) (h : ¬ (0 ≤ x ∧ x < ((K : Nat) : Int))) : CQ Try.prog noDen 57 [(Pt p 0 0), (.int .i64 x)] n σ (fun v n' d => v = .bool false ∧ d = []) := by
  refine CQ.imp (pChoose hd p jp K ((f : Nat) : Int) x hp) ?_
  rintro v n' d ⟨rfl, h1⟩
  refine ⟨by rw [decide_eq_false h], ?_⟩
  rcases h1 with ⟨h2, _⟩ | ⟨_, rfl⟩
  · exact absurd h2 h
  · rfl

theorem pSetY {n : Nat} {σ : Store} (hd : Dom n σ) (p jp K f : Nat) (l : List Pth) (hl : l.length = K) (hK : K ≤ 1000) (i : Nat) (hi : i < K) (x : Pth) (hp : σ p = some ⟨[[(.slice (some ⟨jp, 0, none⟩) K 2), (.int .i64 ((f : Nat) : Int))]], 2, 131, true⟩) (hjp : σ jp = some (oPth l)) (h : eqP x.own x.peer (l.getD i dPth) = true) : CQ Try.prog noDen 58 [(Pt p 0 0), (.int .i64 ((i : Nat) : Int)), (.agg ⟨(cPth x)⟩)] n σ (fun v n' d => v = .bool true ∧ d = [(jp, some (oPth (l.set i x)))]) := by
  refine CQ.imp (pSet hd p jp K ((f : Nat) : Int) l hl hK i hi x hp hjp) ?_
  rintro v n' d ⟨rfl, h1⟩
  refine ⟨by rw [h], ?_⟩
  rcases h1 with ⟨_, rfl⟩ | ⟨h2, _⟩
  · rfl
  · exact absurd h h2

theorem pSetX {n : Nat} {σ : Store} (hd : Dom n σ) (p jp K f : Nat) (l : List Pth) (hl : l.length = K) (hK : K ≤ 1000) (i : Nat) (hi : i < K) (x : Pth) (hp : σ p = some ⟨[[(.slice (some ⟨jp, 0, none⟩) K 2), (.int .i64 ((f : Nat) : Int))]], 2, 131, true⟩) (hjp : σ jp = some (oPth l)) (h : ¬ eqP x.own x.peer (l.getD i dPth) = true) : CQ Try.prog noDen 58 [(Pt p 0 0), (.int .i64 ((i : Nat) : Int)), (.agg ⟨(cPth x)⟩)] n σ (fun v n' d => v = .bool false ∧ d = []) := by
  refine CQ.imp (pSet hd p jp K ((f : Nat) : Int) l hl hK i hi x hp hjp) ?_
  rintro v n' d ⟨rfl, h1⟩
  refine ⟨by rw [Bool.eq_false_iff.2 h], ?_⟩
  rcases h1 with ⟨h2, _⟩ | ⟨_, rfl⟩
  · exact absurd h2 h
  · rfl

theorem pDropR2 {n : Nat} {σ : Store} (hd : Dom n σ) (j N : Nat) (l : List Pth) (hl : l.length = N) (hN : N ≤ 1000) (a b : BitVec 32) (kp f : Int) (M : Nat) (hM : (drL l a b kp f).length = M) (hj : σ j = some (oPth l)) : CQ Try.prog noDen 55 [(.slice (some ⟨j, 0, none⟩) N 2), (W a), (W b), (.int .i64 kp), (.int .i64 f)] n σ (fun v n' d => ∃ i, n ≤ i ∧ i < n' ∧ v = .slice (some ⟨i, 0, none⟩) M 2 ∧ d = [(i, some (oInn (drL l a b kp f)))]) := by
  refine CQ.val (pDropR hd j N l hl hN a b kp f hj) ?_
  rintro v n' d ⟨i, h1, h2, M', h3, h4, h5, rfl⟩
  exact ⟨_, h5, i, h1, h2, by rw [← hM, h3], rfl⟩

theorem pDrop2 {n : Nat} {σ : Store} (hd : Dom n σ) (p jp K f : Nat) (l : List Pth) (hl : l.length = K) (hK : K ≤ 1000) (hpj : p ≠ jp) (hf : f < K) (a b : BitVec 32) (kp : Int) (M : Nat) (hM : (drL l a b kp ((f : Nat) : Int)).length = M) (hp : σ p = some ⟨[[(.slice (some ⟨jp, 0, none⟩) K 2), (.int .i64 ((f : Nat) : Int))]], 2, 131, true⟩) (hjp : σ jp = some (oPth l)) : CQ Try.prog noDen 56 [(Pt p 0 0), (W a), (W b), (.int .i64 kp)] n σ (fun v n' d => ∃ i j, n ≤ i ∧ i < n' ∧ n ≤ j ∧ j < n' ∧ i ≠ j ∧ v = .slice (some ⟨i, 0, none⟩) M 2 ∧ d = [(p, some ⟨[[(.slice (some ⟨j, 0, none⟩) M 2), (.int .i64 (((atF f (drL l a b kp ((f : Nat) : Int))) : Nat) : Int))]], 2, 131, true⟩), (i, some (oInn (drL l a b kp ((f : Nat) : Int)))), (j, some (oPth (restA l (drL l a b kp ((f : Nat) : Int)))))]) := by
  refine CQ.val (pDrop hd p jp K f l hl hK hpj hf a b kp hp hjp) ?_
  rintro v n' d ⟨i, j, h1, h2, h3, h4, h5, M', h6, h7, h8, rfl⟩
  rw [hM] at h6
  exact ⟨_, h8, i, j, h1, h2, h3, h4, h5, by rw [h6], by rw [h6]⟩

theorem awakeP {σ : Store} : PS Try.prog noDen 52 [] σ (.bool true) := PS.closed env_ok rfl (F := 300) (k := 60) (by kernel_rfl) rfl rfl
end Go.Proofs.Ytnjknabighmedaa.Vt
