/- Dp4: walks through functions of the program, by the calculus; written by a program of this workplace. -/
import Derived.Test.YtmepflkodjdgdaaDp3
import Derived.Test.YtmepflkodjdgdaaVm6
namespace Go.Proofs.Ytmepflkodjdgdaa.Vt
open Go Go.Proofs Go.Proofs.YtmepflkodjdgdaaV
set_option maxRecDepth 100000
set_option linter.unusedVariables false
set_option linter.unusedSimpArgs false
theorem pPutL {n : Nat} {σ : Store} (hd : Dom n σ) (s jn jw jo t NX K M : Nat) (nx : List Ux) (ws L2 : List Msg) (hnx : nx.length = NX) (hws : ws.length = K) (hL2 : L2.length = M) (ht : t < NX) (hK : K ≤ 900) (hM : M ≤ 1000) (h1 : s ≠ jn) (h2 : s ≠ jw) (h3 : jn ≠ jw) (h4 : s ≠ jo) (h5 : jn ≠ jo) (h6 : jw ≠ jo) (m : Msg) (hmt : m.st = ((t : Nat) : Int)) (hlo : m.loose = true) (hrj : True) (hs : σ s = some ⟨[[(.slice (some ⟨jn, 0, none⟩) NX 0), (.slice (some ⟨jw, 0, none⟩) K 2), (.slice (some ⟨jo, 0, none⟩) M 2)]], 3, 101, true⟩) (hjn : σ jn = some (oUx nx)) (hjw : σ jw = some (oMsg ws)) (hjo : σ jo = some (oMsg L2)) : CQ Try.prog noDen 14 [(Pt s 0 0), (.agg ⟨(cMsg m)⟩)] n σ (fun v n' d => ∃ jo2, n ≤ jo2 ∧ jo2 < n' ∧ v = .bool true ∧ d = [(s, some ⟨[[(.slice (some ⟨jn, 0, none⟩) NX 0), (.slice (some ⟨jw, 0, none⟩) K 2), (.slice (some ⟨jo2, 0, none⟩) (M + 1) 2)]], 3, 101, true⟩), (jo2, some (oMsg (L2 ++ [m]))), (jo, none)]) := by
  obtain ⟨st, ssn, lo, pr, da⟩ := m
  dsimp only at hmt hlo hrj
  subst hmt; subst hlo
  exact pPutL0 hd s jn jo t NX M L2 hL2 ht (by omega) h4 _ rfl ssn pr da hs hjo

theorem pPutR {n : Nat} {σ : Store} (hd : Dom n σ) (s jn jw jo t NX K M : Nat) (nx : List Ux) (ws L2 : List Msg) (hnx : nx.length = NX) (hws : ws.length = K) (hL2 : L2.length = M) (ht : t < NX) (hK : K ≤ 900) (hM : M ≤ 1000) (h1 : s ≠ jn) (h2 : s ≠ jw) (h3 : jn ≠ jw) (h4 : s ≠ jo) (h5 : jn ≠ jo) (h6 : jw ≠ jo) (m : Msg) (hmt : m.st = ((t : Nat) : Int)) (hlo : m.loose = false) (hrj : less16 (u16N m.ssn) (nx.getD t dUx).z ∨ ws.any (qq ((t : Nat) : Int) (u16N m.ssn)) = true) (hs : σ s = some ⟨[[(.slice (some ⟨jn, 0, none⟩) NX 0), (.slice (some ⟨jw, 0, none⟩) K 2), (.slice (some ⟨jo, 0, none⟩) M 2)]], 3, 101, true⟩) (hjn : σ jn = some (oUx nx)) (hjw : σ jw = some (oMsg ws)) (hjo : σ jo = some (oMsg L2)) : CQ Try.prog noDen 14 [(Pt s 0 0), (.agg ⟨(cMsg m)⟩)] n σ (fun v n' d => v = .bool false ∧ d = []) := by
  obtain ⟨st, ssn, lo, pr, da⟩ := m
  dsimp only at hmt hlo hrj
  subst hmt; subst hlo
  exact pPutR0 hd s jn jw t NX K nx ws hnx hws ht (by omega) _ rfl ssn pr da hrj hs hjn hjw

theorem pPutT {n : Nat} {σ : Store} (hd : Dom n σ) (s jn jw jo t NX K M : Nat) (nx : List Ux) (ws L2 : List Msg) (hnx : nx.length = NX) (hws : ws.length = K) (hL2 : L2.length = M) (ht : t < NX) (hK : K ≤ 900) (hM : M ≤ 1000) (h1 : s ≠ jn) (h2 : s ≠ jw) (h3 : jn ≠ jw) (h4 : s ≠ jo) (h5 : jn ≠ jo) (h6 : jw ≠ jo) (m : Msg) (hmt : m.st = ((t : Nat) : Int)) (hlo : m.loose = false) (hrj : ¬ (less16 (u16N m.ssn) (nx.getD t dUx).z ∨ ws.any (qq ((t : Nat) : Int) (u16N m.ssn)) = true)) (R : Nat × List Msg × List Msg) (hR : goS ((t : Nat) : Int) (K + 1) (nx.getD t dUx).z (ws ++ [m]) L2 = R) (K2 M2 : Nat) (hk2 : R.2.1.length = K2) (hm2 : R.2.2.length = M2) (hs : σ s = some ⟨[[(.slice (some ⟨jn, 0, none⟩) NX 0), (.slice (some ⟨jw, 0, none⟩) K 2), (.slice (some ⟨jo, 0, none⟩) M 2)]], 3, 101, true⟩) (hjn : σ jn = some (oUx nx)) (hjw : σ jw = some (oMsg ws)) (hjo : σ jo = some (oMsg L2)) : CQ Try.prog noDen 14 [(Pt s 0 0), (.agg ⟨(cMsg m)⟩)] n σ (fun v n' d => ∃ jw2 jo2, n ≤ jw2 ∧ jw2 < n' ∧ n ≤ jo2 ∧ jo2 < n' ∧ jw2 ≠ jo2 ∧ K2 + M2 = K + 1 + M ∧ v = .bool true ∧ d = [(s, some ⟨[[(.slice (some ⟨jn, 0, none⟩) NX 0), (.slice (some ⟨jw2, 0, none⟩) K2 2), (.slice (some ⟨jo2, 0, none⟩) M2 2)]], 3, 101, true⟩), (jn, some (oUx (nx.set t (Ux.mk R.1)))), (jw2, some (oMsg R.2.1)), (jo2, some (oMsg R.2.2)), (jw, none), (jo, none)]) := by
  obtain ⟨st, ssn, lo, pr, da⟩ := m
  dsimp only at hmt hlo hrj
  subst hmt; subst hlo
  refine CQ.imp (pPutT0 hd s jn jw jo t NX K M nx ws L2 hnx hws hL2 ht hK (by omega) h1 h2 h3 h4 h5 h6 ssn pr da hrj R hR hs hjn hjw hjo) ?_
  rintro v n' d ⟨jw2, jo2, a1, a2, a3, a4, a5, K3, M3, a6, a7, a8, rfl, rfl⟩
  have e1 : K3 = K2 := a6.symm.trans hk2
  have e2 : M3 = M2 := a7.symm.trans hm2
  subst e1; subst e2
  exact ⟨jw2, jo2, a1, a2, a3, a4, a5, a8, rfl, rfl⟩

theorem rPutL {n : Nat} {σ : Store} (hd : Dom n σ) (jx jv ju t NX K M : Nat) (nx : List Ux) (ws L2 : List Msg) (hnx : nx.length = NX) (hxb : (nx.getD t dUx).z < 65536) (hws : ws.length = K) (hL2 : L2.length = M) (ht : t < NX) (hN : NX ≤ 1000) (hK : K ≤ 900) (hM : M ≤ 1000) (m : Msg) (hmt : m.st = ((t : Nat) : Int)) (hlo : m.loose = true) (hrj : True) (hjx : σ jx = some (oIn (nx.map uI))) (hjv : σ jv = some (oMsg ws)) (hju : σ ju = some (oMsg L2)) : CQ Try.prog noDen 18 [(.agg ⟨[(.slice (some ⟨jx, 0, none⟩) NX 0), (.slice (some ⟨jv, 0, none⟩) K 2), (.slice (some ⟨ju, 0, none⟩) M 2)]⟩), (.agg ⟨(cMsg m)⟩)] n σ (fun v n' d => ∃ ju2, n ≤ ju2 ∧ ju2 < n' ∧ v = .tuple #[(.agg ⟨[(.slice (some ⟨jx, 0, none⟩) NX 0), (.slice (some ⟨jv, 0, none⟩) K 2), (.slice (some ⟨ju2, 0, none⟩) (M + 1) 2)]⟩), .bool true] ∧ d = [(ju2, some (oMsg (L2 ++ [m])))]) := by
  obtain ⟨st, ssn, lo, pr, da⟩ := m
  dsimp only at hmt hlo hrj
  subst hmt; subst hlo
  exact rPutL0 hd jx jv ju t NX K M L2 hL2 ht (by omega) ssn pr da hju

theorem rPutR {n : Nat} {σ : Store} (hd : Dom n σ) (jx jv ju t NX K M : Nat) (nx : List Ux) (ws L2 : List Msg) (hnx : nx.length = NX) (hxb : (nx.getD t dUx).z < 65536) (hws : ws.length = K) (hL2 : L2.length = M) (ht : t < NX) (hN : NX ≤ 1000) (hK : K ≤ 900) (hM : M ≤ 1000) (m : Msg) (hmt : m.st = ((t : Nat) : Int)) (hlo : m.loose = false) (hrj : less16 (u16N m.ssn) (nx.getD t dUx).z ∨ ws.any (qq ((t : Nat) : Int) (u16N m.ssn)) = true) (hjx : σ jx = some (oIn (nx.map uI))) (hjv : σ jv = some (oMsg ws)) (hju : σ ju = some (oMsg L2)) : CQ Try.prog noDen 18 [(.agg ⟨[(.slice (some ⟨jx, 0, none⟩) NX 0), (.slice (some ⟨jv, 0, none⟩) K 2), (.slice (some ⟨ju, 0, none⟩) M 2)]⟩), (.agg ⟨(cMsg m)⟩)] n σ (fun v n' d => v = .tuple #[(.agg ⟨[(.slice (some ⟨jx, 0, none⟩) NX 0), (.slice (some ⟨jv, 0, none⟩) K 2), (.slice (some ⟨ju, 0, none⟩) M 2)]⟩), .bool false] ∧ d = []) := by
  obtain ⟨st, ssn, lo, pr, da⟩ := m
  dsimp only at hmt hlo hrj
  subst hmt; subst hlo
  exact rPutR0 hd jx jv ju t NX K M nx ws L2 hnx hxb hws hL2 ht hN hK (by omega) ssn pr da hrj hjx hjv

theorem rPutT {n : Nat} {σ : Store} (hd : Dom n σ) (jx jv ju t NX K M : Nat) (nx : List Ux) (ws L2 : List Msg) (hnx : nx.length = NX) (hxb : (nx.getD t dUx).z < 65536) (hws : ws.length = K) (hL2 : L2.length = M) (ht : t < NX) (hN : NX ≤ 1000) (hK : K ≤ 900) (hM : M ≤ 1000) (m : Msg) (hmt : m.st = ((t : Nat) : Int)) (hlo : m.loose = false) (hrj : ¬ (less16 (u16N m.ssn) (nx.getD t dUx).z ∨ ws.any (qq ((t : Nat) : Int) (u16N m.ssn)) = true)) (R : Nat × List Msg × List Msg) (hR : goS ((t : Nat) : Int) (K + 1) (nx.getD t dUx).z (ws ++ [m]) L2 = R) (K2 M2 : Nat) (hk2 : R.2.1.length = K2) (hm2 : R.2.2.length = M2) (hjx : σ jx = some (oIn (nx.map uI))) (hjv : σ jv = some (oMsg ws)) (hju : σ ju = some (oMsg L2)) : CQ Try.prog noDen 18 [(.agg ⟨[(.slice (some ⟨jx, 0, none⟩) NX 0), (.slice (some ⟨jv, 0, none⟩) K 2), (.slice (some ⟨ju, 0, none⟩) M 2)]⟩), (.agg ⟨(cMsg m)⟩)] n σ (fun v n' d => ∃ jx2 jv2 ju2, n ≤ jx2 ∧ jx2 < n' ∧ n ≤ jv2 ∧ jv2 < n' ∧ n ≤ ju2 ∧ ju2 < n' ∧ jx2 ≠ jv2 ∧ jx2 ≠ ju2 ∧ jv2 ≠ ju2 ∧ K2 + M2 = K + 1 + M ∧ v = .tuple #[(.agg ⟨[(.slice (some ⟨jx2, 0, none⟩) NX 0), (.slice (some ⟨jv2, 0, none⟩) K2 2), (.slice (some ⟨ju2, 0, none⟩) M2 2)]⟩), .bool true] ∧ d = [(jx2, some (oIn ((nx.set t (Ux.mk R.1)).map uI))), (jv2, some (oMsg R.2.1)), (ju2, some (oMsg R.2.2)), (ju, none)]) := by
  obtain ⟨st, ssn, lo, pr, da⟩ := m
  dsimp only at hmt hlo hrj
  subst hmt; subst hlo
  refine CQ.imp (rPutT0 hd jx jv ju t NX K M nx ws L2 hnx hxb hws hL2 ht hN hK (by omega) ssn pr da hrj R hR hjx hjv hju) ?_
  rintro v n' d ⟨jx2, jv2, ju2, a1, a2, a3, a4, a5, b1, b2, b3, b4, K3, M3, a6, a7, a8, rfl, rfl⟩
  have e1 : K3 = K2 := a6.symm.trans hk2
  have e2 : M3 = M2 := a7.symm.trans hm2
  subst e1; subst e2
  exact ⟨jx2, jv2, ju2, a1, a2, a3, a4, a5, b1, b2, b3, b4, a8, rfl, rfl⟩

theorem awakeDp {σ : Store} : PS Try.prog noDen 16 [] σ (.bool true) := PS.closed env_ok rfl (F := 200) (k := 60) (by kernel_rfl) rfl rfl
end Go.Proofs.Ytmepflkodjdgdaa.Vt
