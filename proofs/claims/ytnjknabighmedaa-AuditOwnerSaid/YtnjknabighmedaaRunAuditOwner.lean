/- The pure part of AuditOwner. -/
import Derived.Test.YtnjknabighmedaaAo3
namespace Go.Proofs.Ytnjknabighmedaa.Vt
open Go Go.Proofs Go.Proofs.YtnjknabighmedaaV
theorem wf_word {b : Int} (h : (Lit.int .u32 b).wf = true) : ∃ x : BitVec 32, b = ((x.toNat : Nat) : Int) := by
  have h2 : 0 ≤ b ∧ b < 4294967296 := by
    simp [Lit.wf, IntKind.min, IntKind.max, IntKind.signed, IntKind.bits] at h
    omega
  exact ⟨BitVec.ofNat 32 b.toNat, by rw [BitVec.toNat_ofNat]; omega⟩
theorem wf_byte {b : Int} (h : (Lit.int .u8 b).wf = true) : ∃ c : UInt8, b = ((c.toNat : Nat) : Int) := by
  have h2 : 0 ≤ b ∧ b < 256 := by
    simp [Lit.wf, IntKind.min, IntKind.max, IntKind.signed, IntKind.bits] at h
    omega
  exact ⟨UInt8.ofNat b.toNat, by simp [UInt8.toNat_ofNat']; omega⟩
theorem wf_i64 {b : Int} (h : (Lit.int .i64 b).wf = true) : -9223372036854775808 ≤ b ∧ b ≤ 9223372036854775807 := by
  simp [Lit.wf, IntKind.min, IntKind.max, IntKind.signed, IntKind.bits] at h
  omega
theorem rowsPrm {σ : Store} : ∀ {es : List (List Value)}, (∀ x ∈ es, g143.G σ x) → ∃ l : List Prm, es = l.map cPrm
  | [], _ => ⟨[], rfl⟩
  | x :: es, h => by
    obtain ⟨l, rfl⟩ := rowsPrm (es := es) (fun y hy => h y (List.mem_cons_of_mem _ hy))
    obtain ⟨_, _, rfl, ⟨a0, rfl, w0⟩, _, _, rfl, ⟨a1, rfl, w1⟩, rfl⟩ := h x (List.mem_cons_self ..)
    exact ⟨⟨a0, a1⟩ :: l, rfl⟩
theorem rowsCau {σ : Store} : ∀ {es : List (List Value)}, (∀ x ∈ es, g145.G σ x) → ∃ l : List Cau, es = l.map cCau
  | [], _ => ⟨[], rfl⟩
  | x :: es, h => by
    obtain ⟨l, rfl⟩ := rowsCau (es := es) (fun y hy => h y (List.mem_cons_of_mem _ hy))
    obtain ⟨_, _, rfl, ⟨a0, rfl, w0⟩, _, _, rfl, ⟨a1, rfl, w1⟩, rfl⟩ := h x (List.mem_cons_self ..)
    exact ⟨⟨a0, a1⟩ :: l, rfl⟩
theorem rowsGp {σ : Store} : ∀ {es : List (List Value)}, (∀ x ∈ es, g163.G σ x) → ∃ l : List Gp, es = l.map cGp
  | [], _ => ⟨[], rfl⟩
  | x :: es, h => by
    obtain ⟨l, rfl⟩ := rowsGp (es := es) (fun y hy => h y (List.mem_cons_of_mem _ hy))
    obtain ⟨_, _, rfl, ⟨a0, rfl, w0⟩, _, _, rfl, ⟨a1, rfl, w1⟩, rfl⟩ := h x (List.mem_cons_self ..)
    exact ⟨⟨a0, a1⟩ :: l, rfl⟩
theorem rowsDp {σ : Store} : ∀ {es : List (List Value)}, (∀ x ∈ es, g23.G σ x) → ∃ l : List Dp, es = l.map cDp
  | [], _ => ⟨[], rfl⟩
  | x :: es, h => by
    obtain ⟨l, rfl⟩ := rowsDp (es := es) (fun y hy => h y (List.mem_cons_of_mem _ hy))
    obtain ⟨a0, rfl, w0⟩ := h x (List.mem_cons_self ..)
    obtain ⟨b0, rfl⟩ := wf_word w0
    exact ⟨⟨b0⟩ :: l, rfl⟩
theorem rowsChk {σ : Store} : ∀ {es : List (List Value)}, (∀ x ∈ es, g50.G σ x) → ∃ l : List Chk, es = l.map cChk ∧ ∀ c ∈ l, okChk σ c
  | [], _ => ⟨[], rfl, fun _ h => by cases h⟩
  | x :: es, h => by
    obtain ⟨l, rfl, hl⟩ := rowsChk (es := es) (fun y hy => h y (List.mem_cons_of_mem _ hy))
    obtain ⟨_, _, rfl, ⟨a0, rfl, w0⟩, _, _, rfl, ⟨a1, rfl, w1⟩, _, _, rfl, ⟨a2, rfl, w2⟩, _, _, rfl, ⟨a3, rfl, w3⟩, _, _, rfl, ⟨a4, rfl, w4⟩, _, _, rfl, ⟨a5, rfl, w5⟩, _, _, rfl, ⟨a6, rfl, w6⟩, _, _, rfl, ⟨a7, rfl, w7⟩, _, _, rfl, ⟨a8, rfl, w8⟩, _, _, rfl, ⟨a9, rfl, w9⟩, _, _, rfl, ⟨a10, rfl, w10⟩, _, _, rfl, ⟨v11, e11, rfl, r11, x11⟩, _, _, rfl, ⟨v12, e12, rfl, r12, x12⟩, _, _, rfl, ⟨v13, e13, rfl, r13, x13⟩, _, _, rfl, ⟨v14, e14, rfl, r14, x14⟩, rfl⟩ := h x (List.mem_cons_self ..)
    obtain ⟨b2, rfl⟩ := wf_word w2
    obtain ⟨b5, rfl⟩ := wf_word w5
    obtain ⟨b7, rfl⟩ := wf_word w7
    obtain ⟨b8, rfl⟩ := wf_word w8
    obtain ⟨l11, rfl⟩ := rowsPrm x11
    obtain ⟨l12, rfl⟩ := rowsCau x12
    obtain ⟨l13, rfl⟩ := rowsGp x13
    obtain ⟨l14, rfl⟩ := rowsDp x14
    refine ⟨⟨a0, a1, b2, a3, a4, b5, a6, b7, b8, a9, a10, v11, v12, v13, v14, l11, l12, l13, l14⟩ :: l, rfl, fun c hc => ?_⟩
    rcases List.mem_cons.1 hc with rfl | hc
    · exact ⟨r11.P, r12.P, r13.P, r14.P⟩
    · exact hl c hc
theorem rowsEnt {σ : Store} : ∀ {es : List (List Value)}, (∀ x ∈ es, g26.G σ x) → ∃ l : List Ent, es = l.map cEnt
  | [], _ => ⟨[], rfl⟩
  | x :: es, h => by
    obtain ⟨l, rfl⟩ := rowsEnt (es := es) (fun y hy => h y (List.mem_cons_of_mem _ hy))
    obtain ⟨_, _, rfl, ⟨a0, rfl, w0⟩, _, _, rfl, ⟨a1, rfl, w1⟩, _, _, rfl, ⟨a2, rfl, w2⟩, _, _, rfl, ⟨a3, rfl, w3⟩, _, _, rfl, ⟨a4, rfl, w4⟩, _, _, rfl, ⟨a5, rfl, w5⟩, _, _, rfl, ⟨a6, rfl, w6⟩, rfl⟩ := h x (List.mem_cons_self ..)
    obtain ⟨b0, rfl⟩ := wf_word w0
    obtain ⟨b2, rfl⟩ := wf_word w2
    obtain ⟨b4, rfl⟩ := wf_word w4
    obtain ⟨b5, rfl⟩ := wf_word w5
    exact ⟨⟨b0, a1, b2, a3, b4, b5, a6⟩ :: l, rfl⟩
theorem runAuditOwner (n : Nat) (σ : Store) (hd : Dom n σ) (hn0 : 0 < n) (x0 x1 x2 : Value) (h0 : g22.G σ [x0]) (h1 : (∃ acs, x1 = .agg ⟨acs⟩ ∧ g33.G σ acs)) (h2 : g4.G σ [x2]) : CQ Try.prog noDen 4 [x0, x1, x2] n σ (fun v _ _ => v = .bool true) := by
  obtain ⟨v, e0, q0, r0, w0⟩ := h0
  cases q0
  obtain ⟨acs1, rfl, k1⟩ := h1
  obtain ⟨_, _, rfl, ⟨a2, rfl, w2⟩, _, _, rfl, ⟨a3, rfl, w3⟩, _, _, rfl, ⟨a4, rfl, w4⟩, _, _, rfl, ⟨v5, e5, rfl, r5, w5⟩, rfl⟩ := k1
  obtain ⟨b2, q2⟩ := h2
  cases q2
  obtain ⟨b4, rfl⟩ := wf_word w4
  obtain ⟨l, rfl⟩ := rowsEnt w0
  obtain ⟨cl, rfl, hcl⟩ := rowsChk w5
  cases b2
  · exact oLawfalse hd hn0 _ l r0.P a2 a3 b4 _ cl r5.P hcl
  · exact oLawtrue hd hn0 _ l r0.P a2 a3 b4 _ cl r5.P hcl
end Go.Proofs.Ytnjknabighmedaa.Vt
