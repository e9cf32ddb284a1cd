/- Au: walks through functions of the program, by the calculus; written by a program of this workplace. -/
import Derived.Test.YtnjknabighmedaaEnv
namespace Go.Proofs.Ytnjknabighmedaa.Vt
open Go Go.Proofs Go.Proofs.YtnjknabighmedaaV
set_option maxRecDepth 100000
set_option linter.unusedVariables false
set_option linter.unusedSimpArgs false
structure Ent where
  inner : BitVec 32
  port : Int
  peer : BitVec 32
  pport : Int
  inn : BitVec 32
  out : BitVec 32
  seen : Int
def e0 : Ent := ⟨0, 0, 0, 0, 0, 0, 0⟩
def ecell (e : Ent) : List Value := [W e.inner, .int .i64 e.port, W e.peer, .int .i64 e.pport, W e.inn, W e.out, .int .i64 e.seen]
def near (e : Ent) : Ent := ⟨(e.inner &&& 3#32) + 1#32, ((andN e.port 1 : Nat) : Int), (e.peer &&& 1#32) + 9#32, ((andN e.pport 1 : Nat) : Int), e.inn &&& 3#32, e.out &&& 3#32, e.seen⟩
theorem rec_get {l : List Ent} {j : Nat} (h : j < l.length) : (l.map ecell)[j]? = some (ecell (l.getD j e0)) := by
  rw [List.getElem?_map, List.getD_eq_getElem?_getD, List.getElem?_eq_getElem h]; rfl
theorem rec_snoc {l : List Ent} {i : Nat} (h : i < l.length) : ((l.take i).map near).map ecell ++ [ecell (near (l.getD i e0))] = ((l.take (i + 1)).map near).map ecell := by
  rw [List.take_add_one, List.getElem?_eq_getElem h, List.map_append, List.map_append]
  rw [List.getD_eq_getElem?_getD, List.getElem?_eq_getElem h]
  rfl
def same (l : List Ent) (i j : Nat) : Prop := (((l.getD i e0).peer.toNat : Nat) : Int) = (((l.getD j e0).peer.toNat : Nat) : Int) ∧ (l.getD i e0).pport = (l.getD j e0).pport ∧ (l.getD i e0).port = (l.getD j e0).port ∧ (((l.getD i e0).inn.toNat : Nat) : Int) = (((l.getD j e0).inn.toNat : Nat) : Int)
instance (l : List Ent) (i j : Nat) : Decidable (same l i j) := by unfold same; infer_instance
def innr (l : List Ent) (i : Nat) : Nat → Bool
  | 0 => false
  | j + 1 => innr l i j || decide (same l i j)
def outr (l : List Ent) : Nat → Bool
  | 0 => false
  | i + 1 => outr l i || innr l i i
def kw (b t : Bool) : Int := (if b then 4 else 0) + (if t then 2 else 0)
theorem b_kw4 {E : Env} {t : Nat} (b c : Bool) : abin0 E .or t (.int .i64 (kw b c)) (.int .i64 4) = .ret (.int .i64 (kw true c)) [] := by cases b <;> cases c <;> rfl
theorem b_kw2 {E : Env} {t : Nat} (b c : Bool) : abin0 E .or t (.int .i64 (kw b c)) (.int .i64 2) = .ret (.int .i64 (kw b true)) [] := by cases b <;> cases c <;> rfl
theorem innr_yes {l : List Ent} {i j : Nat} (h : same l i j) : innr l i (j + 1) = true := by simp [innr, h]
theorem innr_no {l : List Ent} {i j : Nat} (h : ¬ same l i j) : innr l i (j + 1) = innr l i j := by simp [innr, h]
theorem kw_yes {l : List Ent} {i j : Nat} {t : Bool} (h : same l i j) : Value.int .i64 (kw true t) = .int .i64 (kw (outr l i || innr l i (j + 1)) t) := by rw [innr_yes h, Bool.or_true]
theorem kw_no {l : List Ent} {i j : Nat} {t : Bool} (h : ¬ same l i j) : Value.int .i64 (kw (outr l i || innr l i j) t) = .int .i64 (kw (outr l i || innr l i (j + 1)) t) := by rw [innr_no h]
theorem awakeT {σ : Store} : PS Try.prog noDen 15 [] σ (.bool true) := PS.closed env_ok rfl (F := 100) (k := 20) (by kernel_rfl) rfl rfl
theorem r_cutL {E : Env} [hP : Plain E] {τ : Tm} {o : Oper} {n : Nat} {σ : Store} {t : Nat} {x hi : Operand} {ti ei : TI} {ob : AObj} {elem j N h : Nat} {k : IntKind} (ho : o.op = .slice t x none (some hi) none) (hx : args1 τ x = some (.slice (some ⟨j, 0, none⟩) N 0)) (hh : args1 τ hi = some (.int k ((h : Nat) : Int))) (ht : E.ty t = some ti) (hd : ti.d = .slice elem) (he : E.ty elem = some ei) (hj : σ j = some ob) (hs : ob.sz = ei.size) (hN : ob.es.length = N) (hle : h ≤ N) : (aop E τ o).run n σ = some (.slice (some ⟨j, 0, none⟩) h 0, n, []) := by
  rw [aop_plain]
  unfold aop0
  subst hN
  simp only [ho, ev, evO, hx, hh]
  unfold aslice
  have hb : bound (some (.int k ((h : Nat) : Int))) ob.es.length = some h := bound_nat
  simp only [ht, hd]
  rw [he, hb]
  refine run_get hj ?_
  rw [if_neg (by simp [hs, hle])]
  rfl
theorem aNear {σ : Store} (e : Ent)   : PS Try.prog noDen 14 [(.agg ⟨[(W e.inner), (.int .i64 e.port), (W e.peer), (.int .i64 e.pport), (W e.inn), (W e.out), (.int .i64 e.seen)]⟩)] σ (.agg ⟨ecell (near e)⟩) := by
  refine PS.body (E := env) env_ok rfl rfl (by show _ ≤ _; exact of_decide_eq_true (by kernel_rfl)) (fun n hd => ?_)
  refine RA.seq hd ?_
  refine RA.region env_ok ?_
  refine OA.op (dst := (some 1)) (v := (.pointer (some ⟨n, 0, some 0⟩))) (n1 := (n + 1)) (d1 := [(n, some ⟨[[(W e.inner), (.int .i64 e.port), (W e.peer), (.int .i64 e.pport), (W e.inn), (W e.out), (.int .i64 e.seen)]], 7, 26, true⟩)]) (D' := [(n, some ⟨[[(W e.inner), (.int .i64 e.port), (W e.peer), (.int .i64 e.pport), (W e.inn), (W e.out), (.int .i64 e.seen)]], 7, 26, true⟩)]) rfl rfl rfl rfl (by omega) rfl ?_
  refine OA.op (dst := (some 2)) (v := (.pointer (some ⟨(n + 1), 0, some 0⟩))) (n1 := (n + 2)) (d1 := [((n + 1), some ⟨[[(.int .u32 0), (.int .i64 0), (.int .u32 0), (.int .i64 0), (.int .u32 0), (.int .u32 0), (.int .i64 0)]], 7, 26, true⟩)]) (D' := [((n + 1), some ⟨[[(.int .u32 0), (.int .i64 0), (.int .u32 0), (.int .i64 0), (.int .u32 0), (.int .u32 0), (.int .i64 0)]], 7, 26, true⟩), (n, some ⟨[[(W e.inner), (.int .i64 e.port), (W e.peer), (.int .i64 e.pport), (W e.inn), (W e.out), (.int .i64 e.seen)]], 7, 26, true⟩)]) rfl rfl rfl rfl (by omega) rfl ?_
  refine OA.nil ?_
  intro _
  refine RA.seq hd ?_
  refine RA.region env_ok ?_
  refine OA.pure (dst := (some 3)) (v := (.pointer (some ⟨n, 0, some 0⟩))) rfl rfl rfl rfl ?_
  refine OA.pure (dst := (some 4)) (v := (W e.inner)) rfl rfl rfl (r_load1 rfl rfl rfl rfl rfl (get_there (by omega) get_here) rfl rfl) ?_
  refine OA.pure (dst := (some 5)) (v := (W (e.inner &&& (3#32)))) rfl rfl rfl (r_bin rfl rfl rfl (b_andW e.inner (3#32))) ?_
  refine OA.pure (dst := (some 6)) (v := (W ((e.inner &&& (3#32)) + (1#32)))) rfl rfl rfl (r_bin rfl rfl rfl (b_addW (e.inner &&& (3#32)) (1#32))) ?_
  refine OA.pure (dst := (some 7)) (v := (.pointer (some ⟨n, 0, some 1⟩))) rfl rfl rfl rfl ?_
  refine OA.pure (dst := (some 8)) (v := (.int .i64 e.port)) rfl rfl rfl (r_load1 rfl rfl rfl rfl rfl (get_there (by omega) get_here) rfl rfl) ?_
  have hm1 := andN_le e.port 1 (by decide)
  refine OA.pure (dst := (some 9)) (v := (.int .i64 (((andN e.port 1) : Nat) : Int))) rfl rfl rfl (r_bin rfl rfl rfl (b_andN e.port 1 (by decide))) ?_
  refine OA.pure (dst := (some 10)) (v := (.pointer (some ⟨n, 0, some 2⟩))) rfl rfl rfl rfl ?_
  refine OA.pure (dst := (some 11)) (v := (W e.peer)) rfl rfl rfl (r_load1 rfl rfl rfl rfl rfl (get_there (by omega) get_here) rfl rfl) ?_
  refine OA.pure (dst := (some 12)) (v := (W (e.peer &&& (1#32)))) rfl rfl rfl (r_bin rfl rfl rfl (b_andW e.peer (1#32))) ?_
  refine OA.pure (dst := (some 13)) (v := (W ((e.peer &&& (1#32)) + (9#32)))) rfl rfl rfl (r_bin rfl rfl rfl (b_addW (e.peer &&& (1#32)) (9#32))) ?_
  refine OA.pure (dst := (some 14)) (v := (.pointer (some ⟨n, 0, some 3⟩))) rfl rfl rfl rfl ?_
  refine OA.pure (dst := (some 15)) (v := (.int .i64 e.pport)) rfl rfl rfl (r_load1 rfl rfl rfl rfl rfl (get_there (by omega) get_here) rfl rfl) ?_
  have hm2 := andN_le e.pport 1 (by decide)
  refine OA.pure (dst := (some 16)) (v := (.int .i64 (((andN e.pport 1) : Nat) : Int))) rfl rfl rfl (r_bin rfl rfl rfl (b_andN e.pport 1 (by decide))) ?_
  refine OA.pure (dst := (some 17)) (v := (.pointer (some ⟨n, 0, some 4⟩))) rfl rfl rfl rfl ?_
  refine OA.pure (dst := (some 18)) (v := (W e.inn)) rfl rfl rfl (r_load1 rfl rfl rfl rfl rfl (get_there (by omega) get_here) rfl rfl) ?_
  refine OA.pure (dst := (some 19)) (v := (W (e.inn &&& (3#32)))) rfl rfl rfl (r_bin rfl rfl rfl (b_andW e.inn (3#32))) ?_
  refine OA.pure (dst := (some 20)) (v := (.pointer (some ⟨n, 0, some 5⟩))) rfl rfl rfl rfl ?_
  refine OA.pure (dst := (some 21)) (v := (W e.out)) rfl rfl rfl (r_load1 rfl rfl rfl rfl rfl (get_there (by omega) get_here) rfl rfl) ?_
  refine OA.pure (dst := (some 22)) (v := (W (e.out &&& (3#32)))) rfl rfl rfl (r_bin rfl rfl rfl (b_andW e.out (3#32))) ?_
  refine OA.pure (dst := (some 23)) (v := (.pointer (some ⟨n, 0, some 6⟩))) rfl rfl rfl rfl ?_
  refine OA.pure (dst := (some 24)) (v := (.int .i64 e.seen)) rfl rfl rfl (r_load1 rfl rfl rfl rfl rfl (get_there (by omega) get_here) rfl rfl) ?_
  refine OA.pure (dst := (some 25)) (v := (.agg ⟨[(W ((e.inner &&& (3#32)) + (1#32))), (.int .i64 (((andN e.port 1) : Nat) : Int)), (W ((e.peer &&& (1#32)) + (9#32))), (.int .i64 (((andN e.pport 1) : Nat) : Int)), (W (e.inn &&& (3#32))), (W (e.out &&& (3#32))), (.int .i64 e.seen)]⟩)) rfl rfl rfl (by kernel_rfl) ?_
  refine OA.op (dst := none) (v := (.tuple #[])) (n1 := (n + 2)) (d1 := [((n + 1), some ⟨[[(W ((e.inner &&& (3#32)) + (1#32))), (.int .i64 (((andN e.port 1) : Nat) : Int)), (W ((e.peer &&& (1#32)) + (9#32))), (.int .i64 (((andN e.pport 1) : Nat) : Int)), (W (e.inn &&& (3#32))), (W (e.out &&& (3#32))), (.int .i64 e.seen)]], 7, 26, true⟩)]) (D' := [((n + 1), some ⟨[[(W ((e.inner &&& (3#32)) + (1#32))), (.int .i64 (((andN e.port 1) : Nat) : Int)), (W ((e.peer &&& (1#32)) + (9#32))), (.int .i64 (((andN e.pport 1) : Nat) : Int)), (W (e.inn &&& (3#32))), (W (e.out &&& (3#32))), (.int .i64 e.seen)]], 7, 26, true⟩), ((n + 1), some ⟨[[(.int .u32 0), (.int .i64 0), (.int .u32 0), (.int .i64 0), (.int .u32 0), (.int .u32 0), (.int .i64 0)]], 7, 26, true⟩), (n, some ⟨[[(W e.inner), (.int .i64 e.port), (W e.peer), (.int .i64 e.pport), (W e.inn), (W e.out), (.int .i64 e.seen)]], 7, 26, true⟩)]) rfl rfl rfl (r_store rfl rfl rfl rfl rfl rfl rfl get_here rfl rfl (Nat.le_of_ble_eq_true rfl) rfl) (by omega) rfl ?_
  refine OA.nil ?_
  intro _
  refine RA.rebase [(0, (.agg ⟨[(W e.inner), (.int .i64 e.port), (W e.peer), (.int .i64 e.pport), (W e.inn), (W e.out), (.int .i64 e.seen)]⟩)), (1, (.pointer (some ⟨n, 0, some 0⟩))), (2, (.pointer (some ⟨(n + 1), 0, some 0⟩)))] ⟨rfl, rfl, rfl, trivial⟩ (fun τr3 => ?_)
  refine RA.ret env_ok ?_
  refine ⟨.inr rfl, [(.agg ⟨[(W ((e.inner &&& (3#32)) + (1#32))), (.int .i64 (((andN e.port 1) : Nat) : Int)), (W ((e.peer &&& (1#32)) + (9#32))), (.int .i64 (((andN e.pport 1) : Nat) : Int)), (W (e.inn &&& (3#32))), (W (e.out &&& (3#32))), (.int .i64 e.seen)]⟩)], (resL_cons (res_cellA rfl rfl rfl get_here rfl rfl rfl) resL_nil), rfl, (by intro i hi; simp only [keys, List.cons_append, List.nil_append, List.map_cons, List.map_nil, List.mem_cons, List.not_mem_nil, or_false, false_or] at hi; omega)⟩

theorem aTable {σ : Store} (l : List Ent) (N : Nat) (hl : l.length = N) (hs : N < 4294967296) (j most : Nat) (hj : σ j = some ⟨(l.map ecell), 7, 26, true⟩)  : PS Try.prog noDen 16 [(.slice (some ⟨j, 0, none⟩) N 0), (.int .i64 ((most : Nat) : Int))] σ (.int .i64 (kw (outr l N) (decide (most < N)))) := by
  refine PS.body (E := env) env_ok rfl rfl (by show _ ≤ _; exact of_decide_eq_true (by kernel_rfl)) (fun n hd => ?_)
  have lhj := hd.lt hj
  refine RA.seq hd ?_
  refine RA.region env_ok ?_
  refine OA.pure (dst := (some 4)) (v := (.int .i64 0)) rfl rfl rfl rfl ?_
  refine OA.nil ?_
  intro _
  refine RA.seq hd ?_
  refine RA.region env_ok ?_
  refine OA.pure (dst := (some 5)) (v := (.int .i64 0)) rfl rfl rfl rfl ?_
  refine OA.nil ?_
  intro _
  refine RA.seq hd ?_
  refine RA.seq hd ?_
  refine RA.region env_ok ?_
  refine OA.pure (dst := (some 10)) (v := (.slice (some ⟨j, 0, none⟩) N 0)) rfl rfl rfl rfl ?_
  refine OA.pure (dst := (some 11)) (v := (.int .i64 ((N : Nat) : Int))) rfl rfl rfl rfl ?_
  refine OA.pure (dst := (some 12)) (v := (.int .i64 ((most : Nat) : Int))) rfl rfl rfl rfl ?_
  by_cases hc1 : ((most : Nat) : Int) < ((N : Nat) : Int)
  ·
    refine OA.pure (dst := (some 13)) (v := (.bool true)) rfl rfl rfl (Eq.trans (r_bin rfl rfl rfl (b_gtr rfl)) (by first | (rw [decide_eq_true hc1]; done) | (rw [decide_eq_true hc1]; rfl))) ?_
    refine OA.nil ?_
    intro _
    refine RA.cond (t := true) rfl (fun hc => ?_) (fun hc => ?_)
    ·
      refine RA.region env_ok ?_
      refine OA.pure (dst := (some 14)) (v := (.int .i64 0)) rfl rfl rfl rfl ?_
      refine OA.pure (dst := (some 15)) (v := (.int .i64 (kw false true))) rfl rfl rfl (r_bin rfl rfl rfl (b_kw2 false false)) ?_
      refine OA.pure (dst := (some 5)) (v := (.int .i64 (kw false true))) rfl rfl rfl rfl ?_
      refine OA.nil ?_
      intro _
      refine RA.seq hd ?_
      refine RA.seq hd ?_
      refine RA.region env_ok ?_
      refine OA.pure (dst := (some 16)) (v := (.slice (some ⟨j, 0, none⟩) N 0)) rfl rfl rfl rfl ?_
      refine OA.pure (dst := (some 17)) (v := (.int .i64 ((N : Nat) : Int))) rfl rfl rfl rfl ?_
      refine OA.pure (dst := (some 18)) (v := (.int .i64 0)) rfl rfl rfl rfl ?_
      refine OA.nil ?_
      intro _
      refine RA.block ?_
      refine RA.loop hd (fun kk_ τ n' D => ∃ i : Nat,  kk_ = (N - i) ∧ n ≤ n' ∧ Has τ [(0, (.slice (some ⟨j, 0, none⟩) N 0)), (5, (.int .i64 (kw (outr l i) true))), (16, (.slice (some ⟨j, 0, none⟩) N 0)), (17, (.int .i64 ((N : Nat) : Int))), (18, (.int .i64 ((i : Nat) : Int)))] ∧ D = [] ∧ (∀ i ∈ keys D, i < n') ∧ i ≤ N) ((N - 0)) ⟨0, rfl, by omega, ⟨rfl, rfl, rfl, rfl, rfl, trivial⟩, rfl, (fun i hi => by cases hi), by omega⟩ ?_
      rintro kn1 τ1 n1 _ ⟨i, rfl, hn1, hHn1, rfl, hKn1, hIn1⟩
      rw [Has.eq hHn1]
      simp only [keys, List.map, List.forall_mem_cons, List.mem_cons, List.not_mem_nil, false_imp_iff, implies_true, and_true] at hKn1
      refine RA.seq hd ?_
      refine RA.region env_ok ?_
      by_cases hc2 : ((i : Nat) : Int) < ((N : Nat) : Int)
      ·
        refine OA.pure (dst := (some 19)) (v := (.bool true)) rfl rfl rfl (Eq.trans (r_bin rfl rfl rfl (b_lss rfl)) (by first | (rw [decide_eq_true hc2]; done) | (rw [decide_eq_true hc2]; rfl))) ?_
        refine OA.nil ?_
        intro _
        refine RA.seq hd ?_
        refine RA.cond (t := true) rfl (fun hc => ?_) (fun hc => ?_)
        ·
          refine RA.skip env_ok ?_
          intro _
          refine RA.seq hd ?_
          refine RA.block ?_
          refine RA.seq hd ?_
          refine RA.region env_ok ?_
          refine OA.pure (dst := (some 20)) (v := (.int .i64 ((i : Nat) : Int))) rfl rfl rfl rfl ?_
          refine OA.pure (dst := (some 21)) (v := (.pointer (some ⟨j, i, some 0⟩))) rfl rfl rfl (r_iaS (l := i) rfl rfl rfl rfl rfl rfl (by omega) (by omega) hj rfl (by omega)) ?_
          refine OA.pure (dst := (some 22)) (v := (.agg ⟨[(W (l.getD i e0).inner), (.int .i64 (l.getD i e0).port), (W (l.getD i e0).peer), (.int .i64 (l.getD i e0).pport), (W (l.getD i e0).inn), (W (l.getD i e0).out), (.int .i64 (l.getD i e0).seen)]⟩)) rfl rfl rfl (r_loadA (e := ecell (l.getD i e0)) rfl rfl rfl rfl hj (rec_get (by rw [hl]; omega)) rfl rfl) ?_
          refine OA.op (dst := (some 7)) (v := (.pointer (some ⟨n1, 0, some 0⟩))) (n1 := (n1 + 1)) (d1 := [(n1, some ⟨[[(.int .u32 0), (.int .i64 0), (.int .u32 0), (.int .i64 0), (.int .u32 0), (.int .u32 0), (.int .i64 0)]], 7, 26, true⟩)]) (D' := [(n1, some ⟨[[(.int .u32 0), (.int .i64 0), (.int .u32 0), (.int .i64 0), (.int .u32 0), (.int .u32 0), (.int .i64 0)]], 7, 26, true⟩)]) rfl rfl rfl rfl (by omega) rfl ?_
          refine OA.pure (dst := (some 6)) (v := (.int .i64 ((i : Nat) : Int))) rfl rfl rfl rfl ?_
          refine OA.op (dst := none) (v := (.tuple #[])) (n1 := (n1 + 1)) (d1 := [(n1, some ⟨[[(W (l.getD i e0).inner), (.int .i64 (l.getD i e0).port), (W (l.getD i e0).peer), (.int .i64 (l.getD i e0).pport), (W (l.getD i e0).inn), (W (l.getD i e0).out), (.int .i64 (l.getD i e0).seen)]], 7, 26, true⟩)]) (D' := [(n1, some ⟨[[(W (l.getD i e0).inner), (.int .i64 (l.getD i e0).port), (W (l.getD i e0).peer), (.int .i64 (l.getD i e0).pport), (W (l.getD i e0).inn), (W (l.getD i e0).out), (.int .i64 (l.getD i e0).seen)]], 7, 26, true⟩), (n1, some ⟨[[(.int .u32 0), (.int .i64 0), (.int .u32 0), (.int .i64 0), (.int .u32 0), (.int .u32 0), (.int .i64 0)]], 7, 26, true⟩)]) rfl rfl rfl (r_store rfl rfl rfl rfl rfl rfl rfl get_here rfl rfl (Nat.le_of_ble_eq_true rfl) rfl) (by omega) rfl ?_
          refine OA.nil ?_
          intro _
          refine RA.seq hd ?_
          refine RA.region env_ok ?_
          refine OA.pure (dst := (some 23)) (v := (.slice (some ⟨j, 0, none⟩) N 0)) rfl rfl rfl rfl ?_
          refine OA.pure (dst := (some 24)) (v := (.int .i64 ((i : Nat) : Int))) rfl rfl rfl rfl ?_
          refine OA.pure (dst := (some 25)) (v := (.slice (some ⟨j, 0, none⟩) i 0)) rfl rfl rfl (r_cutL (h := i) rfl rfl rfl rfl rfl rfl (get_there (by omega) (get_there (by omega) hj)) rfl (by show (List.map ecell _).length = _; rw [List.length_map]; exact hl) (by omega)) ?_
          refine OA.pure (dst := (some 26)) (v := (.int .i64 ((i : Nat) : Int))) rfl rfl rfl rfl ?_
          refine OA.pure (dst := (some 27)) (v := (.int .i64 0)) rfl rfl rfl rfl ?_
          refine OA.nil ?_
          intro _
          refine RA.block ?_
          refine RA.weaken (D' := [(n1, some ⟨[[(W (l.getD i e0).inner), (.int .i64 (l.getD i e0).port), (W (l.getD i e0).peer), (.int .i64 (l.getD i e0).pport), (W (l.getD i e0).inn), (W (l.getD i e0).out), (.int .i64 (l.getD i e0).seen)]], 7, 26, true⟩)]) hd (Less.of (by simp only [List.forall_mem_cons, List.not_mem_nil, false_imp_iff, implies_true, and_true]; exact ⟨by simp only [keys, List.cons_append, List.nil_append, List.map_cons, List.map_nil, List.mem_cons, true_or, or_true], fun _ => (get_here).trans (get_here).symm⟩) (by intro x hx; simp only [keys, List.cons_append, List.nil_append, List.map_cons, List.map_nil, List.mem_cons, List.not_mem_nil, or_false, false_or] at hx ⊢; omega)) ?_
          refine RA.loop hd (fun kk_ τ n' D => ∃ jj : Nat,  kk_ = (i - jj) ∧ (n1 + 1) ≤ n' ∧ Has τ [(0, (.slice (some ⟨j, 0, none⟩) N 0)), (5, (.int .i64 (kw (outr l i || innr l i jj) true))), (6, (.int .i64 ((i : Nat) : Int))), (7, (.pointer (some ⟨n1, 0, some 0⟩))), (16, (.slice (some ⟨j, 0, none⟩) N 0)), (17, (.int .i64 ((N : Nat) : Int))), (18, (.int .i64 ((i : Nat) : Int))), (25, (.slice (some ⟨j, 0, none⟩) i 0)), (26, (.int .i64 ((i : Nat) : Int))), (27, (.int .i64 ((jj : Nat) : Int)))] ∧ D = [(n1, some ⟨[[(W (l.getD i e0).inner), (.int .i64 (l.getD i e0).port), (W (l.getD i e0).peer), (.int .i64 (l.getD i e0).pport), (W (l.getD i e0).inn), (W (l.getD i e0).out), (.int .i64 (l.getD i e0).seen)]], 7, 26, true⟩)] ∧ (∀ i ∈ keys D, i < n') ∧ jj ≤ i) ((i - 0)) ⟨0, rfl, by omega, ⟨rfl, (by show Value.int _ _ = Value.int _ _; simp [innr]), rfl, rfl, rfl, rfl, rfl, rfl, rfl, rfl, trivial⟩, rfl, (by intro i hi; simp only [keys, List.cons_append, List.nil_append, List.map_cons, List.map_nil, List.mem_cons, List.not_mem_nil, or_false, false_or] at hi; omega), by omega⟩ ?_
          rintro kn2 τ2 n2 _ ⟨jj, rfl, hn2, hHn2, rfl, hKn2, hIn2⟩
          rw [Has.eq hHn2]
          have hKn2_0 : n1 < n2 := hKn2 _ (by simp only [keys, List.map_cons, List.map_nil, List.mem_cons, true_or, or_true])
          simp only [keys, List.map, List.forall_mem_cons, List.mem_cons, List.not_mem_nil, false_imp_iff, implies_true, and_true] at hKn2
          refine RA.seq hd ?_
          refine RA.region env_ok ?_
          by_cases hc3 : ((jj : Nat) : Int) < ((i : Nat) : Int)
          ·
            refine OA.pure (dst := (some 28)) (v := (.bool true)) rfl rfl rfl (Eq.trans (r_bin rfl rfl rfl (b_lss rfl)) (by first | (rw [decide_eq_true hc3]; done) | (rw [decide_eq_true hc3]; rfl))) ?_
            refine OA.nil ?_
            intro _
            refine RA.seq hd ?_
            refine RA.cond (t := true) rfl (fun hc => ?_) (fun hc => ?_)
            ·
              refine RA.skip env_ok ?_
              intro _
              refine RA.seq hd ?_
              refine RA.block ?_
              refine RA.seq hd ?_
              refine RA.region env_ok ?_
              refine OA.pure (dst := (some 29)) (v := (.pointer (some ⟨j, jj, some 0⟩))) rfl rfl rfl (r_iaS (l := jj) rfl rfl rfl rfl rfl rfl (by omega) (by omega) (get_there (by omega) hj) rfl (by omega)) ?_
              refine OA.pure (dst := (some 30)) (v := (.agg ⟨[(W (l.getD jj e0).inner), (.int .i64 (l.getD jj e0).port), (W (l.getD jj e0).peer), (.int .i64 (l.getD jj e0).pport), (W (l.getD jj e0).inn), (W (l.getD jj e0).out), (.int .i64 (l.getD jj e0).seen)]⟩)) rfl rfl rfl (r_loadA (e := ecell (l.getD jj e0)) rfl rfl rfl rfl (get_there (by omega) hj) (rec_get (by rw [hl]; omega)) rfl rfl) ?_
              refine OA.op (dst := (some 9)) (v := (.pointer (some ⟨n2, 0, some 0⟩))) (n1 := (n2 + 1)) (d1 := [(n2, some ⟨[[(.int .u32 0), (.int .i64 0), (.int .u32 0), (.int .i64 0), (.int .u32 0), (.int .u32 0), (.int .i64 0)]], 7, 26, true⟩)]) (D' := [(n2, some ⟨[[(.int .u32 0), (.int .i64 0), (.int .u32 0), (.int .i64 0), (.int .u32 0), (.int .u32 0), (.int .i64 0)]], 7, 26, true⟩), (n1, some ⟨[[(W (l.getD i e0).inner), (.int .i64 (l.getD i e0).port), (W (l.getD i e0).peer), (.int .i64 (l.getD i e0).pport), (W (l.getD i e0).inn), (W (l.getD i e0).out), (.int .i64 (l.getD i e0).seen)]], 7, 26, true⟩)]) rfl rfl rfl rfl (by omega) rfl ?_
              refine OA.op (dst := none) (v := (.tuple #[])) (n1 := (n2 + 1)) (d1 := [(n2, some ⟨[[(W (l.getD jj e0).inner), (.int .i64 (l.getD jj e0).port), (W (l.getD jj e0).peer), (.int .i64 (l.getD jj e0).pport), (W (l.getD jj e0).inn), (W (l.getD jj e0).out), (.int .i64 (l.getD jj e0).seen)]], 7, 26, true⟩)]) (D' := [(n2, some ⟨[[(W (l.getD jj e0).inner), (.int .i64 (l.getD jj e0).port), (W (l.getD jj e0).peer), (.int .i64 (l.getD jj e0).pport), (W (l.getD jj e0).inn), (W (l.getD jj e0).out), (.int .i64 (l.getD jj e0).seen)]], 7, 26, true⟩), (n2, some ⟨[[(.int .u32 0), (.int .i64 0), (.int .u32 0), (.int .i64 0), (.int .u32 0), (.int .u32 0), (.int .i64 0)]], 7, 26, true⟩), (n1, some ⟨[[(W (l.getD i e0).inner), (.int .i64 (l.getD i e0).port), (W (l.getD i e0).peer), (.int .i64 (l.getD i e0).pport), (W (l.getD i e0).inn), (W (l.getD i e0).out), (.int .i64 (l.getD i e0).seen)]], 7, 26, true⟩)]) rfl rfl rfl (r_store rfl rfl rfl rfl rfl rfl rfl get_here rfl rfl (Nat.le_of_ble_eq_true rfl) rfl) (by omega) rfl ?_
              refine OA.nil ?_
              intro _
              refine RA.seq hd ?_
              refine RA.region env_ok ?_
              refine OA.pure (dst := (some 31)) (v := (.pointer (some ⟨n1, 0, some 2⟩))) rfl rfl rfl rfl ?_
              refine OA.pure (dst := (some 32)) (v := (W (l.getD i e0).peer)) rfl rfl rfl (r_load1 rfl rfl rfl rfl rfl (get_there (by omega) (get_there (by omega) get_here)) rfl rfl) ?_
              refine OA.pure (dst := (some 33)) (v := (.pointer (some ⟨n2, 0, some 2⟩))) rfl rfl rfl rfl ?_
              refine OA.pure (dst := (some 34)) (v := (W (l.getD jj e0).peer)) rfl rfl rfl (r_load1 rfl rfl rfl rfl rfl get_here rfl rfl) ?_
              by_cases hc4 : ((l.getD i e0).peer.toNat : Int) = ((l.getD jj e0).peer.toNat : Int)
              ·
                refine OA.pure (dst := (some 35)) (v := (.bool true)) rfl rfl rfl (Eq.trans (r_bin rfl rfl rfl (b_eql rfl)) (by first | (rw [decide_eq_true hc4]; done) | (rw [decide_eq_true hc4]; rfl))) ?_
                refine OA.pure (dst := (some 36)) (v := (.bool true)) rfl rfl rfl rfl ?_
                refine OA.pure (dst := (some 37)) (v := (.pointer (some ⟨n1, 0, some 3⟩))) rfl rfl rfl rfl ?_
                refine OA.pure (dst := (some 38)) (v := (.int .i64 (l.getD i e0).pport)) rfl rfl rfl (r_load1 rfl rfl rfl rfl rfl (get_there (by omega) (get_there (by omega) get_here)) rfl rfl) ?_
                refine OA.pure (dst := (some 39)) (v := (.pointer (some ⟨n2, 0, some 3⟩))) rfl rfl rfl rfl ?_
                refine OA.pure (dst := (some 40)) (v := (.int .i64 (l.getD jj e0).pport)) rfl rfl rfl (r_load1 rfl rfl rfl rfl rfl get_here rfl rfl) ?_
                by_cases hc5 : (l.getD i e0).pport = (l.getD jj e0).pport
                ·
                  refine OA.pure (dst := (some 41)) (v := (.bool true)) rfl rfl rfl (Eq.trans (r_bin rfl rfl rfl (b_eql rfl)) (by first | (rw [decide_eq_true hc5]; done) | (rw [decide_eq_true hc5]; rfl))) ?_
                  refine OA.pure (dst := (some 42)) (v := (.bool true)) rfl rfl rfl rfl ?_
                  refine OA.pure (dst := (some 43)) (v := (.bool true)) rfl rfl rfl rfl ?_
                  refine OA.pure (dst := (some 44)) (v := (.pointer (some ⟨n1, 0, some 1⟩))) rfl rfl rfl rfl ?_
                  refine OA.pure (dst := (some 45)) (v := (.int .i64 (l.getD i e0).port)) rfl rfl rfl (r_load1 rfl rfl rfl rfl rfl (get_there (by omega) (get_there (by omega) get_here)) rfl rfl) ?_
                  refine OA.pure (dst := (some 46)) (v := (.pointer (some ⟨n2, 0, some 1⟩))) rfl rfl rfl rfl ?_
                  refine OA.pure (dst := (some 47)) (v := (.int .i64 (l.getD jj e0).port)) rfl rfl rfl (r_load1 rfl rfl rfl rfl rfl get_here rfl rfl) ?_
                  by_cases hc6 : (l.getD i e0).port = (l.getD jj e0).port
                  ·
                    refine OA.pure (dst := (some 48)) (v := (.bool true)) rfl rfl rfl (Eq.trans (r_bin rfl rfl rfl (b_eql rfl)) (by first | (rw [decide_eq_true hc6]; done) | (rw [decide_eq_true hc6]; rfl))) ?_
                    refine OA.pure (dst := (some 49)) (v := (.bool true)) rfl rfl rfl rfl ?_
                    refine OA.pure (dst := (some 50)) (v := (.bool true)) rfl rfl rfl rfl ?_
                    refine OA.pure (dst := (some 51)) (v := (.pointer (some ⟨n1, 0, some 4⟩))) rfl rfl rfl rfl ?_
                    refine OA.pure (dst := (some 52)) (v := (W (l.getD i e0).inn)) rfl rfl rfl (r_load1 rfl rfl rfl rfl rfl (get_there (by omega) (get_there (by omega) get_here)) rfl rfl) ?_
                    refine OA.pure (dst := (some 53)) (v := (.pointer (some ⟨n2, 0, some 4⟩))) rfl rfl rfl rfl ?_
                    refine OA.pure (dst := (some 54)) (v := (W (l.getD jj e0).inn)) rfl rfl rfl (r_load1 rfl rfl rfl rfl rfl get_here rfl rfl) ?_
                    by_cases hc7 : ((l.getD i e0).inn.toNat : Int) = ((l.getD jj e0).inn.toNat : Int)
                    ·
                      refine OA.pure (dst := (some 55)) (v := (.bool true)) rfl rfl rfl (Eq.trans (r_bin rfl rfl rfl (b_eql rfl)) (by first | (rw [decide_eq_true hc7]; done) | (rw [decide_eq_true hc7]; rfl))) ?_
                      refine OA.pure (dst := (some 56)) (v := (.bool true)) rfl rfl rfl rfl ?_
                      refine OA.nil ?_
                      intro _
                      refine RA.rebase [(0, (.slice (some ⟨j, 0, none⟩) N 0)), (5, (.int .i64 (kw (outr l i || innr l i jj) true))), (6, (.int .i64 ((i : Nat) : Int))), (7, (.pointer (some ⟨n1, 0, some 0⟩))), (9, (.pointer (some ⟨n2, 0, some 0⟩))), (16, (.slice (some ⟨j, 0, none⟩) N 0)), (17, (.int .i64 ((N : Nat) : Int))), (18, (.int .i64 ((i : Nat) : Int))), (25, (.slice (some ⟨j, 0, none⟩) i 0)), (26, (.int .i64 ((i : Nat) : Int))), (27, (.int .i64 ((jj : Nat) : Int))), (28, (.bool true)), (56, (.bool true))] ⟨rfl, rfl, rfl, rfl, rfl, rfl, rfl, rfl, rfl, rfl, rfl, rfl, rfl, trivial⟩ (fun τr3 => ?_)
                      refine RA.cond (t := true) rfl (fun hc => ?_) (fun hc => ?_)
                      ·
                        refine RA.region env_ok ?_
                        refine OA.pure (dst := (some 57)) (v := (.int .i64 (kw (outr l i || innr l i jj) true))) rfl rfl rfl rfl ?_
                        refine OA.pure (dst := (some 58)) (v := (.int .i64 (kw true true))) rfl rfl rfl (r_bin rfl rfl rfl (b_kw4 (outr l i || innr l i jj) true)) ?_
                        refine OA.pure (dst := (some 5)) (v := (.int .i64 (kw true true))) rfl rfl rfl rfl ?_
                        refine OA.nil ?_
                        intro _
                        refine RA.region env_ok ?_
                        refine OA.pure (dst := (some 59)) (v := (.int .i64 (((jj + 1) : Nat) : Int))) rfl rfl rfl (r_bin rfl rfl rfl (b_add (i64_eq (by omega)))) ?_
                        refine OA.pure (dst := (some 27)) (v := (.int .i64 (((jj + 1) : Nat) : Int))) rfl rfl rfl rfl ?_
                        refine OA.nil ?_
                        refine ⟨(i - (jj + 1)), by omega, [(n1, some ⟨[[(W (l.getD i e0).inner), (.int .i64 (l.getD i e0).port), (W (l.getD i e0).peer), (.int .i64 (l.getD i e0).pport), (W (l.getD i e0).inn), (W (l.getD i e0).out), (.int .i64 (l.getD i e0).seen)]], 7, 26, true⟩)], (Less.of (by simp only [List.forall_mem_cons, List.not_mem_nil, false_imp_iff, implies_true, and_true]; exact ⟨by simp only [keys, List.cons_append, List.nil_append, List.map_cons, List.map_nil, List.mem_cons, true_or, or_true], fun _ => (get_here).trans ((get_there (by omega) (get_there (by omega) get_here))).symm⟩) (by intro x hx; simp only [keys, List.cons_append, List.nil_append, List.map_cons, List.map_nil, List.mem_cons, List.not_mem_nil, or_false, false_or] at hx ⊢; omega)), (jj + 1), rfl, by omega, ⟨rfl, (kw_yes (by unfold same; exact ⟨hc4, hc5, hc6, hc7⟩)), rfl, rfl, rfl, rfl, rfl, rfl, rfl, rfl, trivial⟩, rfl, (by intro i hi; simp only [keys, List.cons_append, List.nil_append, List.map_cons, List.map_nil, List.mem_cons, List.not_mem_nil, or_false, false_or] at hi; omega), by omega⟩
                      · cases hc
                    ·
                      refine OA.pure (dst := (some 55)) (v := (.bool false)) rfl rfl rfl (Eq.trans (r_bin rfl rfl rfl (b_eql rfl)) (by first | (rw [decide_eq_false hc7]; done) | (rw [decide_eq_false hc7]; rfl))) ?_
                      refine OA.pure (dst := (some 56)) (v := (.bool false)) rfl rfl rfl rfl ?_
                      refine OA.nil ?_
                      intro _
                      refine RA.rebase [(0, (.slice (some ⟨j, 0, none⟩) N 0)), (5, (.int .i64 (kw (outr l i || innr l i jj) true))), (6, (.int .i64 ((i : Nat) : Int))), (7, (.pointer (some ⟨n1, 0, some 0⟩))), (9, (.pointer (some ⟨n2, 0, some 0⟩))), (16, (.slice (some ⟨j, 0, none⟩) N 0)), (17, (.int .i64 ((N : Nat) : Int))), (18, (.int .i64 ((i : Nat) : Int))), (25, (.slice (some ⟨j, 0, none⟩) i 0)), (26, (.int .i64 ((i : Nat) : Int))), (27, (.int .i64 ((jj : Nat) : Int))), (28, (.bool true)), (56, (.bool false))] ⟨rfl, rfl, rfl, rfl, rfl, rfl, rfl, rfl, rfl, rfl, rfl, rfl, rfl, trivial⟩ (fun τr4 => ?_)
                      refine RA.cond (t := false) rfl (fun hc => ?_) (fun hc => ?_)
                      · cases hc
                      ·
                        refine RA.skip env_ok ?_
                        intro _
                        refine RA.region env_ok ?_
                        refine OA.pure (dst := (some 59)) (v := (.int .i64 (((jj + 1) : Nat) : Int))) rfl rfl rfl (r_bin rfl rfl rfl (b_add (i64_eq (by omega)))) ?_
                        refine OA.pure (dst := (some 27)) (v := (.int .i64 (((jj + 1) : Nat) : Int))) rfl rfl rfl rfl ?_
                        refine OA.nil ?_
                        refine ⟨(i - (jj + 1)), by omega, [(n1, some ⟨[[(W (l.getD i e0).inner), (.int .i64 (l.getD i e0).port), (W (l.getD i e0).peer), (.int .i64 (l.getD i e0).pport), (W (l.getD i e0).inn), (W (l.getD i e0).out), (.int .i64 (l.getD i e0).seen)]], 7, 26, true⟩)], (Less.of (by simp only [List.forall_mem_cons, List.not_mem_nil, false_imp_iff, implies_true, and_true]; exact ⟨by simp only [keys, List.cons_append, List.nil_append, List.map_cons, List.map_nil, List.mem_cons, true_or, or_true], fun _ => (get_here).trans ((get_there (by omega) (get_there (by omega) get_here))).symm⟩) (by intro x hx; simp only [keys, List.cons_append, List.nil_append, List.map_cons, List.map_nil, List.mem_cons, List.not_mem_nil, or_false, false_or] at hx ⊢; omega)), (jj + 1), rfl, by omega, ⟨rfl, (kw_no (by unfold same; intro hh; exact hc7 hh.2.2.2)), rfl, rfl, rfl, rfl, rfl, rfl, rfl, rfl, trivial⟩, rfl, (by intro i hi; simp only [keys, List.cons_append, List.nil_append, List.map_cons, List.map_nil, List.mem_cons, List.not_mem_nil, or_false, false_or] at hi; omega), by omega⟩
                  ·
                    refine OA.pure (dst := (some 48)) (v := (.bool false)) rfl rfl rfl (Eq.trans (r_bin rfl rfl rfl (b_eql rfl)) (by first | (rw [decide_eq_false hc6]; done) | (rw [decide_eq_false hc6]; rfl))) ?_
                    refine OA.pure (dst := (some 49)) (v := (.bool false)) rfl rfl rfl rfl ?_
                    refine OA.pure (dst := (some 50)) (v := (.bool false)) rfl rfl rfl rfl ?_
                    refine OA.off (dst := (some 51)) rfl rfl rfl ?_
                    refine OA.off (dst := (some 52)) rfl rfl rfl ?_
                    refine OA.off (dst := (some 53)) rfl rfl rfl ?_
                    refine OA.off (dst := (some 54)) rfl rfl rfl ?_
                    refine OA.off (dst := (some 55)) rfl rfl rfl ?_
                    refine OA.pure (dst := (some 56)) (v := (.bool false)) rfl rfl rfl rfl ?_
                    refine OA.nil ?_
                    intro _
                    refine RA.rebase [(0, (.slice (some ⟨j, 0, none⟩) N 0)), (5, (.int .i64 (kw (outr l i || innr l i jj) true))), (6, (.int .i64 ((i : Nat) : Int))), (7, (.pointer (some ⟨n1, 0, some 0⟩))), (9, (.pointer (some ⟨n2, 0, some 0⟩))), (16, (.slice (some ⟨j, 0, none⟩) N 0)), (17, (.int .i64 ((N : Nat) : Int))), (18, (.int .i64 ((i : Nat) : Int))), (25, (.slice (some ⟨j, 0, none⟩) i 0)), (26, (.int .i64 ((i : Nat) : Int))), (27, (.int .i64 ((jj : Nat) : Int))), (28, (.bool true)), (56, (.bool false))] ⟨rfl, rfl, rfl, rfl, rfl, rfl, rfl, rfl, rfl, rfl, rfl, rfl, rfl, trivial⟩ (fun τr5 => ?_)
                    refine RA.cond (t := false) rfl (fun hc => ?_) (fun hc => ?_)
                    · cases hc
                    ·
                      refine RA.skip env_ok ?_
                      intro _
                      refine RA.region env_ok ?_
                      refine OA.pure (dst := (some 59)) (v := (.int .i64 (((jj + 1) : Nat) : Int))) rfl rfl rfl (r_bin rfl rfl rfl (b_add (i64_eq (by omega)))) ?_
                      refine OA.pure (dst := (some 27)) (v := (.int .i64 (((jj + 1) : Nat) : Int))) rfl rfl rfl rfl ?_
                      refine OA.nil ?_
                      refine ⟨(i - (jj + 1)), by omega, [(n1, some ⟨[[(W (l.getD i e0).inner), (.int .i64 (l.getD i e0).port), (W (l.getD i e0).peer), (.int .i64 (l.getD i e0).pport), (W (l.getD i e0).inn), (W (l.getD i e0).out), (.int .i64 (l.getD i e0).seen)]], 7, 26, true⟩)], (Less.of (by simp only [List.forall_mem_cons, List.not_mem_nil, false_imp_iff, implies_true, and_true]; exact ⟨by simp only [keys, List.cons_append, List.nil_append, List.map_cons, List.map_nil, List.mem_cons, true_or, or_true], fun _ => (get_here).trans ((get_there (by omega) (get_there (by omega) get_here))).symm⟩) (by intro x hx; simp only [keys, List.cons_append, List.nil_append, List.map_cons, List.map_nil, List.mem_cons, List.not_mem_nil, or_false, false_or] at hx ⊢; omega)), (jj + 1), rfl, by omega, ⟨rfl, (kw_no (by unfold same; intro hh; exact hc6 hh.2.2.1)), rfl, rfl, rfl, rfl, rfl, rfl, rfl, rfl, trivial⟩, rfl, (by intro i hi; simp only [keys, List.cons_append, List.nil_append, List.map_cons, List.map_nil, List.mem_cons, List.not_mem_nil, or_false, false_or] at hi; omega), by omega⟩
                ·
                  refine OA.pure (dst := (some 41)) (v := (.bool false)) rfl rfl rfl (Eq.trans (r_bin rfl rfl rfl (b_eql rfl)) (by first | (rw [decide_eq_false hc5]; done) | (rw [decide_eq_false hc5]; rfl))) ?_
                  refine OA.pure (dst := (some 42)) (v := (.bool false)) rfl rfl rfl rfl ?_
                  refine OA.pure (dst := (some 43)) (v := (.bool false)) rfl rfl rfl rfl ?_
                  refine OA.off (dst := (some 44)) rfl rfl rfl ?_
                  refine OA.off (dst := (some 45)) rfl rfl rfl ?_
                  refine OA.off (dst := (some 46)) rfl rfl rfl ?_
                  refine OA.off (dst := (some 47)) rfl rfl rfl ?_
                  refine OA.off (dst := (some 48)) rfl rfl rfl ?_
                  refine OA.pure (dst := (some 49)) (v := (.bool false)) rfl rfl rfl rfl ?_
                  refine OA.pure (dst := (some 50)) (v := (.bool false)) rfl rfl rfl rfl ?_
                  refine OA.off (dst := (some 51)) rfl rfl rfl ?_
                  refine OA.off (dst := (some 52)) rfl rfl rfl ?_
                  refine OA.off (dst := (some 53)) rfl rfl rfl ?_
                  refine OA.off (dst := (some 54)) rfl rfl rfl ?_
                  refine OA.off (dst := (some 55)) rfl rfl rfl ?_
                  refine OA.pure (dst := (some 56)) (v := (.bool false)) rfl rfl rfl rfl ?_
                  refine OA.nil ?_
                  intro _
                  refine RA.rebase [(0, (.slice (some ⟨j, 0, none⟩) N 0)), (5, (.int .i64 (kw (outr l i || innr l i jj) true))), (6, (.int .i64 ((i : Nat) : Int))), (7, (.pointer (some ⟨n1, 0, some 0⟩))), (9, (.pointer (some ⟨n2, 0, some 0⟩))), (16, (.slice (some ⟨j, 0, none⟩) N 0)), (17, (.int .i64 ((N : Nat) : Int))), (18, (.int .i64 ((i : Nat) : Int))), (25, (.slice (some ⟨j, 0, none⟩) i 0)), (26, (.int .i64 ((i : Nat) : Int))), (27, (.int .i64 ((jj : Nat) : Int))), (28, (.bool true)), (56, (.bool false))] ⟨rfl, rfl, rfl, rfl, rfl, rfl, rfl, rfl, rfl, rfl, rfl, rfl, rfl, trivial⟩ (fun τr6 => ?_)
                  refine RA.cond (t := false) rfl (fun hc => ?_) (fun hc => ?_)
                  · cases hc
                  ·
                    refine RA.skip env_ok ?_
                    intro _
                    refine RA.region env_ok ?_
                    refine OA.pure (dst := (some 59)) (v := (.int .i64 (((jj + 1) : Nat) : Int))) rfl rfl rfl (r_bin rfl rfl rfl (b_add (i64_eq (by omega)))) ?_
                    refine OA.pure (dst := (some 27)) (v := (.int .i64 (((jj + 1) : Nat) : Int))) rfl rfl rfl rfl ?_
                    refine OA.nil ?_
                    refine ⟨(i - (jj + 1)), by omega, [(n1, some ⟨[[(W (l.getD i e0).inner), (.int .i64 (l.getD i e0).port), (W (l.getD i e0).peer), (.int .i64 (l.getD i e0).pport), (W (l.getD i e0).inn), (W (l.getD i e0).out), (.int .i64 (l.getD i e0).seen)]], 7, 26, true⟩)], (Less.of (by simp only [List.forall_mem_cons, List.not_mem_nil, false_imp_iff, implies_true, and_true]; exact ⟨by simp only [keys, List.cons_append, List.nil_append, List.map_cons, List.map_nil, List.mem_cons, true_or, or_true], fun _ => (get_here).trans ((get_there (by omega) (get_there (by omega) get_here))).symm⟩) (by intro x hx; simp only [keys, List.cons_append, List.nil_append, List.map_cons, List.map_nil, List.mem_cons, List.not_mem_nil, or_false, false_or] at hx ⊢; omega)), (jj + 1), rfl, by omega, ⟨rfl, (kw_no (by unfold same; intro hh; exact hc5 hh.2.1)), rfl, rfl, rfl, rfl, rfl, rfl, rfl, rfl, trivial⟩, rfl, (by intro i hi; simp only [keys, List.cons_append, List.nil_append, List.map_cons, List.map_nil, List.mem_cons, List.not_mem_nil, or_false, false_or] at hi; omega), by omega⟩
              ·
                refine OA.pure (dst := (some 35)) (v := (.bool false)) rfl rfl rfl (Eq.trans (r_bin rfl rfl rfl (b_eql rfl)) (by first | (rw [decide_eq_false hc4]; done) | (rw [decide_eq_false hc4]; rfl))) ?_
                refine OA.pure (dst := (some 36)) (v := (.bool false)) rfl rfl rfl rfl ?_
                refine OA.off (dst := (some 37)) rfl rfl rfl ?_
                refine OA.off (dst := (some 38)) rfl rfl rfl ?_
                refine OA.off (dst := (some 39)) rfl rfl rfl ?_
                refine OA.off (dst := (some 40)) rfl rfl rfl ?_
                refine OA.off (dst := (some 41)) rfl rfl rfl ?_
                refine OA.pure (dst := (some 42)) (v := (.bool false)) rfl rfl rfl rfl ?_
                refine OA.pure (dst := (some 43)) (v := (.bool false)) rfl rfl rfl rfl ?_
                refine OA.off (dst := (some 44)) rfl rfl rfl ?_
                refine OA.off (dst := (some 45)) rfl rfl rfl ?_
                refine OA.off (dst := (some 46)) rfl rfl rfl ?_
                refine OA.off (dst := (some 47)) rfl rfl rfl ?_
                refine OA.off (dst := (some 48)) rfl rfl rfl ?_
                refine OA.pure (dst := (some 49)) (v := (.bool false)) rfl rfl rfl rfl ?_
                refine OA.pure (dst := (some 50)) (v := (.bool false)) rfl rfl rfl rfl ?_
                refine OA.off (dst := (some 51)) rfl rfl rfl ?_
                refine OA.off (dst := (some 52)) rfl rfl rfl ?_
                refine OA.off (dst := (some 53)) rfl rfl rfl ?_
                refine OA.off (dst := (some 54)) rfl rfl rfl ?_
                refine OA.off (dst := (some 55)) rfl rfl rfl ?_
                refine OA.pure (dst := (some 56)) (v := (.bool false)) rfl rfl rfl rfl ?_
                refine OA.nil ?_
                intro _
                refine RA.rebase [(0, (.slice (some ⟨j, 0, none⟩) N 0)), (5, (.int .i64 (kw (outr l i || innr l i jj) true))), (6, (.int .i64 ((i : Nat) : Int))), (7, (.pointer (some ⟨n1, 0, some 0⟩))), (9, (.pointer (some ⟨n2, 0, some 0⟩))), (16, (.slice (some ⟨j, 0, none⟩) N 0)), (17, (.int .i64 ((N : Nat) : Int))), (18, (.int .i64 ((i : Nat) : Int))), (25, (.slice (some ⟨j, 0, none⟩) i 0)), (26, (.int .i64 ((i : Nat) : Int))), (27, (.int .i64 ((jj : Nat) : Int))), (28, (.bool true)), (56, (.bool false))] ⟨rfl, rfl, rfl, rfl, rfl, rfl, rfl, rfl, rfl, rfl, rfl, rfl, rfl, trivial⟩ (fun τr7 => ?_)
                refine RA.cond (t := false) rfl (fun hc => ?_) (fun hc => ?_)
                · cases hc
                ·
                  refine RA.skip env_ok ?_
                  intro _
                  refine RA.region env_ok ?_
                  refine OA.pure (dst := (some 59)) (v := (.int .i64 (((jj + 1) : Nat) : Int))) rfl rfl rfl (r_bin rfl rfl rfl (b_add (i64_eq (by omega)))) ?_
                  refine OA.pure (dst := (some 27)) (v := (.int .i64 (((jj + 1) : Nat) : Int))) rfl rfl rfl rfl ?_
                  refine OA.nil ?_
                  refine ⟨(i - (jj + 1)), by omega, [(n1, some ⟨[[(W (l.getD i e0).inner), (.int .i64 (l.getD i e0).port), (W (l.getD i e0).peer), (.int .i64 (l.getD i e0).pport), (W (l.getD i e0).inn), (W (l.getD i e0).out), (.int .i64 (l.getD i e0).seen)]], 7, 26, true⟩)], (Less.of (by simp only [List.forall_mem_cons, List.not_mem_nil, false_imp_iff, implies_true, and_true]; exact ⟨by simp only [keys, List.cons_append, List.nil_append, List.map_cons, List.map_nil, List.mem_cons, true_or, or_true], fun _ => (get_here).trans ((get_there (by omega) (get_there (by omega) get_here))).symm⟩) (by intro x hx; simp only [keys, List.cons_append, List.nil_append, List.map_cons, List.map_nil, List.mem_cons, List.not_mem_nil, or_false, false_or] at hx ⊢; omega)), (jj + 1), rfl, by omega, ⟨rfl, (kw_no (by unfold same; intro hh; exact hc4 hh.1)), rfl, rfl, rfl, rfl, rfl, rfl, rfl, rfl, trivial⟩, rfl, (by intro i hi; simp only [keys, List.cons_append, List.nil_append, List.map_cons, List.map_nil, List.mem_cons, List.not_mem_nil, or_false, false_or] at hi; omega), by omega⟩
            · cases hc
          ·
            refine OA.pure (dst := (some 28)) (v := (.bool false)) rfl rfl rfl (Eq.trans (r_bin rfl rfl rfl (b_lss rfl)) (by first | (rw [decide_eq_false hc3]; done) | (rw [decide_eq_false hc3]; rfl))) ?_
            refine OA.nil ?_
            intro _
            refine RA.seq hd ?_
            refine RA.cond (t := false) rfl (fun hc => ?_) (fun hc => ?_)
            · cases hc
            ·
              refine RA.exit env_ok ?_
              intro _
              refine RA.region env_ok ?_
              refine OA.pure (dst := (some 60)) (v := (.int .i64 (((i + 1) : Nat) : Int))) rfl rfl rfl (r_bin rfl rfl rfl (b_add (i64_eq (by omega)))) ?_
              refine OA.pure (dst := (some 18)) (v := (.int .i64 (((i + 1) : Nat) : Int))) rfl rfl rfl rfl ?_
              refine OA.nil ?_
              refine ⟨(N - (i + 1)), by omega, [], (Less.of (fun p hp => by simp at hp) (by intro x hx; simp only [keys, List.cons_append, List.nil_append, List.map_cons, List.map_nil, List.mem_cons, List.not_mem_nil, or_false, false_or] at hx ⊢; omega)), (i + 1), rfl, by omega, ⟨rfl, (by show Value.int _ _ = Value.int _ _; rw [show jj = i from by omega] <;> rfl), rfl, rfl, rfl, trivial⟩, rfl, (fun i hi => by cases hi), by omega⟩
        · cases hc
      ·
        refine OA.pure (dst := (some 19)) (v := (.bool false)) rfl rfl rfl (Eq.trans (r_bin rfl rfl rfl (b_lss rfl)) (by first | (rw [decide_eq_false hc2]; done) | (rw [decide_eq_false hc2]; rfl))) ?_
        refine OA.nil ?_
        intro _
        refine RA.seq hd ?_
        refine RA.cond (t := false) rfl (fun hc => ?_) (fun hc => ?_)
        · cases hc
        ·
          refine RA.exit env_ok ?_
          intro _
          refine RA.seq hd ?_
          refine RA.region env_ok ?_
          refine OA.pure (dst := (some 61)) (v := (.int .i64 (kw (outr l i) true))) rfl rfl rfl rfl ?_
          refine OA.pure (dst := (some 4)) (v := (.int .i64 (kw (outr l i) true))) rfl rfl rfl rfl ?_
          refine OA.nil ?_
          intro _
          refine RA.ret env_ok ?_
          refine ⟨.inr rfl, [(.int .i64 (kw (outr l i) true))], (resL_cons rfl resL_nil), (by rw [one, show i = N from by omega]; exact congrArg (fun t => Value.int .i64 (kw (outr l N) t)) (by first | exact (decide_eq_true (by omega)).symm | exact (decide_eq_false (by omega)).symm)), (fun i hi => by cases hi)⟩
    · cases hc
  ·
    refine OA.pure (dst := (some 13)) (v := (.bool false)) rfl rfl rfl (Eq.trans (r_bin rfl rfl rfl (b_gtr rfl)) (by first | (rw [decide_eq_false hc1]; done) | (rw [decide_eq_false hc1]; rfl))) ?_
    refine OA.nil ?_
    intro _
    refine RA.cond (t := false) rfl (fun hc => ?_) (fun hc => ?_)
    · cases hc
    ·
      refine RA.skip env_ok ?_
      intro _
      refine RA.seq hd ?_
      refine RA.seq hd ?_
      refine RA.region env_ok ?_
      refine OA.pure (dst := (some 16)) (v := (.slice (some ⟨j, 0, none⟩) N 0)) rfl rfl rfl rfl ?_
      refine OA.pure (dst := (some 17)) (v := (.int .i64 ((N : Nat) : Int))) rfl rfl rfl rfl ?_
      refine OA.pure (dst := (some 18)) (v := (.int .i64 0)) rfl rfl rfl rfl ?_
      refine OA.nil ?_
      intro _
      refine RA.block ?_
      refine RA.loop hd (fun kk_ τ n' D => ∃ i : Nat,  kk_ = (N - i) ∧ n ≤ n' ∧ Has τ [(0, (.slice (some ⟨j, 0, none⟩) N 0)), (5, (.int .i64 (kw (outr l i) false))), (16, (.slice (some ⟨j, 0, none⟩) N 0)), (17, (.int .i64 ((N : Nat) : Int))), (18, (.int .i64 ((i : Nat) : Int)))] ∧ D = [] ∧ (∀ i ∈ keys D, i < n') ∧ i ≤ N) ((N - 0)) ⟨0, rfl, by omega, ⟨rfl, rfl, rfl, rfl, rfl, trivial⟩, rfl, (fun i hi => by cases hi), by omega⟩ ?_
      rintro kn8 τ8 n8 _ ⟨i, rfl, hn8, hHn8, rfl, hKn8, hIn8⟩
      rw [Has.eq hHn8]
      simp only [keys, List.map, List.forall_mem_cons, List.mem_cons, List.not_mem_nil, false_imp_iff, implies_true, and_true] at hKn8
      refine RA.seq hd ?_
      refine RA.region env_ok ?_
      by_cases hc8 : ((i : Nat) : Int) < ((N : Nat) : Int)
      ·
        refine OA.pure (dst := (some 19)) (v := (.bool true)) rfl rfl rfl (Eq.trans (r_bin rfl rfl rfl (b_lss rfl)) (by first | (rw [decide_eq_true hc8]; done) | (rw [decide_eq_true hc8]; rfl))) ?_
        refine OA.nil ?_
        intro _
        refine RA.seq hd ?_
        refine RA.cond (t := true) rfl (fun hc => ?_) (fun hc => ?_)
        ·
          refine RA.skip env_ok ?_
          intro _
          refine RA.seq hd ?_
          refine RA.block ?_
          refine RA.seq hd ?_
          refine RA.region env_ok ?_
          refine OA.pure (dst := (some 20)) (v := (.int .i64 ((i : Nat) : Int))) rfl rfl rfl rfl ?_
          refine OA.pure (dst := (some 21)) (v := (.pointer (some ⟨j, i, some 0⟩))) rfl rfl rfl (r_iaS (l := i) rfl rfl rfl rfl rfl rfl (by omega) (by omega) hj rfl (by omega)) ?_
          refine OA.pure (dst := (some 22)) (v := (.agg ⟨[(W (l.getD i e0).inner), (.int .i64 (l.getD i e0).port), (W (l.getD i e0).peer), (.int .i64 (l.getD i e0).pport), (W (l.getD i e0).inn), (W (l.getD i e0).out), (.int .i64 (l.getD i e0).seen)]⟩)) rfl rfl rfl (r_loadA (e := ecell (l.getD i e0)) rfl rfl rfl rfl hj (rec_get (by rw [hl]; omega)) rfl rfl) ?_
          refine OA.op (dst := (some 7)) (v := (.pointer (some ⟨n8, 0, some 0⟩))) (n1 := (n8 + 1)) (d1 := [(n8, some ⟨[[(.int .u32 0), (.int .i64 0), (.int .u32 0), (.int .i64 0), (.int .u32 0), (.int .u32 0), (.int .i64 0)]], 7, 26, true⟩)]) (D' := [(n8, some ⟨[[(.int .u32 0), (.int .i64 0), (.int .u32 0), (.int .i64 0), (.int .u32 0), (.int .u32 0), (.int .i64 0)]], 7, 26, true⟩)]) rfl rfl rfl rfl (by omega) rfl ?_
          refine OA.pure (dst := (some 6)) (v := (.int .i64 ((i : Nat) : Int))) rfl rfl rfl rfl ?_
          refine OA.op (dst := none) (v := (.tuple #[])) (n1 := (n8 + 1)) (d1 := [(n8, some ⟨[[(W (l.getD i e0).inner), (.int .i64 (l.getD i e0).port), (W (l.getD i e0).peer), (.int .i64 (l.getD i e0).pport), (W (l.getD i e0).inn), (W (l.getD i e0).out), (.int .i64 (l.getD i e0).seen)]], 7, 26, true⟩)]) (D' := [(n8, some ⟨[[(W (l.getD i e0).inner), (.int .i64 (l.getD i e0).port), (W (l.getD i e0).peer), (.int .i64 (l.getD i e0).pport), (W (l.getD i e0).inn), (W (l.getD i e0).out), (.int .i64 (l.getD i e0).seen)]], 7, 26, true⟩), (n8, some ⟨[[(.int .u32 0), (.int .i64 0), (.int .u32 0), (.int .i64 0), (.int .u32 0), (.int .u32 0), (.int .i64 0)]], 7, 26, true⟩)]) rfl rfl rfl (r_store rfl rfl rfl rfl rfl rfl rfl get_here rfl rfl (Nat.le_of_ble_eq_true rfl) rfl) (by omega) rfl ?_
          refine OA.nil ?_
          intro _
          refine RA.seq hd ?_
          refine RA.region env_ok ?_
          refine OA.pure (dst := (some 23)) (v := (.slice (some ⟨j, 0, none⟩) N 0)) rfl rfl rfl rfl ?_
          refine OA.pure (dst := (some 24)) (v := (.int .i64 ((i : Nat) : Int))) rfl rfl rfl rfl ?_
          refine OA.pure (dst := (some 25)) (v := (.slice (some ⟨j, 0, none⟩) i 0)) rfl rfl rfl (r_cutL (h := i) rfl rfl rfl rfl rfl rfl (get_there (by omega) (get_there (by omega) hj)) rfl (by show (List.map ecell _).length = _; rw [List.length_map]; exact hl) (by omega)) ?_
          refine OA.pure (dst := (some 26)) (v := (.int .i64 ((i : Nat) : Int))) rfl rfl rfl rfl ?_
          refine OA.pure (dst := (some 27)) (v := (.int .i64 0)) rfl rfl rfl rfl ?_
          refine OA.nil ?_
          intro _
          refine RA.block ?_
          refine RA.weaken (D' := [(n8, some ⟨[[(W (l.getD i e0).inner), (.int .i64 (l.getD i e0).port), (W (l.getD i e0).peer), (.int .i64 (l.getD i e0).pport), (W (l.getD i e0).inn), (W (l.getD i e0).out), (.int .i64 (l.getD i e0).seen)]], 7, 26, true⟩)]) hd (Less.of (by simp only [List.forall_mem_cons, List.not_mem_nil, false_imp_iff, implies_true, and_true]; exact ⟨by simp only [keys, List.cons_append, List.nil_append, List.map_cons, List.map_nil, List.mem_cons, true_or, or_true], fun _ => (get_here).trans (get_here).symm⟩) (by intro x hx; simp only [keys, List.cons_append, List.nil_append, List.map_cons, List.map_nil, List.mem_cons, List.not_mem_nil, or_false, false_or] at hx ⊢; omega)) ?_
          refine RA.loop hd (fun kk_ τ n' D => ∃ jj : Nat,  kk_ = (i - jj) ∧ (n8 + 1) ≤ n' ∧ Has τ [(0, (.slice (some ⟨j, 0, none⟩) N 0)), (5, (.int .i64 (kw (outr l i || innr l i jj) false))), (6, (.int .i64 ((i : Nat) : Int))), (7, (.pointer (some ⟨n8, 0, some 0⟩))), (16, (.slice (some ⟨j, 0, none⟩) N 0)), (17, (.int .i64 ((N : Nat) : Int))), (18, (.int .i64 ((i : Nat) : Int))), (25, (.slice (some ⟨j, 0, none⟩) i 0)), (26, (.int .i64 ((i : Nat) : Int))), (27, (.int .i64 ((jj : Nat) : Int)))] ∧ D = [(n8, some ⟨[[(W (l.getD i e0).inner), (.int .i64 (l.getD i e0).port), (W (l.getD i e0).peer), (.int .i64 (l.getD i e0).pport), (W (l.getD i e0).inn), (W (l.getD i e0).out), (.int .i64 (l.getD i e0).seen)]], 7, 26, true⟩)] ∧ (∀ i ∈ keys D, i < n') ∧ jj ≤ i) ((i - 0)) ⟨0, rfl, by omega, ⟨rfl, (by show Value.int _ _ = Value.int _ _; simp [innr]), rfl, rfl, rfl, rfl, rfl, rfl, rfl, rfl, trivial⟩, rfl, (by intro i hi; simp only [keys, List.cons_append, List.nil_append, List.map_cons, List.map_nil, List.mem_cons, List.not_mem_nil, or_false, false_or] at hi; omega), by omega⟩ ?_
          rintro kn9 τ9 n9 _ ⟨jj, rfl, hn9, hHn9, rfl, hKn9, hIn9⟩
          rw [Has.eq hHn9]
          have hKn9_0 : n8 < n9 := hKn9 _ (by simp only [keys, List.map_cons, List.map_nil, List.mem_cons, true_or, or_true])
          simp only [keys, List.map, List.forall_mem_cons, List.mem_cons, List.not_mem_nil, false_imp_iff, implies_true, and_true] at hKn9
          refine RA.seq hd ?_
          refine RA.region env_ok ?_
          by_cases hc9 : ((jj : Nat) : Int) < ((i : Nat) : Int)
          ·
            refine OA.pure (dst := (some 28)) (v := (.bool true)) rfl rfl rfl (Eq.trans (r_bin rfl rfl rfl (b_lss rfl)) (by first | (rw [decide_eq_true hc9]; done) | (rw [decide_eq_true hc9]; rfl))) ?_
            refine OA.nil ?_
            intro _
            refine RA.seq hd ?_
            refine RA.cond (t := true) rfl (fun hc => ?_) (fun hc => ?_)
            ·
              refine RA.skip env_ok ?_
              intro _
              refine RA.seq hd ?_
              refine RA.block ?_
              refine RA.seq hd ?_
              refine RA.region env_ok ?_
              refine OA.pure (dst := (some 29)) (v := (.pointer (some ⟨j, jj, some 0⟩))) rfl rfl rfl (r_iaS (l := jj) rfl rfl rfl rfl rfl rfl (by omega) (by omega) (get_there (by omega) hj) rfl (by omega)) ?_
              refine OA.pure (dst := (some 30)) (v := (.agg ⟨[(W (l.getD jj e0).inner), (.int .i64 (l.getD jj e0).port), (W (l.getD jj e0).peer), (.int .i64 (l.getD jj e0).pport), (W (l.getD jj e0).inn), (W (l.getD jj e0).out), (.int .i64 (l.getD jj e0).seen)]⟩)) rfl rfl rfl (r_loadA (e := ecell (l.getD jj e0)) rfl rfl rfl rfl (get_there (by omega) hj) (rec_get (by rw [hl]; omega)) rfl rfl) ?_
              refine OA.op (dst := (some 9)) (v := (.pointer (some ⟨n9, 0, some 0⟩))) (n1 := (n9 + 1)) (d1 := [(n9, some ⟨[[(.int .u32 0), (.int .i64 0), (.int .u32 0), (.int .i64 0), (.int .u32 0), (.int .u32 0), (.int .i64 0)]], 7, 26, true⟩)]) (D' := [(n9, some ⟨[[(.int .u32 0), (.int .i64 0), (.int .u32 0), (.int .i64 0), (.int .u32 0), (.int .u32 0), (.int .i64 0)]], 7, 26, true⟩), (n8, some ⟨[[(W (l.getD i e0).inner), (.int .i64 (l.getD i e0).port), (W (l.getD i e0).peer), (.int .i64 (l.getD i e0).pport), (W (l.getD i e0).inn), (W (l.getD i e0).out), (.int .i64 (l.getD i e0).seen)]], 7, 26, true⟩)]) rfl rfl rfl rfl (by omega) rfl ?_
              refine OA.op (dst := none) (v := (.tuple #[])) (n1 := (n9 + 1)) (d1 := [(n9, some ⟨[[(W (l.getD jj e0).inner), (.int .i64 (l.getD jj e0).port), (W (l.getD jj e0).peer), (.int .i64 (l.getD jj e0).pport), (W (l.getD jj e0).inn), (W (l.getD jj e0).out), (.int .i64 (l.getD jj e0).seen)]], 7, 26, true⟩)]) (D' := [(n9, some ⟨[[(W (l.getD jj e0).inner), (.int .i64 (l.getD jj e0).port), (W (l.getD jj e0).peer), (.int .i64 (l.getD jj e0).pport), (W (l.getD jj e0).inn), (W (l.getD jj e0).out), (.int .i64 (l.getD jj e0).seen)]], 7, 26, true⟩), (n9, some ⟨[[(.int .u32 0), (.int .i64 0), (.int .u32 0), (.int .i64 0), (.int .u32 0), (.int .u32 0), (.int .i64 0)]], 7, 26, true⟩), (n8, some ⟨[[(W (l.getD i e0).inner), (.int .i64 (l.getD i e0).port), (W (l.getD i e0).peer), (.int .i64 (l.getD i e0).pport), (W (l.getD i e0).inn), (W (l.getD i e0).out), (.int .i64 (l.getD i e0).seen)]], 7, 26, true⟩)]) rfl rfl rfl (r_store rfl rfl rfl rfl rfl rfl rfl get_here rfl rfl (Nat.le_of_ble_eq_true rfl) rfl) (by omega) rfl ?_
              refine OA.nil ?_
              intro _
              refine RA.seq hd ?_
              refine RA.region env_ok ?_
              refine OA.pure (dst := (some 31)) (v := (.pointer (some ⟨n8, 0, some 2⟩))) rfl rfl rfl rfl ?_
              refine OA.pure (dst := (some 32)) (v := (W (l.getD i e0).peer)) rfl rfl rfl (r_load1 rfl rfl rfl rfl rfl (get_there (by omega) (get_there (by omega) get_here)) rfl rfl) ?_
              refine OA.pure (dst := (some 33)) (v := (.pointer (some ⟨n9, 0, some 2⟩))) rfl rfl rfl rfl ?_
              refine OA.pure (dst := (some 34)) (v := (W (l.getD jj e0).peer)) rfl rfl rfl (r_load1 rfl rfl rfl rfl rfl get_here rfl rfl) ?_
              by_cases hc10 : ((l.getD i e0).peer.toNat : Int) = ((l.getD jj e0).peer.toNat : Int)
              ·
                refine OA.pure (dst := (some 35)) (v := (.bool true)) rfl rfl rfl (Eq.trans (r_bin rfl rfl rfl (b_eql rfl)) (by first | (rw [decide_eq_true hc10]; done) | (rw [decide_eq_true hc10]; rfl))) ?_
                refine OA.pure (dst := (some 36)) (v := (.bool true)) rfl rfl rfl rfl ?_
                refine OA.pure (dst := (some 37)) (v := (.pointer (some ⟨n8, 0, some 3⟩))) rfl rfl rfl rfl ?_
                refine OA.pure (dst := (some 38)) (v := (.int .i64 (l.getD i e0).pport)) rfl rfl rfl (r_load1 rfl rfl rfl rfl rfl (get_there (by omega) (get_there (by omega) get_here)) rfl rfl) ?_
                refine OA.pure (dst := (some 39)) (v := (.pointer (some ⟨n9, 0, some 3⟩))) rfl rfl rfl rfl ?_
                refine OA.pure (dst := (some 40)) (v := (.int .i64 (l.getD jj e0).pport)) rfl rfl rfl (r_load1 rfl rfl rfl rfl rfl get_here rfl rfl) ?_
                by_cases hc11 : (l.getD i e0).pport = (l.getD jj e0).pport
                ·
                  refine OA.pure (dst := (some 41)) (v := (.bool true)) rfl rfl rfl (Eq.trans (r_bin rfl rfl rfl (b_eql rfl)) (by first | (rw [decide_eq_true hc11]; done) | (rw [decide_eq_true hc11]; rfl))) ?_
                  refine OA.pure (dst := (some 42)) (v := (.bool true)) rfl rfl rfl rfl ?_
                  refine OA.pure (dst := (some 43)) (v := (.bool true)) rfl rfl rfl rfl ?_
                  refine OA.pure (dst := (some 44)) (v := (.pointer (some ⟨n8, 0, some 1⟩))) rfl rfl rfl rfl ?_
                  refine OA.pure (dst := (some 45)) (v := (.int .i64 (l.getD i e0).port)) rfl rfl rfl (r_load1 rfl rfl rfl rfl rfl (get_there (by omega) (get_there (by omega) get_here)) rfl rfl) ?_
                  refine OA.pure (dst := (some 46)) (v := (.pointer (some ⟨n9, 0, some 1⟩))) rfl rfl rfl rfl ?_
                  refine OA.pure (dst := (some 47)) (v := (.int .i64 (l.getD jj e0).port)) rfl rfl rfl (r_load1 rfl rfl rfl rfl rfl get_here rfl rfl) ?_
                  by_cases hc12 : (l.getD i e0).port = (l.getD jj e0).port
                  ·
                    refine OA.pure (dst := (some 48)) (v := (.bool true)) rfl rfl rfl (Eq.trans (r_bin rfl rfl rfl (b_eql rfl)) (by first | (rw [decide_eq_true hc12]; done) | (rw [decide_eq_true hc12]; rfl))) ?_
                    refine OA.pure (dst := (some 49)) (v := (.bool true)) rfl rfl rfl rfl ?_
                    refine OA.pure (dst := (some 50)) (v := (.bool true)) rfl rfl rfl rfl ?_
                    refine OA.pure (dst := (some 51)) (v := (.pointer (some ⟨n8, 0, some 4⟩))) rfl rfl rfl rfl ?_
                    refine OA.pure (dst := (some 52)) (v := (W (l.getD i e0).inn)) rfl rfl rfl (r_load1 rfl rfl rfl rfl rfl (get_there (by omega) (get_there (by omega) get_here)) rfl rfl) ?_
                    refine OA.pure (dst := (some 53)) (v := (.pointer (some ⟨n9, 0, some 4⟩))) rfl rfl rfl rfl ?_
                    refine OA.pure (dst := (some 54)) (v := (W (l.getD jj e0).inn)) rfl rfl rfl (r_load1 rfl rfl rfl rfl rfl get_here rfl rfl) ?_
                    by_cases hc13 : ((l.getD i e0).inn.toNat : Int) = ((l.getD jj e0).inn.toNat : Int)
                    ·
                      refine OA.pure (dst := (some 55)) (v := (.bool true)) rfl rfl rfl (Eq.trans (r_bin rfl rfl rfl (b_eql rfl)) (by first | (rw [decide_eq_true hc13]; done) | (rw [decide_eq_true hc13]; rfl))) ?_
                      refine OA.pure (dst := (some 56)) (v := (.bool true)) rfl rfl rfl rfl ?_
                      refine OA.nil ?_
                      intro _
                      refine RA.rebase [(0, (.slice (some ⟨j, 0, none⟩) N 0)), (5, (.int .i64 (kw (outr l i || innr l i jj) false))), (6, (.int .i64 ((i : Nat) : Int))), (7, (.pointer (some ⟨n8, 0, some 0⟩))), (9, (.pointer (some ⟨n9, 0, some 0⟩))), (16, (.slice (some ⟨j, 0, none⟩) N 0)), (17, (.int .i64 ((N : Nat) : Int))), (18, (.int .i64 ((i : Nat) : Int))), (25, (.slice (some ⟨j, 0, none⟩) i 0)), (26, (.int .i64 ((i : Nat) : Int))), (27, (.int .i64 ((jj : Nat) : Int))), (28, (.bool true)), (56, (.bool true))] ⟨rfl, rfl, rfl, rfl, rfl, rfl, rfl, rfl, rfl, rfl, rfl, rfl, rfl, trivial⟩ (fun τr10 => ?_)
                      refine RA.cond (t := true) rfl (fun hc => ?_) (fun hc => ?_)
                      ·
                        refine RA.region env_ok ?_
                        refine OA.pure (dst := (some 57)) (v := (.int .i64 (kw (outr l i || innr l i jj) false))) rfl rfl rfl rfl ?_
                        refine OA.pure (dst := (some 58)) (v := (.int .i64 (kw true false))) rfl rfl rfl (r_bin rfl rfl rfl (b_kw4 (outr l i || innr l i jj) false)) ?_
                        refine OA.pure (dst := (some 5)) (v := (.int .i64 (kw true false))) rfl rfl rfl rfl ?_
                        refine OA.nil ?_
                        intro _
                        refine RA.region env_ok ?_
                        refine OA.pure (dst := (some 59)) (v := (.int .i64 (((jj + 1) : Nat) : Int))) rfl rfl rfl (r_bin rfl rfl rfl (b_add (i64_eq (by omega)))) ?_
                        refine OA.pure (dst := (some 27)) (v := (.int .i64 (((jj + 1) : Nat) : Int))) rfl rfl rfl rfl ?_
                        refine OA.nil ?_
                        refine ⟨(i - (jj + 1)), by omega, [(n8, some ⟨[[(W (l.getD i e0).inner), (.int .i64 (l.getD i e0).port), (W (l.getD i e0).peer), (.int .i64 (l.getD i e0).pport), (W (l.getD i e0).inn), (W (l.getD i e0).out), (.int .i64 (l.getD i e0).seen)]], 7, 26, true⟩)], (Less.of (by simp only [List.forall_mem_cons, List.not_mem_nil, false_imp_iff, implies_true, and_true]; exact ⟨by simp only [keys, List.cons_append, List.nil_append, List.map_cons, List.map_nil, List.mem_cons, true_or, or_true], fun _ => (get_here).trans ((get_there (by omega) (get_there (by omega) get_here))).symm⟩) (by intro x hx; simp only [keys, List.cons_append, List.nil_append, List.map_cons, List.map_nil, List.mem_cons, List.not_mem_nil, or_false, false_or] at hx ⊢; omega)), (jj + 1), rfl, by omega, ⟨rfl, (kw_yes (by unfold same; exact ⟨hc10, hc11, hc12, hc13⟩)), rfl, rfl, rfl, rfl, rfl, rfl, rfl, rfl, trivial⟩, rfl, (by intro i hi; simp only [keys, List.cons_append, List.nil_append, List.map_cons, List.map_nil, List.mem_cons, List.not_mem_nil, or_false, false_or] at hi; omega), by omega⟩
                      · cases hc
                    ·
                      refine OA.pure (dst := (some 55)) (v := (.bool false)) rfl rfl rfl (Eq.trans (r_bin rfl rfl rfl (b_eql rfl)) (by first | (rw [decide_eq_false hc13]; done) | (rw [decide_eq_false hc13]; rfl))) ?_
                      refine OA.pure (dst := (some 56)) (v := (.bool false)) rfl rfl rfl rfl ?_
                      refine OA.nil ?_
                      intro _
                      refine RA.rebase [(0, (.slice (some ⟨j, 0, none⟩) N 0)), (5, (.int .i64 (kw (outr l i || innr l i jj) false))), (6, (.int .i64 ((i : Nat) : Int))), (7, (.pointer (some ⟨n8, 0, some 0⟩))), (9, (.pointer (some ⟨n9, 0, some 0⟩))), (16, (.slice (some ⟨j, 0, none⟩) N 0)), (17, (.int .i64 ((N : Nat) : Int))), (18, (.int .i64 ((i : Nat) : Int))), (25, (.slice (some ⟨j, 0, none⟩) i 0)), (26, (.int .i64 ((i : Nat) : Int))), (27, (.int .i64 ((jj : Nat) : Int))), (28, (.bool true)), (56, (.bool false))] ⟨rfl, rfl, rfl, rfl, rfl, rfl, rfl, rfl, rfl, rfl, rfl, rfl, rfl, trivial⟩ (fun τr11 => ?_)
                      refine RA.cond (t := false) rfl (fun hc => ?_) (fun hc => ?_)
                      · cases hc
                      ·
                        refine RA.skip env_ok ?_
                        intro _
                        refine RA.region env_ok ?_
                        refine OA.pure (dst := (some 59)) (v := (.int .i64 (((jj + 1) : Nat) : Int))) rfl rfl rfl (r_bin rfl rfl rfl (b_add (i64_eq (by omega)))) ?_
                        refine OA.pure (dst := (some 27)) (v := (.int .i64 (((jj + 1) : Nat) : Int))) rfl rfl rfl rfl ?_
                        refine OA.nil ?_
                        refine ⟨(i - (jj + 1)), by omega, [(n8, some ⟨[[(W (l.getD i e0).inner), (.int .i64 (l.getD i e0).port), (W (l.getD i e0).peer), (.int .i64 (l.getD i e0).pport), (W (l.getD i e0).inn), (W (l.getD i e0).out), (.int .i64 (l.getD i e0).seen)]], 7, 26, true⟩)], (Less.of (by simp only [List.forall_mem_cons, List.not_mem_nil, false_imp_iff, implies_true, and_true]; exact ⟨by simp only [keys, List.cons_append, List.nil_append, List.map_cons, List.map_nil, List.mem_cons, true_or, or_true], fun _ => (get_here).trans ((get_there (by omega) (get_there (by omega) get_here))).symm⟩) (by intro x hx; simp only [keys, List.cons_append, List.nil_append, List.map_cons, List.map_nil, List.mem_cons, List.not_mem_nil, or_false, false_or] at hx ⊢; omega)), (jj + 1), rfl, by omega, ⟨rfl, (kw_no (by unfold same; intro hh; exact hc13 hh.2.2.2)), rfl, rfl, rfl, rfl, rfl, rfl, rfl, rfl, trivial⟩, rfl, (by intro i hi; simp only [keys, List.cons_append, List.nil_append, List.map_cons, List.map_nil, List.mem_cons, List.not_mem_nil, or_false, false_or] at hi; omega), by omega⟩
                  ·
                    refine OA.pure (dst := (some 48)) (v := (.bool false)) rfl rfl rfl (Eq.trans (r_bin rfl rfl rfl (b_eql rfl)) (by first | (rw [decide_eq_false hc12]; done) | (rw [decide_eq_false hc12]; rfl))) ?_
                    refine OA.pure (dst := (some 49)) (v := (.bool false)) rfl rfl rfl rfl ?_
                    refine OA.pure (dst := (some 50)) (v := (.bool false)) rfl rfl rfl rfl ?_
                    refine OA.off (dst := (some 51)) rfl rfl rfl ?_
                    refine OA.off (dst := (some 52)) rfl rfl rfl ?_
                    refine OA.off (dst := (some 53)) rfl rfl rfl ?_
                    refine OA.off (dst := (some 54)) rfl rfl rfl ?_
                    refine OA.off (dst := (some 55)) rfl rfl rfl ?_
                    refine OA.pure (dst := (some 56)) (v := (.bool false)) rfl rfl rfl rfl ?_
                    refine OA.nil ?_
                    intro _
                    refine RA.rebase [(0, (.slice (some ⟨j, 0, none⟩) N 0)), (5, (.int .i64 (kw (outr l i || innr l i jj) false))), (6, (.int .i64 ((i : Nat) : Int))), (7, (.pointer (some ⟨n8, 0, some 0⟩))), (9, (.pointer (some ⟨n9, 0, some 0⟩))), (16, (.slice (some ⟨j, 0, none⟩) N 0)), (17, (.int .i64 ((N : Nat) : Int))), (18, (.int .i64 ((i : Nat) : Int))), (25, (.slice (some ⟨j, 0, none⟩) i 0)), (26, (.int .i64 ((i : Nat) : Int))), (27, (.int .i64 ((jj : Nat) : Int))), (28, (.bool true)), (56, (.bool false))] ⟨rfl, rfl, rfl, rfl, rfl, rfl, rfl, rfl, rfl, rfl, rfl, rfl, rfl, trivial⟩ (fun τr12 => ?_)
                    refine RA.cond (t := false) rfl (fun hc => ?_) (fun hc => ?_)
                    · cases hc
                    ·
                      refine RA.skip env_ok ?_
                      intro _
                      refine RA.region env_ok ?_
                      refine OA.pure (dst := (some 59)) (v := (.int .i64 (((jj + 1) : Nat) : Int))) rfl rfl rfl (r_bin rfl rfl rfl (b_add (i64_eq (by omega)))) ?_
                      refine OA.pure (dst := (some 27)) (v := (.int .i64 (((jj + 1) : Nat) : Int))) rfl rfl rfl rfl ?_
                      refine OA.nil ?_
                      refine ⟨(i - (jj + 1)), by omega, [(n8, some ⟨[[(W (l.getD i e0).inner), (.int .i64 (l.getD i e0).port), (W (l.getD i e0).peer), (.int .i64 (l.getD i e0).pport), (W (l.getD i e0).inn), (W (l.getD i e0).out), (.int .i64 (l.getD i e0).seen)]], 7, 26, true⟩)], (Less.of (by simp only [List.forall_mem_cons, List.not_mem_nil, false_imp_iff, implies_true, and_true]; exact ⟨by simp only [keys, List.cons_append, List.nil_append, List.map_cons, List.map_nil, List.mem_cons, true_or, or_true], fun _ => (get_here).trans ((get_there (by omega) (get_there (by omega) get_here))).symm⟩) (by intro x hx; simp only [keys, List.cons_append, List.nil_append, List.map_cons, List.map_nil, List.mem_cons, List.not_mem_nil, or_false, false_or] at hx ⊢; omega)), (jj + 1), rfl, by omega, ⟨rfl, (kw_no (by unfold same; intro hh; exact hc12 hh.2.2.1)), rfl, rfl, rfl, rfl, rfl, rfl, rfl, rfl, trivial⟩, rfl, (by intro i hi; simp only [keys, List.cons_append, List.nil_append, List.map_cons, List.map_nil, List.mem_cons, List.not_mem_nil, or_false, false_or] at hi; omega), by omega⟩
                ·
                  refine OA.pure (dst := (some 41)) (v := (.bool false)) rfl rfl rfl (Eq.trans (r_bin rfl rfl rfl (b_eql rfl)) (by first | (rw [decide_eq_false hc11]; done) | (rw [decide_eq_false hc11]; rfl))) ?_
                  refine OA.pure (dst := (some 42)) (v := (.bool false)) rfl rfl rfl rfl ?_
                  refine OA.pure (dst := (some 43)) (v := (.bool false)) rfl rfl rfl rfl ?_
                  refine OA.off (dst := (some 44)) rfl rfl rfl ?_
                  refine OA.off (dst := (some 45)) rfl rfl rfl ?_
                  refine OA.off (dst := (some 46)) rfl rfl rfl ?_
                  refine OA.off (dst := (some 47)) rfl rfl rfl ?_
                  refine OA.off (dst := (some 48)) rfl rfl rfl ?_
                  refine OA.pure (dst := (some 49)) (v := (.bool false)) rfl rfl rfl rfl ?_
                  refine OA.pure (dst := (some 50)) (v := (.bool false)) rfl rfl rfl rfl ?_
                  refine OA.off (dst := (some 51)) rfl rfl rfl ?_
                  refine OA.off (dst := (some 52)) rfl rfl rfl ?_
                  refine OA.off (dst := (some 53)) rfl rfl rfl ?_
                  refine OA.off (dst := (some 54)) rfl rfl rfl ?_
                  refine OA.off (dst := (some 55)) rfl rfl rfl ?_
                  refine OA.pure (dst := (some 56)) (v := (.bool false)) rfl rfl rfl rfl ?_
                  refine OA.nil ?_
                  intro _
                  refine RA.rebase [(0, (.slice (some ⟨j, 0, none⟩) N 0)), (5, (.int .i64 (kw (outr l i || innr l i jj) false))), (6, (.int .i64 ((i : Nat) : Int))), (7, (.pointer (some ⟨n8, 0, some 0⟩))), (9, (.pointer (some ⟨n9, 0, some 0⟩))), (16, (.slice (some ⟨j, 0, none⟩) N 0)), (17, (.int .i64 ((N : Nat) : Int))), (18, (.int .i64 ((i : Nat) : Int))), (25, (.slice (some ⟨j, 0, none⟩) i 0)), (26, (.int .i64 ((i : Nat) : Int))), (27, (.int .i64 ((jj : Nat) : Int))), (28, (.bool true)), (56, (.bool false))] ⟨rfl, rfl, rfl, rfl, rfl, rfl, rfl, rfl, rfl, rfl, rfl, rfl, rfl, trivial⟩ (fun τr13 => ?_)
                  refine RA.cond (t := false) rfl (fun hc => ?_) (fun hc => ?_)
                  · cases hc
                  ·
                    refine RA.skip env_ok ?_
                    intro _
                    refine RA.region env_ok ?_
                    refine OA.pure (dst := (some 59)) (v := (.int .i64 (((jj + 1) : Nat) : Int))) rfl rfl rfl (r_bin rfl rfl rfl (b_add (i64_eq (by omega)))) ?_
                    refine OA.pure (dst := (some 27)) (v := (.int .i64 (((jj + 1) : Nat) : Int))) rfl rfl rfl rfl ?_
                    refine OA.nil ?_
                    refine ⟨(i - (jj + 1)), by omega, [(n8, some ⟨[[(W (l.getD i e0).inner), (.int .i64 (l.getD i e0).port), (W (l.getD i e0).peer), (.int .i64 (l.getD i e0).pport), (W (l.getD i e0).inn), (W (l.getD i e0).out), (.int .i64 (l.getD i e0).seen)]], 7, 26, true⟩)], (Less.of (by simp only [List.forall_mem_cons, List.not_mem_nil, false_imp_iff, implies_true, and_true]; exact ⟨by simp only [keys, List.cons_append, List.nil_append, List.map_cons, List.map_nil, List.mem_cons, true_or, or_true], fun _ => (get_here).trans ((get_there (by omega) (get_there (by omega) get_here))).symm⟩) (by intro x hx; simp only [keys, List.cons_append, List.nil_append, List.map_cons, List.map_nil, List.mem_cons, List.not_mem_nil, or_false, false_or] at hx ⊢; omega)), (jj + 1), rfl, by omega, ⟨rfl, (kw_no (by unfold same; intro hh; exact hc11 hh.2.1)), rfl, rfl, rfl, rfl, rfl, rfl, rfl, rfl, trivial⟩, rfl, (by intro i hi; simp only [keys, List.cons_append, List.nil_append, List.map_cons, List.map_nil, List.mem_cons, List.not_mem_nil, or_false, false_or] at hi; omega), by omega⟩
              ·
                refine OA.pure (dst := (some 35)) (v := (.bool false)) rfl rfl rfl (Eq.trans (r_bin rfl rfl rfl (b_eql rfl)) (by first | (rw [decide_eq_false hc10]; done) | (rw [decide_eq_false hc10]; rfl))) ?_
                refine OA.pure (dst := (some 36)) (v := (.bool false)) rfl rfl rfl rfl ?_
                refine OA.off (dst := (some 37)) rfl rfl rfl ?_
                refine OA.off (dst := (some 38)) rfl rfl rfl ?_
                refine OA.off (dst := (some 39)) rfl rfl rfl ?_
                refine OA.off (dst := (some 40)) rfl rfl rfl ?_
                refine OA.off (dst := (some 41)) rfl rfl rfl ?_
                refine OA.pure (dst := (some 42)) (v := (.bool false)) rfl rfl rfl rfl ?_
                refine OA.pure (dst := (some 43)) (v := (.bool false)) rfl rfl rfl rfl ?_
                refine OA.off (dst := (some 44)) rfl rfl rfl ?_
                refine OA.off (dst := (some 45)) rfl rfl rfl ?_
                refine OA.off (dst := (some 46)) rfl rfl rfl ?_
                refine OA.off (dst := (some 47)) rfl rfl rfl ?_
                refine OA.off (dst := (some 48)) rfl rfl rfl ?_
                refine OA.pure (dst := (some 49)) (v := (.bool false)) rfl rfl rfl rfl ?_
                refine OA.pure (dst := (some 50)) (v := (.bool false)) rfl rfl rfl rfl ?_
                refine OA.off (dst := (some 51)) rfl rfl rfl ?_
                refine OA.off (dst := (some 52)) rfl rfl rfl ?_
                refine OA.off (dst := (some 53)) rfl rfl rfl ?_
                refine OA.off (dst := (some 54)) rfl rfl rfl ?_
                refine OA.off (dst := (some 55)) rfl rfl rfl ?_
                refine OA.pure (dst := (some 56)) (v := (.bool false)) rfl rfl rfl rfl ?_
                refine OA.nil ?_
                intro _
                refine RA.rebase [(0, (.slice (some ⟨j, 0, none⟩) N 0)), (5, (.int .i64 (kw (outr l i || innr l i jj) false))), (6, (.int .i64 ((i : Nat) : Int))), (7, (.pointer (some ⟨n8, 0, some 0⟩))), (9, (.pointer (some ⟨n9, 0, some 0⟩))), (16, (.slice (some ⟨j, 0, none⟩) N 0)), (17, (.int .i64 ((N : Nat) : Int))), (18, (.int .i64 ((i : Nat) : Int))), (25, (.slice (some ⟨j, 0, none⟩) i 0)), (26, (.int .i64 ((i : Nat) : Int))), (27, (.int .i64 ((jj : Nat) : Int))), (28, (.bool true)), (56, (.bool false))] ⟨rfl, rfl, rfl, rfl, rfl, rfl, rfl, rfl, rfl, rfl, rfl, rfl, rfl, trivial⟩ (fun τr14 => ?_)
                refine RA.cond (t := false) rfl (fun hc => ?_) (fun hc => ?_)
                · cases hc
                ·
                  refine RA.skip env_ok ?_
                  intro _
                  refine RA.region env_ok ?_
                  refine OA.pure (dst := (some 59)) (v := (.int .i64 (((jj + 1) : Nat) : Int))) rfl rfl rfl (r_bin rfl rfl rfl (b_add (i64_eq (by omega)))) ?_
                  refine OA.pure (dst := (some 27)) (v := (.int .i64 (((jj + 1) : Nat) : Int))) rfl rfl rfl rfl ?_
                  refine OA.nil ?_
                  refine ⟨(i - (jj + 1)), by omega, [(n8, some ⟨[[(W (l.getD i e0).inner), (.int .i64 (l.getD i e0).port), (W (l.getD i e0).peer), (.int .i64 (l.getD i e0).pport), (W (l.getD i e0).inn), (W (l.getD i e0).out), (.int .i64 (l.getD i e0).seen)]], 7, 26, true⟩)], (Less.of (by simp only [List.forall_mem_cons, List.not_mem_nil, false_imp_iff, implies_true, and_true]; exact ⟨by simp only [keys, List.cons_append, List.nil_append, List.map_cons, List.map_nil, List.mem_cons, true_or, or_true], fun _ => (get_here).trans ((get_there (by omega) (get_there (by omega) get_here))).symm⟩) (by intro x hx; simp only [keys, List.cons_append, List.nil_append, List.map_cons, List.map_nil, List.mem_cons, List.not_mem_nil, or_false, false_or] at hx ⊢; omega)), (jj + 1), rfl, by omega, ⟨rfl, (kw_no (by unfold same; intro hh; exact hc10 hh.1)), rfl, rfl, rfl, rfl, rfl, rfl, rfl, rfl, trivial⟩, rfl, (by intro i hi; simp only [keys, List.cons_append, List.nil_append, List.map_cons, List.map_nil, List.mem_cons, List.not_mem_nil, or_false, false_or] at hi; omega), by omega⟩
            · cases hc
          ·
            refine OA.pure (dst := (some 28)) (v := (.bool false)) rfl rfl rfl (Eq.trans (r_bin rfl rfl rfl (b_lss rfl)) (by first | (rw [decide_eq_false hc9]; done) | (rw [decide_eq_false hc9]; rfl))) ?_
            refine OA.nil ?_
            intro _
            refine RA.seq hd ?_
            refine RA.cond (t := false) rfl (fun hc => ?_) (fun hc => ?_)
            · cases hc
            ·
              refine RA.exit env_ok ?_
              intro _
              refine RA.region env_ok ?_
              refine OA.pure (dst := (some 60)) (v := (.int .i64 (((i + 1) : Nat) : Int))) rfl rfl rfl (r_bin rfl rfl rfl (b_add (i64_eq (by omega)))) ?_
              refine OA.pure (dst := (some 18)) (v := (.int .i64 (((i + 1) : Nat) : Int))) rfl rfl rfl rfl ?_
              refine OA.nil ?_
              refine ⟨(N - (i + 1)), by omega, [], (Less.of (fun p hp => by simp at hp) (by intro x hx; simp only [keys, List.cons_append, List.nil_append, List.map_cons, List.map_nil, List.mem_cons, List.not_mem_nil, or_false, false_or] at hx ⊢; omega)), (i + 1), rfl, by omega, ⟨rfl, (by show Value.int _ _ = Value.int _ _; rw [show jj = i from by omega] <;> rfl), rfl, rfl, rfl, trivial⟩, rfl, (fun i hi => by cases hi), by omega⟩
        · cases hc
      ·
        refine OA.pure (dst := (some 19)) (v := (.bool false)) rfl rfl rfl (Eq.trans (r_bin rfl rfl rfl (b_lss rfl)) (by first | (rw [decide_eq_false hc8]; done) | (rw [decide_eq_false hc8]; rfl))) ?_
        refine OA.nil ?_
        intro _
        refine RA.seq hd ?_
        refine RA.cond (t := false) rfl (fun hc => ?_) (fun hc => ?_)
        · cases hc
        ·
          refine RA.exit env_ok ?_
          intro _
          refine RA.seq hd ?_
          refine RA.region env_ok ?_
          refine OA.pure (dst := (some 61)) (v := (.int .i64 (kw (outr l i) false))) rfl rfl rfl rfl ?_
          refine OA.pure (dst := (some 4)) (v := (.int .i64 (kw (outr l i) false))) rfl rfl rfl rfl ?_
          refine OA.nil ?_
          intro _
          refine RA.ret env_ok ?_
          refine ⟨.inr rfl, [(.int .i64 (kw (outr l i) false))], (resL_cons rfl resL_nil), (by rw [one, show i = N from by omega]; exact congrArg (fun t => Value.int .i64 (kw (outr l N) t)) (by first | exact (decide_eq_true (by omega)).symm | exact (decide_eq_false (by omega)).symm)), (fun i hi => by cases hi)⟩
end Go.Proofs.Ytnjknabighmedaa.Vt
