/- slices.Insert of one element into a row of records: in place and grown; proved at the model itself. -/
import Derived.Test.YtmepflkodjdgdaaEnv
import Derived.Test.YtmepflkodjdgdaaVm7
import Derived.Shelf.RegionOpenPlain
import Derived.WalkKit
import Derived.Lib.Walk
import Derived.Lib.SliceRun
import Derived.Lib.JoinLaws
import Derived.Lib.AppendZeros
import Derived.Lib.AppendZerosOnto
import Derived.Lib.Overlaps
import Derived.Laws.Externs
import Derived.Laws.NewBlocks
import Derived.Laws.IdiomCopy
namespace Go.Proofs.Ytmepflkodjdgdaa.Vt
open Go Go.Proofs Go.Proofs.YtmepflkodjdgdaaV Go.Shelf Go.RowKit Go.Lib
set_option maxRecDepth 100000
set_option linter.unusedVariables false
set_option linter.unusedSimpArgs false
theorem in_copy {P : Program} (w : World) {o : Oper} {a : Act} {K : Act → World → Prop} {Q : Exit → Act → World → Prop} {d s : Operand} {t t' : TypeId} (ho : o.op = .call { callee := .builtin .copy, args := #[d, s], argTypes := #[t, t'] }) {v u v' : Value} {w' : World} (hd : a.eval d = v) (hs : a.eval s = u) (hr : (Builtin.copy_ #[t, t'] o.type #[v, u]).run P w = .ok v' w') (hK : K (a.put o.dst v') w') : o.wp P a w K Q := by
  unfold Oper.wp execOp
  simp only [ho, resolve, invoke, builtin, List.map_toArray, List.map_cons, List.map_nil, hd, hs, Sem.run_bind, Sem.run_pure, Result.andThen_ok, hr]
  exact hK
theorem in_copyL {P : Program} (w : World) {ops : Array Oper} {rest : List Oper} {o : Oper} {a : Act} {Q : Exit → Act → World → Prop} (hg : o.guard = none) {d s : Operand} {t t' : TypeId} (ho : o.op = .call { callee := .builtin .copy, args := #[d, s], argTypes := #[t, t'] }) {v u v' : Value} {w' : World} (hd : a.eval d = v) (hs : a.eval s = u) (hr : (Builtin.copy_ #[t, t'] o.type #[v, u]).run P w = .ok v' w') (h : wpList P ops Q rest (a.put o.dst v') w') : wpList P ops Q (o :: rest) a w :=
  wpList_plain hg fun _ hK => in_copy w ho hd hs hr (hK _ _ h)
theorem in_copyS {P : Program} {ops : Array Oper} {o : Oper} {a : Act} {w : World} {K : Act → World → Prop} {Q : Exit → Act → World → Prop} {X : Prop} (hg : o.guard = none) {d s : Operand} {t t' : TypeId} (ho : o.op = .call { callee := .builtin .copy, args := #[d, s], argTypes := #[t, t'] }) {v u v' : Value} {w' : World} (hd : a.eval d = v) (hs : a.eval s = u) (hr : (Builtin.copy_ #[t, t'] o.type #[v, u]).run P w = .ok v' w') (hK : K (a.put o.dst v') w') : if Region.wanted o (yielded ops a.tmps) = true then Oper.wp P o a w K Q else X := by
  rw [if_pos (by simp [Region.wanted, hg])]
  exact in_copy w ho hd hs hr hK
theorem copy_rows {P : Program} {E : Env} (hE : EnvOk P E) {t elem ty : Nat} {ti ei : TI} (ht : E.ty t = some ti) (hd : ti.d = .slice elem) (he : E.ty elem = some ei) {w : World} {b tt : Nat} {arr : Array Value} {fz : Nat × Nat} (hb : w.heap[b]? = some (.cells arr tt fz)) (hfz : ∀ k, k < arr.size → ¬ (fz.1 ≤ k ∧ k < fz.2)) {pos dLen dCap : Nat} {a : Addr} {sLen sCap k : Nat} {cs : List Value} (hk : min sLen dLen = k) (hcl : cs.length = k * ei.size) (hroom : pos + cs.length ≤ arr.size) (hsrc : ∀ (j : Nat) (v : Value), cs[j]? = some v → w.cell? (a.add j) = some v) (h1 : ∀ v ∈ cs, oneB v = true) :
    (Builtin.copy_ #[t, t] ty #[.slice (some ⟨b, pos, none⟩) dLen dCap, .slice (some a) sLen sCap]).run P w = .ok (goInt k) (w.setRow b ⟨ov arr.toList pos cs⟩) := by
  have hl := run_loadCells_list (P := P) w a cs hsrc
  have hst := storeCells_run P b tt fz pos cs 0 arr w hb hfz (by omega) h1
  rw [hcl] at hl
  subst hk
  unfold Builtin.copy_
  simp [und_run hE w ht, hd, size_run hE w he, Builtin.lenOf, Builtin.firstCells]
  rw [show Nat.min sLen dLen = min sLen dLen from rfl, hl]
  simp only [Result.andThen_ok, Nat.add_zero] at hst ⊢
  rw [hst]
  rfl
theorem ins_holds {ι : Inj} {Z N i q : Nat} {es : List (List Value)} {x cs vs A : List Value} (hN : es.length = N) (hi : i ≤ N) (hel : ∀ e ∈ es, e.length = Z) (hone : ∀ e ∈ es, e.all oneB = true) (hcs : VRs ι es.flatten cs) (hx : x.length = Z) (hx1 : x.all oneB = true) (hvs : VRs ι x vs)
    (h1 : ∀ m, m < i * Z → A[q + m]? = cs[m]?) (h2 : ∀ m, m < Z → A[q + (i * Z + m)]? = vs[m]?) (h3 : ∀ m, m < (N - i) * Z → A[q + ((i + 1) * Z + m)]? = cs[i * Z + m]?) : Holds ι Z (es.take i ++ [x] ++ es.drop i) A q := by
  have key : ∀ (k : Nat) (e : List Value), es[k]? = some e → ∀ (j : Nat) (v : Value), e[j]? = some v → j < Z ∧ k < N ∧ ∃ v', cs[k * Z + j]? = some v' ∧ VR ι v v' ∧ oneB v = true := fun k e he j v hv => by
    have hm := List.mem_of_getElem? he
    have hj : j < Z := by rw [← hel e hm]; exact (List.getElem?_eq_some_iff.1 hv).1
    have hk : k < N := by rw [← hN]; exact (List.getElem?_eq_some_iff.1 he).1
    have hf := flat_get hel k e j he hj
    rw [hv] at hf
    obtain ⟨v', g1, g2⟩ := hcs.get _ _ hf
    exact ⟨hj, hk, v', g1, g2, List.all_eq_true.1 (hone e hm) v (List.mem_of_getElem? hv)⟩
  intro k e he j v hv
  have hti : (es.take i).length = i := by rw [List.length_take]; omega
  by_cases hk : k < i
  · rw [List.append_assoc, List.getElem?_append_left (by omega), List.getElem?_take, if_pos hk] at he
    obtain ⟨hj, _, v', g1, g2, g3⟩ := key k e he j v hv
    have := mul_step hk hj
    exact ⟨v', by rw [Nat.add_assoc, h1 _ (by omega)]; exact g1, g2, g3⟩
  · by_cases hk2 : k = i
    · subst hk2
      rw [List.append_assoc, List.getElem?_append_right (by omega), hti, Nat.sub_self] at he
      simp at he
      subst he
      have hj : j < Z := by rw [← hx]; exact (List.getElem?_eq_some_iff.1 hv).1
      obtain ⟨v', g1, g2⟩ := hvs.get j v hv
      exact ⟨v', by rw [Nat.add_assoc, h2 _ hj]; exact g1, g2, List.all_eq_true.1 hx1 v (List.mem_of_getElem? hv)⟩
    · rw [List.getElem?_append_right (by rw [List.length_append, hti, List.length_singleton]; omega), List.length_append, hti, List.length_singleton, List.getElem?_drop] at he
      obtain ⟨hj, hkN, v', g1, g2, g3⟩ := key _ e he j v hv
      refine ⟨v', ?_, g2, g3⟩
      have e1 : k * Z = (i + 1) * Z + (k - (i + 1)) * Z := by rw [← Nat.add_mul]; congr 1; omega
      have e2 := mul_step (show k - (i + 1) < N - i by omega) hj
      rw [← g1, Nat.add_assoc, e1, Nat.add_assoc, h3 _ e2, show i + (k - (i + 1)) = i + (k - (i + 1)) from rfl, Nat.add_mul i, Nat.add_assoc]
theorem calls_imp {P : Program} {f : FuncId} {args : Array Value} {w : World} {R R' : Ending → World → Prop} (h : Calls P f args w R) (hR : ∀ e w', R e w' → R' e w') : Calls P f args w R' := by
  intro cs
  obtain ⟨e, w', fr, h1, h2⟩ := h cs
  exact ⟨e, w', fr, hR _ _ h1, h2⟩
def insL {α : Type} (l : List α) (i : Nat) (x : α) : List α := l.take i ++ [x] ++ l.drop i
theorem insL_len {α : Type} {l : List α} {i : Nat} {x : α} : (insL l i x).length = l.length + 1 := by
  unfold insL
  rw [List.length_append, List.length_append, List.length_take, List.length_drop, List.length_singleton]; omega
set_option maxHeartbeats 4000000 in
theorem ins_inGap {w : World} {b pos n c i vb voff vc tt : Nat} {arr : Array Value} {fz : Nat × Nat} {cs vs : List Value} (hi : i < n) (hroom : n + 1 ≤ c) (hn63 : n + 1 ≤ 9223372036854775807) (hvb : vb ≠ b) (hb : w.heap[b]? = some (.cells arr tt fz)) (hfz : ∀ k, k < arr.size → ¬ (fz.1 ≤ k ∧ k < fz.2)) (har : pos + c * 2 ≤ arr.size)
    (hcl : cs.length = n * 2) (hvl : vs.length = 2) (hcs : ∀ (j : Nat) (v : Value), cs[j]? = some v → w.cell? ⟨b, pos + j, none⟩ = some v) (hvs : ∀ (j : Nat) (v : Value), vs[j]? = some v → w.cell? ⟨vb, voff + j, none⟩ = some v) (h1c : ∀ v ∈ cs, oneB v = true) (h1v : ∀ v ∈ vs, oneB v = true)
    {tA kA tB kB : Nat} (hsa : w.shape? vb = some (tA, kA)) (hsb : w.shape? b = some (tB, kB)) (hkB : kB ≠ 0) (hfa : w.frozen? ⟨vb, voff, none⟩ = false) (hfe : w.frozen? ⟨vb, kA, none⟩ = false) :
    Calls Try.prog 99 #[.slice (some ⟨b, pos, none⟩) n c, .int .i64 i, .slice (some ⟨vb, voff, none⟩) 1 vc] w fun e w' =>
      e = .returned (.slice (some ⟨b, pos, none⟩) (n + 1) c) ∧ w' = (w.drew.setRow b ⟨ov arr.toList (pos + (i + 1) * 2) (cs.drop (i * 2))⟩).setRow b ⟨ov (ov arr.toList (pos + (i + 1) * 2) (cs.drop (i * 2))) (pos + i * 2) vs⟩ := by
  have E_T : env.ty 51 = some t51 := by kernel_rfl
  have E_E : env.ty 60 = some t60 := by kernel_rfl
  have hz1 : ¬ ((1 : Int) = 0) := by omega
  have hz2 : ¬ ((i : Int) = (n : Int)) := by omega
  have hz3 : ¬ ((c : Int) < (n : Int) + 1) := by omega
  have tT : Try.prog.underlying 51 = some (.slice 60) := Try.underlying51
  have tI : Try.prog.underlying 3 = some (.int .i64) := Try.underlying3
  have tBo : Try.prog.underlying 4 = some .bool := Try.underlying4
  have uT := run_underlying tT; have uI := run_underlying tI; have uB := run_underlying tBo
  have zE : ∀ w, (Go.sizeOf 60).run Try.prog w = .ok 2 w := fun w => size_run env_ok w E_E
  have hov : ∀ lb cb, (callFunc 105 #[.slice (some ⟨vb, voff, none⟩) 1 vc, .slice (some ⟨b, pos + (i + 1) * 2, none⟩) lb cb]).run Try.prog w = .ok (.value (.bool false)) w := fun lb cb => by
    rw [run_callFunc_extern (show Try.prog.funcs[105]? = some Try.f105 by kernel_rfl) (by kernel_rfl) (by kernel_rfl) (by kernel_rfl) (e := Extern.SlicesOverlaps.overlaps #[51, 51] #[4]) (by kernel_rfl),
      Lib.run_overlaps_apart w 51 4 60 tT 2 zE ⟨vb, voff, none⟩ ⟨b, pos + (i + 1) * 2, none⟩ 1 vc lb cb hvb tA tB kA kB hsa hsb hkB hfa hfe]
    rfl
  have mixed := env_ok.mixed
  have hdl : (cs.drop (i * 2)).length = (n - i) * 2 := by rw [List.length_drop, hcl, Nat.sub_mul]
  have hw1 : IntKind.i64.wrap ((i : Int) + 1) = (i : Int) + 1 := by rw [IntKind.wrap_i64]; omega
  have hw2 : IntKind.i64.wrap ((n : Int) + 1) = (n : Int) + 1 := by rw [IntKind.wrap_i64]; omega
  have hb1 : (0 : Int) ≤ (i : Int) + 1 := by omega
  have hb0 : (0 : Int) ≤ (n : Int) + 1 := by omega
  have hin : i ≤ n := by omega
  have htn : ((i : Int) + 1).toNat = i + 1 := by omega
  have htm : ((n : Int) + 1).toNat = n + 1 := by omega
  have hb2 : ¬ (c = i + 1) := by omega
  have hb3 : (i : Int) + 1 ≤ (n : Int) + 1 := by omega
  have hb4 : ¬ (c = i) := by omega
  have hb5 : (n : Int) + 1 ≤ (c : Int) := by omega
  have hb6 : (i : Int) ≤ (n : Int) + 1 := by omega
  have hm1 : (n - i) * 2 + (i + 1) * 2 ≤ c * 2 := by rw [← Nat.add_mul]; exact Nat.mul_le_mul_right _ (by omega)
  have hm2 : i * 2 + 2 ≤ c * 2 := by rw [← Nat.succ_mul]; exact Nat.mul_le_mul_right _ (by omega)
  have hr1 : pos + (i + 1) * 2 + (cs.drop (i * 2)).length ≤ arr.size := by rw [hdl]; omega
  have hsz1 : (ov arr.toList (pos + (i + 1) * 2) (cs.drop (i * 2))).length = arr.size := by rw [ov_length (by rw [Array.length_toList]; exact hr1), Array.length_toList]
  have hcp1 : ∀ ty dc sc, (Builtin.copy_ #[51, 51] ty #[.slice (some ⟨b, pos + (i + 1) * 2, none⟩) (n - i) dc, .slice (some ⟨b, pos + i * 2, none⟩) (n + 1 - i) sc]).run Try.prog w.drew = .ok (goInt (n - i : Nat)) (w.drew.setRow b ⟨ov arr.toList (pos + (i + 1) * 2) (cs.drop (i * 2))⟩) := fun ty dc sc =>
    copy_rows env_ok E_T rfl E_E (w := w.drew) (b := b) (tt := tt) (fz := fz) hb hfz (by omega) hdl hr1 (fun j v hj => by rw [List.getElem?_drop] at hj; rw [addr_add, Nat.add_assoc]; exact hcs _ v hj) (fun v hv => h1c v (List.mem_of_mem_drop hv))
  have hbW : (w.drew.setRow b ⟨ov arr.toList (pos + (i + 1) * 2) (cs.drop (i * 2))⟩).heap[b]? = some (.cells ⟨ov arr.toList (pos + (i + 1) * 2) (cs.drop (i * 2))⟩ tt fz) := setRow_heap _ _ _ _ _ _ hb
  have hcp2 : ∀ ty dc, (Builtin.copy_ #[51, 51] ty #[.slice (some ⟨b, pos + i * 2, none⟩) (n + 1 - i) dc, .slice (some ⟨vb, voff, none⟩) 1 vc]).run Try.prog (w.drew.setRow b ⟨ov arr.toList (pos + (i + 1) * 2) (cs.drop (i * 2))⟩) = .ok (goInt (1 : Nat)) ((w.drew.setRow b ⟨ov arr.toList (pos + (i + 1) * 2) (cs.drop (i * 2))⟩).setRow b ⟨ov (ov arr.toList (pos + (i + 1) * 2) (cs.drop (i * 2))) (pos + i * 2) vs⟩) := fun ty dc =>
    copy_rows env_ok E_T rfl E_E (w := (w.drew.setRow b ⟨ov arr.toList (pos + (i + 1) * 2) (cs.drop (i * 2))⟩)) (b := b) (tt := tt) (fz := fz) hbW (fun k hk => hfz k (by have h2 : k < (ov arr.toList (pos + (i + 1) * 2) (cs.drop (i * 2))).length := hk; omega)) (by omega) (by rw [hvl]; rfl) (by show _ ≤ (ov arr.toList (pos + (i + 1) * 2) (cs.drop (i * 2))).length; omega) (fun j v hj => by rw [addr_add, cell_block (setRow_other _ _ _ _ hvb)]; exact hvs j v hj) h1v
  go_enter (show Try.prog.funcs[99]? = some Try.f99 by kernel_rfl), (show Try.f99.ntmps = 95 from rfl)
  go_wp2_with (simp only [hov])
  go_region_law_o (refine in_copyS rfl rfl (by simp [Act.eval, Act.put]) (by simp [Act.eval, Act.put]) (hcp1 _ _ _) ?_)
  go_wp2_with (refine in_copyL _ rfl rfl rfl rfl (hcp2 _ _) ?_)
  go_ret
  exact ⟨rfl, rfl⟩
set_option maxHeartbeats 4000000 in
theorem ins_grGap {w : World} {b pos n c i vb voff vc : Nat} {cs vs : List Value} (hi : i < n) (hnc : n ≤ c) (hroom : c < n + 1) (hn32 : n + 1 ≤ 2000000000)
    (hcl : cs.length = n * 2) (hvl : vs.length = 2) (hcs : ∀ (j : Nat) (v : Value), cs[j]? = some v → w.cell? ⟨b, pos + j, none⟩ = some v) (hvs : ∀ (j : Nat) (v : Value), vs[j]? = some v → w.cell? ⟨vb, voff + j, none⟩ = some v) (h1c : ∀ v ∈ cs, oneB v = true) (h1v : ∀ v ∈ vs, oneB v = true) (hbw : b < w.heap.size) (hvw : vb < w.heap.size) :
    Calls Try.prog 99 #[.slice (some ⟨b, pos, none⟩) n c, .int .i64 i, .slice (some ⟨vb, voff, none⟩) 1 vc] w fun e w' =>
      ∃ (G : Nat) (row : List Value), n + 1 ≤ G ∧ row.length = G * 2 ∧ (∀ j, j < i * 2 → row[j]? = cs[j]?) ∧ (∀ j, j < 2 → row[i * 2 + j]? = vs[j]?) ∧ (∀ j, j < (n - i) * 2 → row[(i + 1) * 2 + j]? = cs[i * 2 + j]?) ∧
      e = .returned (.slice (some ⟨w.heap.size, 0, none⟩) (n + 1) G) ∧ ∃ dr, w' = { w with heap := w.heap.push (.cells ⟨row⟩ 60 (0, 0)), drawn := dr } := by
  have E_T : env.ty 51 = some t51 := by kernel_rfl
  have E_E : env.ty 60 = some t60 := by kernel_rfl
  have hz1 : ¬ ((1 : Int) = 0) := by omega
  have hz2 : ¬ ((i : Int) = (n : Int)) := by omega
  have hz3 : ((c : Int) < (n : Int) + 1) := by omega
  have tT : Try.prog.underlying 51 = some (.slice 60) := Try.underlying51
  have tI : Try.prog.underlying 3 = some (.int .i64) := Try.underlying3
  have tBo : Try.prog.underlying 4 = some .bool := Try.underlying4
  have uT := run_underlying tT; have uI := run_underlying tI; have uB := run_underlying tBo
  have zE : ∀ w, (Go.sizeOf 60).run Try.prog w = .ok 2 w := fun w => size_run env_ok w E_E
  have mixed := env_ok.mixed
  obtain ⟨_, i0, hi0, hz0, hzs0, hzb0⟩ := env_ok.ty _ _ E_E
  have hzs : i0.size = 2 := hzs0
  have hzb : i0.bytes = 16 := hzb0
  have hkk : (n : Int) + 1 - (i : Int) = ((n + 1 - i : Nat) : Int) := by omega
  have hik : i + (n + 1 - i) = n + 1 := by omega
  have hw2 : IntKind.i64.wrap ((n : Int) + 1) = (n : Int) + 1 := by rw [IntKind.wrap_i64]; omega
  have hw3 : IntKind.i64.wrap ((n : Int) + 1 - (i : Int)) = (n : Int) + 1 - (i : Int) := by rw [IntKind.wrap_i64]; omega
  have hw1 : IntKind.i64.wrap ((i : Int) + 1) = (i : Int) + 1 := by rw [IntKind.wrap_i64]; omega
  have hold : (Builtin.firstCells i0.size i (.slice (some ⟨b, pos, none⟩) i c)).run Try.prog w.drew = .ok (cs.take (i * 2)).toArray w.drew := by
    rw [hzs]
    exact run_firstCells_some w.drew 2 i ⟨b, pos, none⟩ i c (cs.take (i * 2)) (by rw [List.length_take, hcl]; have := Nat.mul_le_mul_right 2 (show i ≤ n by omega); omega) (fun j v hj => by
      rw [addr_add]
      rw [List.getElem?_take] at hj
      split at hj
      · exact hcs j v hj
      · cases hj)
  obtain ⟨G, hG⟩ : ∃ G, G = grownCap w (n + 1) c 60 := ⟨_, rfl⟩
  obtain ⟨ROW, hROW⟩ : ∃ ROW : Array Value, ROW = (cs.take (i * 2)).toArray ++ Builtin.zeroCells t60.zero.cells (n + 1 - i) ++ Builtin.zeroCells t60.zero.cells (G - (n + 1)) := ⟨_, rfl⟩
  have hrz : ∀ ty, (Builtin.append_ #[51, 3] ty #[.slice (some ⟨b, pos, none⟩) i c, .int .i64 ((n : Int) + 1 - (i : Int))]).run Try.prog w =
      .ok (.slice (some ⟨w.heap.size, 0, none⟩) (n + 1) G) (w.drew.alloc (.cells ROW 60)) := fun ty => by
    have h := Lib.run_append_grow_zeros w 51 3 ty 60 i0 _ .i64 .i64 tT tI hi0 hz0 (some ⟨b, pos, none⟩) i c (cs.take (i * 2)) hold (n + 1 - i) (by omega) (by omega) (by omega) (by omega) (by rw [hzb]; omega) (by rw [hzb, hik]; exact growslice_fits hroom (by omega))
    rw [hik] at h
    rw [hkk, hROW, hG]
    exact h
  have hGn : n + 1 ≤ G := by rw [hG]; exact grownCap_ge w _ _ _
  have hG63 : G ≤ 9223372036854775807 := by
    have := grownCap_le_maxLen w (n + 1) c 60 (by unfold maxLen; omega)
    rw [← hG] at this
    unfold maxLen at this
    omega
  have hil : i * 2 ≤ n * 2 := Nat.mul_le_mul_right _ (by omega)
  have hzc : t60.zero.cells.size = 2 := by kernel_rfl
  have hRs : ROW.size = G * 2 := by
    rw [hROW]
    simp [Builtin.zeroCells, hzc, List.length_take, hcl, Nat.min_eq_left hil]
    have e1 : i * 2 + (n + 1 - i) * 2 + (G - (n + 1)) * 2 = (i + (n + 1 - i) + (G - (n + 1))) * 2 := by rw [Nat.add_mul, Nat.add_mul]
    omega
  have hNh : (w.drew.alloc (.cells ROW 60)).heap[w.heap.size]? = some (.cells ROW 60 (0, 0)) := by show (w.heap.push _)[w.heap.size]? = _; simp
  have hdl : (cs.drop (i * 2)).length = (n - i) * 2 := by rw [List.length_drop, hcl, Nat.sub_mul]
  have hm1 : (n - i) * 2 + (i + 1) * 2 ≤ G * 2 := by rw [← Nat.add_mul]; exact Nat.mul_le_mul_right _ (by omega)
  have hm2 : i * 2 + 2 ≤ G * 2 := by rw [← Nat.succ_mul]; exact Nat.mul_le_mul_right _ (by omega)
  have hfz0 : ∀ k : Nat, k < ROW.size → ¬ ((0 : Nat) ≤ k ∧ k < 0) := fun k _ h => by omega
  have hr1 : i * 2 + vs.length ≤ ROW.size := by rw [hvl, hRs]; exact hm2
  have hcpA : ∀ ty dc, (Builtin.copy_ #[51, 51] ty #[.slice (some ⟨w.heap.size, i * 2, none⟩) (n + 1 - i) dc, .slice (some ⟨vb, voff, none⟩) 1 vc]).run Try.prog (w.drew.alloc (.cells ROW 60)) = .ok (goInt (1 : Nat)) ((w.drew.alloc (.cells ROW 60)).setRow w.heap.size ⟨ov ROW.toList (i * 2) vs⟩) := fun ty dc =>
    copy_rows env_ok E_T rfl E_E (fz := (0, 0)) hNh hfz0 (by omega) (by rw [hvl]; rfl) hr1 (fun j v hj => by rw [addr_add, World.cell?_alloc_past (w := w.drew) _ vb _ hvw]; exact hvs j v hj) h1v
  have hbW : ((w.drew.alloc (.cells ROW 60)).setRow w.heap.size ⟨ov ROW.toList (i * 2) vs⟩).heap[w.heap.size]? = some (.cells ⟨ov ROW.toList (i * 2) vs⟩ 60 (0, 0)) := setRow_heap _ _ _ _ _ _ hNh
  have hs1 : (ov ROW.toList (i * 2) vs).length = G * 2 := by rw [ov_length (by rw [Array.length_toList]; exact hr1), Array.length_toList, hRs]
  have hr2 : (i + 1) * 2 + (cs.drop (i * 2)).length ≤ (ov ROW.toList (i * 2) vs).length := by rw [hdl, hs1]; omega
  have hcpB : ∀ ty dc sc, (Builtin.copy_ #[51, 51] ty #[.slice (some ⟨w.heap.size, (i + 1) * 2, none⟩) (n - i) dc, .slice (some ⟨b, pos + i * 2, none⟩) (n - i) sc]).run Try.prog ((w.alloc (.cells ROW 60)).drew.setRow w.heap.size ⟨ov ROW.toList (i * 2) vs⟩).drew = .ok (goInt (n - i : Nat)) (((w.alloc (.cells ROW 60)).drew.setRow w.heap.size ⟨ov ROW.toList (i * 2) vs⟩).drew.setRow w.heap.size ⟨ov (ov ROW.toList (i * 2) vs) ((i + 1) * 2) (cs.drop (i * 2))⟩) := fun ty dc sc =>
    copy_rows env_ok E_T rfl E_E (w := ((w.alloc (.cells ROW 60)).drew.setRow w.heap.size ⟨ov ROW.toList (i * 2) vs⟩).drew) (fz := (0, 0)) hbW (fun k _ h => by omega) (by omega) hdl hr2 (fun j v hj => by
        rw [List.getElem?_drop] at hj
        rw [addr_add, Nat.add_assoc]
        show ((w.drew.alloc (.cells ROW 60)).setRow w.heap.size _).cell? _ = _
        rw [cell_block (setRow_other _ _ _ _ (by omega)), World.cell?_alloc_past (w := w.drew) _ b _ hbw]
        exact hcs _ v hj) (fun v hv => h1c v (List.mem_of_mem_drop hv))
  have hGi : ¬ (G = i) := by omega
  have hGim : ¬ (G = i + 1) := by omega
  have hci : ¬ (c = i) := by omega
  have hb1 : (0 : Int) ≤ (i : Int) + 1 := by omega
  have hin : i ≤ n := by omega
  have hin1 : i ≤ n + 1 := by omega
  have htn : ((i : Int) + 1).toNat = i + 1 := by omega
  have hb3 : (i : Int) + 1 ≤ (n : Int) + 1 := by omega
  have hb5 : (i : Int) ≤ (n : Int) + 1 := by omega
  have fin : ∀ dr, ∃ (G' : Nat) (row : List Value), n + 1 ≤ G' ∧ row.length = G' * 2 ∧ (∀ j, j < i * 2 → row[j]? = cs[j]?) ∧ (∀ j, j < 2 → row[i * 2 + j]? = vs[j]?) ∧ (∀ j, j < (n - i) * 2 → row[(i + 1) * 2 + j]? = cs[i * 2 + j]?) ∧
      Ending.returned (.slice (some ⟨w.heap.size, 0, none⟩) (n + 1) G) = .returned (.slice (some ⟨w.heap.size, 0, none⟩) (n + 1) G') ∧ ∃ dr', ({ w with heap := w.heap.push (.cells ⟨ov (ov ROW.toList (i * 2) vs) ((i + 1) * 2) (cs.drop (i * 2))⟩ 60 (0, 0)), drawn := dr } : World) = { w with heap := w.heap.push (.cells ⟨row⟩ 60 (0, 0)), drawn := dr' } := fun dr => by
    have hi1 : (i + 1) * 2 = i * 2 + 2 := Nat.succ_mul _ _
    refine ⟨G, ov (ov ROW.toList (i * 2) vs) ((i + 1) * 2) (cs.drop (i * 2)), hGn, by rw [ov_length hr2, hs1], fun j hj => ?_, fun j hj => ?_, fun j hj => ?_, rfl, dr, rfl⟩
    · rw [ov_get hr2, if_pos (by omega), ov_get (by rw [Array.length_toList]; exact hr1), if_pos hj, hROW]
      simp only [Array.toList_append, List.append_assoc]
      rw [List.getElem?_append_left (by rw [List.length_take, hcl]; omega), List.getElem?_take, if_pos hj]
    · rw [ov_get hr2, if_pos (by omega), ov_get (by rw [Array.length_toList]; exact hr1), if_neg (by omega), if_pos (by omega)]
      congr 1
      omega
    · rw [ov_get hr2, if_neg (by omega), if_pos (by rw [hdl]; omega), List.getElem?_drop]
      congr 1
      omega
  have hfinW : (((w.alloc (.cells ROW 60)).drew.setRow w.heap.size ⟨ov ROW.toList (i * 2) vs⟩).drew.setRow w.heap.size ⟨ov (ov ROW.toList (i * 2) vs) ((i + 1) * 2) (cs.drop (i * 2))⟩) = { w with heap := w.heap.push (.cells ⟨ov (ov ROW.toList (i * 2) vs) ((i + 1) * 2) (cs.drop (i * 2))⟩ 60 (0, 0)), drawn := w.drawn + 1 + 1 } := by
    simp only [World.setRow, World.alloc, World.drew, modify_push]
  clear hkk hik hold hROW hG hRs hzc hi0 hz0 hzs0 hzb0 hzs hzb
  go_enter (show Try.prog.funcs[99]? = some Try.f99 by kernel_rfl), (show Try.f99.ntmps = 95 from rfl)
  go_wp2_with (first
    | (at_builtin; refine Lib.wpList_append_run _ rfl _ _ _ _ rfl _ _ rfl rfl _ _ (hrz _) ?_)
    | (refine in_copyL _ rfl rfl rfl rfl (hcpA _ _) ?_))
  go_region_law_o (refine in_copyS rfl rfl (by simp [Act.eval, Act.put]) (by simp [Act.eval, Act.put]) (hcpB _ _ _) ?_)
  go_wp2
  go_ret
  exact fin _
theorem insSCGap {α : Type} {c : α → List Value} (hc : ∀ a, (c a).length = 2) {n j m off N i c' t' : Nat} {l : List α} {x : α} {σ : Store} (hj : σ j = some ⟨l.map c, 2, 60, true⟩) (hm : σ m = some ⟨[c x], 2, t', true⟩) (hjm : m ≠ j) (hl : off + N ≤ l.length) (hi : i < N) (hN : N ≤ 1000000) :
    SC Try.prog noDen 99 [.slice (some ⟨j, off, none⟩) N 2, .int .i64 ((i : Nat) : Int), .slice (some ⟨m, 0, none⟩) 1 c'] n σ (.slice (some ⟨n, 0, none⟩) (N + 1) 2) (n + 1) [(n, some ⟨(insL ((l.drop off).take N) i x).map c, 2, 60, true⟩), (j, none)] := by
  refine ⟨fun aa w => ?_, ⟨by omega, fun y hy => ?_⟩, fun N0 w0 σ2 ι w args' R hs hR hargs hf hK => ?_⟩
  · unfold callFunc
    simp only [Sem.run_bind, run_program, Result.andThen_ok, show Try.prog.funcs[99]? = some Try.f99 by kernel_rfl, show (Try.f99.name == "runtime.NumGoroutine") = false by kernel_rfl, Bool.false_eq_true, if_false, show Try.f99.body.isNone = false from rfl, Sem.run_pure]
  · simp [keys] at hy
    rcases hy with rfl | rfl
    · exact .inr ⟨Nat.le_refl _, by omega⟩
    · left; rw [hj]; rfl
  · have hj2 := hs j _ hj
    have hm2 := hs m _ hm
    cases hargs with | cons hv1 hargs =>
    cases hargs with | cons hv2 hargs =>
    cases hargs with | @cons _ v3 _ _ hv3 hargs =>
    cases hargs
    cases hv2
    obtain ⟨pm, gm1, gm2, gm3⟩ := hR.obj _ _ hm2
    obtain ⟨p, g1, g2, g3⟩ := hR.obj _ _ hj2
    have hcap := g3.cap
    have hsz : p.sz = 2 := g3.sz
    have hszm : pm.sz = 2 := gm3.sz
    have hcapm : 1 ≤ pm.cap := gm3.cap
    rw [show (AObj.es ⟨l.map c, 2, 60, true⟩) = l.map c from rfl, List.length_map] at hcap
    have hv3' : ∃ vc, v3 = .slice (some ⟨pm.b, pm.off, none⟩) 1 vc := by
      cases hv3 with
      | slice hp hc0 => rw [hp] at gm1; cases gm1; exact ⟨_, by rw [Nat.zero_mul, Nat.add_zero]⟩
      | sliceC hp hc0 => rw [hp] at gm1; cases gm1; exact ⟨_, by rw [Nat.zero_mul, Nat.add_zero]⟩
      | sliceM hp hc0 => rw [hp] at gm1; cases gm1; exact ⟨_, by rw [Nat.zero_mul, Nat.add_zero]⟩
    obtain ⟨vc, rfl⟩ := hv3'
    obtain ⟨hN1, arr, fz, hb, hroom, hfz⟩ := g3.own rfl (by omega)
    obtain ⟨hN1m, arrm, fzm, hbm, hroomm, hfzm⟩ := gm3.own rfl (by omega)
    have hne : pm.b ≠ p.b := by
      rcases hR.sep m j _ _ pm p hm2 hj2 gm1 g1 hjm rfl with g | g | g
      · have := g.2; omega
      · have := g.2; omega
      · exact g
    obtain ⟨cs, hcs, hcc⟩ := row_of g3 off N
    obtain ⟨vs, hvs, hvc⟩ := row_of gm3 0 1
    rw [show List.take 1 (List.drop 0 (AObj.es ⟨[c x], 2, t', true⟩)) = [c x] from rfl, show [c x].flatten = c x by simp] at hvs
    have hes : (List.take N (List.drop off (AObj.es ⟨l.map c, 2, 60, true⟩))) = ((l.drop off).take N).map c := by
      show List.take N (List.drop off (l.map c)) = _
      rw [List.map_take, List.map_drop]
    have hel0 := elems_len g3 (off := off) (m := N)
    have hone0 : ∀ e ∈ List.take N (List.drop off (AObj.es ⟨l.map c, 2, 60, true⟩)), e.all oneB = true := by
      intro e he
      have hm' : e ∈ l.map c := List.mem_of_mem_drop (List.mem_of_mem_take he)
      obtain ⟨k', hk'⟩ := List.getElem?_of_mem hm'
      rw [List.all_eq_true]
      intro y hy
      obtain ⟨j', hj'⟩ := List.getElem?_of_mem hy
      obtain ⟨_, _, _, h3⟩ := g3.cell k' e hk' j' y hj'
      exact h3
    rw [hes] at hcs hel0 hone0
    have hel : ∀ e ∈ ((l.drop off).take N).map c, e.length = 2 := hel0
    have hesl : (((l.drop off).take N).map c).length = N := by rw [List.length_map, List.length_take, List.length_drop]; omega
    have hcl : cs.length = N * 2 := by rw [← hcs.length, flat_length hel, hesl]
    have hvl : vs.length = 2 := by rw [← hvs.length, hc]
    have hx1 : (c x).all oneB = true := by
      rw [List.all_eq_true]
      intro y hy
      obtain ⟨j', hj'⟩ := List.getElem?_of_mem hy
      obtain ⟨_, _, _, h3⟩ := gm3.cell 0 (c x) rfl j' y hj'
      exact h3
    have h1c : ∀ v ∈ cs, oneB v = true := by
      intro v hv
      obtain ⟨q, hq⟩ := List.getElem?_of_mem hv
      obtain ⟨v0, e0, hv0⟩ := hcs.get' q v hq
      rw [hv0.oneB]
      have := List.mem_of_getElem? e0
      rw [List.mem_flatten] at this
      obtain ⟨e, he, hve⟩ := this
      exact List.all_eq_true.1 (hone0 e he) v0 hve
    have h1v : ∀ v ∈ vs, oneB v = true := by
      intro v hv
      obtain ⟨q, hq⟩ := List.getElem?_of_mem hv
      obtain ⟨v0, e0, hv0⟩ := hvs.get' q v hq
      rw [hv0.oneB]
      exact List.all_eq_true.1 hx1 v0 (List.mem_of_getElem? e0)
    have hcc' : ∀ (q : Nat) (v : Value), cs[q]? = some v → w.cell? ⟨p.b, p.off + off * 2 + q, none⟩ = some v := fun q v hq => by
      have := hcc q v hq
      rw [addr_add, hsz] at this
      exact this
    have hvc' : ∀ (q : Nat) (v : Value), vs[q]? = some v → w.cell? ⟨pm.b, pm.off + q, none⟩ = some v := fun q v hq => by
      have := hvc q v hq
      rw [addr_add, Nat.zero_mul, Nat.add_zero] at this
      exact this
    have hbl : p.b < w.heap.size := (Array.getElem?_eq_some_iff.1 hb).1
    have hbml : pm.b < w.heap.size := (Array.getElem?_eq_some_iff.1 hbm).1
    have hfr := hf n (Nat.le_refl _) (by omega)
    have hlenI : ((insL ((l.drop off).take N) i x).map c).length = N + 1 := by rw [List.length_map, insL_len, List.length_take, List.length_drop]; omega
    have hmapI : (insL ((l.drop off).take N) i x).map c = (((l.drop off).take N).map c).take i ++ [c x] ++ (((l.drop off).take N).map c).drop i := by
      unfold insL
      rw [List.map_append, List.map_append, ← List.map_take, ← List.map_drop]; rfl
    have helI : ∀ (k : Nat) (e : List Value), ((insL ((l.drop off).take N) i x).map c)[k]? = some e → e.length = 2 := fun k e hk => by
      have := List.mem_of_getElem? hk
      rw [List.mem_map] at this
      obtain ⟨a, _, rfl⟩ := this
      exact hc a
    cases hv1 with
    | sliceMZ hp hc0 => omega
    | sliceMN => omega
    | sliceM hp hc0 =>
      rw [g1] at hp; cases hp
      rw [hsz] at hroom ⊢
      have hmZ : (off + (p.cap - off)) * 2 = p.cap * 2 := by congr 1; omega
      rw [Nat.add_mul] at hmZ
      have hm1 : (N - i) * 2 + (i + 1) * 2 = N * 2 + 2 := by
        have e1 : (N - i + (i + 1)) * 2 = (N + 1) * 2 := by congr 1; omega
        rw [Nat.add_mul, Nat.add_mul, Nat.one_mul] at e1
        omega
      by_cases hrm : N + 1 ≤ p.cap - off
      · have hm3 : (N + 1) * 2 ≤ (p.cap - off) * 2 := Nat.mul_le_mul_right _ hrm
        rw [Nat.add_mul, Nat.one_mul] at hm3
        have hm4 : (i + 1) * 2 ≤ N * 2 := Nat.mul_le_mul_right _ hi
        have hi1 : (i + 1) * 2 = i * 2 + 2 := Nat.succ_mul _ _
        have hfzm0 : fzm = (0, 0) := hfzm.2 (show 1 < 2 by decide)
        subst hfzm0
        have hA := ins_inGap (w := w) (b := p.b) (pos := p.off + off * 2) (n := N) (c := p.cap - off) (i := i) (vb := pm.b) (voff := pm.off) (vc := vc) (cs := cs) (vs := vs) hi hrm (by omega) hne hb hfz.1 (by omega) hcl hvl hcc' hvc' h1c h1v
          (tA := t') (kA := arrm.size) (tB := 60) (kB := arr.size) (by unfold World.shape?; rw [hbm]) (by unfold World.shape?; rw [hb]) (by omega) (by unfold World.frozen?; rw [hbm]; simp) (by unfold World.frozen?; rw [hbm]; simp)
        refine calls_imp hA fun e w' he => ?_
        obtain ⟨rfl, rfl⟩ := he
        rw [setRow_setRow]
        have hdl : (cs.drop (i * 2)).length = (N - i) * 2 := by rw [List.length_drop, hcl, Nat.sub_mul]
        have hr1 : p.off + off * 2 + (i + 1) * 2 + (cs.drop (i * 2)).length ≤ arr.toList.length := by rw [hdl, Array.length_toList]; omega
        have hs1 := ov_length hr1
        have hr2 : p.off + off * 2 + i * 2 + vs.length ≤ (ov arr.toList (p.off + off * 2 + (i + 1) * 2) (cs.drop (i * 2))).length := by rw [hs1, hvl, Array.length_toList]; omega
        have hRd : Rel noDen N0 w0 ι σ2 w.drew := hR.same rfl rfl rfl rfl
        refine hK (ι.set n ⟨p.b, p.off + off * 2, 2, p.cap - off, none⟩) _ _ ⟨Inj.set_le hfr _, fun y => Inj.set_only y, ?_⟩ (VR_slice2 (Inj.set_self _ _ _) (by show 0 + (N + 1) ≤ p.cap - off; omega) rfl (by simp) (by simp))
        refine rel_regrow (E := env) hRd hj2 rfl g1 (by omega) hfr (o' := ⟨(insL ((l.drop off).take N) i x).map c, 2, 60, true⟩) (p' := ⟨p.b, p.off + off * 2, 2, p.cap - off, none⟩) rfl rfl rfl rfl (show 0 < 2 by decide) rfl (by rw [hlenI]; exact hrm) helI hb (by rw [ov_length hr2, hs1, Array.length_toList]) ?_ (by show p.off + off * 2 + (p.cap - off) * 2 ≤ arr.size; omega)
        show Holds ι 2 _ _ (p.off + off * 2)
        rw [hmapI]
        refine ins_holds hesl (by omega) hel hone0 hcs (hc x) hx1 hvs (fun q hq => ?_) (fun q hq => ?_) (fun q hq => ?_)
        · rw [ov_get hr2, if_pos (by omega), ov_get hr1, if_pos (by omega)]
          have hq2 : q < cs.length := by omega
          have h5 := hcc' q cs[q] (List.getElem?_eq_getElem hq2)
          unfold World.cell? at h5
          simp only [hb, Option.isSome_none, Bool.false_eq_true, if_false] at h5
          rw [List.getElem?_eq_getElem hq2, ← h5]; simp
        · rw [ov_get hr2, if_neg (by omega), if_pos (by omega)]
          congr 1; omega
        · rw [ov_get hr2, if_neg (by omega), if_neg (by omega), ov_get hr1, if_neg (by omega), if_pos (by omega), List.getElem?_drop]
          congr 1; omega
      · have hB := ins_grGap (w := w) (b := p.b) (pos := p.off + off * 2) (n := N) (c := p.cap - off) (i := i) (vb := pm.b) (voff := pm.off) (vc := vc) (cs := cs) (vs := vs) hi (by omega) (by omega) (by omega) hcl hvl hcc' hvc' h1c h1v hbl hbml
        refine calls_imp hB fun e w' he => ?_
        obtain ⟨G, row, hG, hrl, q1, q2, q3, rfl, dr, rfl⟩ := he
        refine hK (ι.set n ⟨w.heap.size, 0, 2, G, none⟩) _ _ ⟨Inj.set_le hfr _, fun y => Inj.set_only y, ?_⟩ (VR_row2 ι n ⟨w.heap.size, 0, 2, G, none⟩ hG rfl)
        refine rel_new (E := env) (σ := app [(j, none)] σ2) (hR.less fun y o e => by
          simp only [app] at e
          split at e
          · cases e
          · exact e) hfr (o := ⟨(insL ((l.drop off).take N) i x).map c, 2, 60, true⟩) (p := ⟨w.heap.size, 0, 2, G, none⟩) (arr := ⟨row⟩) (fz := (0, 0)) rfl rfl (show 0 < 2 by decide) (by rw [hlenI]; exact hG) helI ?_ (by show 0 + G * 2 ≤ row.length; omega) (FzOk.zero _ _) dr
        show Holds ι 2 _ row 0
        rw [hmapI]
        exact ins_holds hesl (by omega) hel hone0 hcs (hc x) hx1 hvs (fun q hq => by rw [Nat.zero_add]; exact q1 q hq) (fun q hq => by rw [Nat.zero_add]; exact q2 q hq) (fun q hq => by rw [Nat.zero_add]; exact q3 q hq)
theorem insOkGap : InsSC Try.prog ⟨99, 60, 2⟩ := by
  intro n j m off N i c' t' es x σ hes hx hj hm hjm hl hi hN
  have key : ∃ l : List {e : List Value // e.length = 2}, es = l.map Subtype.val := ⟨es.attach.map (fun e => ⟨e.1, hes e.1 e.2⟩), by simp⟩
  obtain ⟨l, rfl⟩ := key
  have h := insSCGap (c := Subtype.val) (fun a => a.2) (n := n) (c' := c') (x := ⟨x, hx⟩) hj hm hjm (by rw [List.length_map] at hl; exact hl) hi hN
  rw [show (insL ((l.drop off).take N) i ⟨x, hx⟩).map Subtype.val = (((l.map Subtype.val).drop off).take N).take i ++ [x] ++ (((l.map Subtype.val).drop off).take N).drop i from by unfold insL; rw [List.map_append, List.map_append, List.map_take, List.map_take, List.map_drop, List.map_drop, List.map_take, List.map_drop]; rfl] at h
  exact h
set_option maxHeartbeats 4000000 in
theorem ins_inChunk {w : World} {b pos n c i vb voff vc tt : Nat} {arr : Array Value} {fz : Nat × Nat} {cs vs : List Value} (hi : i < n) (hroom : n + 1 ≤ c) (hn63 : n + 1 ≤ 9223372036854775807) (hvb : vb ≠ b) (hb : w.heap[b]? = some (.cells arr tt fz)) (hfz : ∀ k, k < arr.size → ¬ (fz.1 ≤ k ∧ k < fz.2)) (har : pos + c * 15 ≤ arr.size)
    (hcl : cs.length = n * 15) (hvl : vs.length = 15) (hcs : ∀ (j : Nat) (v : Value), cs[j]? = some v → w.cell? ⟨b, pos + j, none⟩ = some v) (hvs : ∀ (j : Nat) (v : Value), vs[j]? = some v → w.cell? ⟨vb, voff + j, none⟩ = some v) (h1c : ∀ v ∈ cs, oneB v = true) (h1v : ∀ v ∈ vs, oneB v = true)
    {tA kA tB kB : Nat} (hsa : w.shape? vb = some (tA, kA)) (hsb : w.shape? b = some (tB, kB)) (hkB : kB ≠ 0) (hfa : w.frozen? ⟨vb, voff, none⟩ = false) (hfe : w.frozen? ⟨vb, kA, none⟩ = false) :
    Calls Try.prog 73 #[.slice (some ⟨b, pos, none⟩) n c, .int .i64 i, .slice (some ⟨vb, voff, none⟩) 1 vc] w fun e w' =>
      e = .returned (.slice (some ⟨b, pos, none⟩) (n + 1) c) ∧ w' = (w.drew.setRow b ⟨ov arr.toList (pos + (i + 1) * 15) (cs.drop (i * 15))⟩).setRow b ⟨ov (ov arr.toList (pos + (i + 1) * 15) (cs.drop (i * 15))) (pos + i * 15) vs⟩ := by
  have E_T : env.ty 69 = some t69 := by kernel_rfl
  have E_E : env.ty 54 = some t54 := by kernel_rfl
  have hz1 : ¬ ((1 : Int) = 0) := by omega
  have hz2 : ¬ ((i : Int) = (n : Int)) := by omega
  have hz3 : ¬ ((c : Int) < (n : Int) + 1) := by omega
  have tT : Try.prog.underlying 69 = some (.slice 54) := Try.underlying69
  have tI : Try.prog.underlying 3 = some (.int .i64) := Try.underlying3
  have tBo : Try.prog.underlying 4 = some .bool := Try.underlying4
  have uT := run_underlying tT; have uI := run_underlying tI; have uB := run_underlying tBo
  have zE : ∀ w, (Go.sizeOf 54).run Try.prog w = .ok 15 w := fun w => size_run env_ok w E_E
  have hov : ∀ lb cb, (callFunc 94 #[.slice (some ⟨vb, voff, none⟩) 1 vc, .slice (some ⟨b, pos + (i + 1) * 15, none⟩) lb cb]).run Try.prog w = .ok (.value (.bool false)) w := fun lb cb => by
    rw [run_callFunc_extern (show Try.prog.funcs[94]? = some Try.f94 by kernel_rfl) (by kernel_rfl) (by kernel_rfl) (by kernel_rfl) (e := Extern.SlicesOverlaps.overlaps #[69, 69] #[4]) (by kernel_rfl),
      Lib.run_overlaps_apart w 69 4 54 tT 15 zE ⟨vb, voff, none⟩ ⟨b, pos + (i + 1) * 15, none⟩ 1 vc lb cb hvb tA tB kA kB hsa hsb hkB hfa hfe]
    rfl
  have mixed := env_ok.mixed
  have hdl : (cs.drop (i * 15)).length = (n - i) * 15 := by rw [List.length_drop, hcl, Nat.sub_mul]
  have hw1 : IntKind.i64.wrap ((i : Int) + 1) = (i : Int) + 1 := by rw [IntKind.wrap_i64]; omega
  have hw2 : IntKind.i64.wrap ((n : Int) + 1) = (n : Int) + 1 := by rw [IntKind.wrap_i64]; omega
  have hb1 : (0 : Int) ≤ (i : Int) + 1 := by omega
  have hb0 : (0 : Int) ≤ (n : Int) + 1 := by omega
  have hin : i ≤ n := by omega
  have htn : ((i : Int) + 1).toNat = i + 1 := by omega
  have htm : ((n : Int) + 1).toNat = n + 1 := by omega
  have hb2 : ¬ (c = i + 1) := by omega
  have hb3 : (i : Int) + 1 ≤ (n : Int) + 1 := by omega
  have hb4 : ¬ (c = i) := by omega
  have hb5 : (n : Int) + 1 ≤ (c : Int) := by omega
  have hb6 : (i : Int) ≤ (n : Int) + 1 := by omega
  have hm1 : (n - i) * 15 + (i + 1) * 15 ≤ c * 15 := by rw [← Nat.add_mul]; exact Nat.mul_le_mul_right _ (by omega)
  have hm2 : i * 15 + 15 ≤ c * 15 := by rw [← Nat.succ_mul]; exact Nat.mul_le_mul_right _ (by omega)
  have hr1 : pos + (i + 1) * 15 + (cs.drop (i * 15)).length ≤ arr.size := by rw [hdl]; omega
  have hsz1 : (ov arr.toList (pos + (i + 1) * 15) (cs.drop (i * 15))).length = arr.size := by rw [ov_length (by rw [Array.length_toList]; exact hr1), Array.length_toList]
  have hcp1 : ∀ ty dc sc, (Builtin.copy_ #[69, 69] ty #[.slice (some ⟨b, pos + (i + 1) * 15, none⟩) (n - i) dc, .slice (some ⟨b, pos + i * 15, none⟩) (n + 1 - i) sc]).run Try.prog w.drew = .ok (goInt (n - i : Nat)) (w.drew.setRow b ⟨ov arr.toList (pos + (i + 1) * 15) (cs.drop (i * 15))⟩) := fun ty dc sc =>
    copy_rows env_ok E_T rfl E_E (w := w.drew) (b := b) (tt := tt) (fz := fz) hb hfz (by omega) hdl hr1 (fun j v hj => by rw [List.getElem?_drop] at hj; rw [addr_add, Nat.add_assoc]; exact hcs _ v hj) (fun v hv => h1c v (List.mem_of_mem_drop hv))
  have hbW : (w.drew.setRow b ⟨ov arr.toList (pos + (i + 1) * 15) (cs.drop (i * 15))⟩).heap[b]? = some (.cells ⟨ov arr.toList (pos + (i + 1) * 15) (cs.drop (i * 15))⟩ tt fz) := setRow_heap _ _ _ _ _ _ hb
  have hcp2 : ∀ ty dc, (Builtin.copy_ #[69, 69] ty #[.slice (some ⟨b, pos + i * 15, none⟩) (n + 1 - i) dc, .slice (some ⟨vb, voff, none⟩) 1 vc]).run Try.prog (w.drew.setRow b ⟨ov arr.toList (pos + (i + 1) * 15) (cs.drop (i * 15))⟩) = .ok (goInt (1 : Nat)) ((w.drew.setRow b ⟨ov arr.toList (pos + (i + 1) * 15) (cs.drop (i * 15))⟩).setRow b ⟨ov (ov arr.toList (pos + (i + 1) * 15) (cs.drop (i * 15))) (pos + i * 15) vs⟩) := fun ty dc =>
    copy_rows env_ok E_T rfl E_E (w := (w.drew.setRow b ⟨ov arr.toList (pos + (i + 1) * 15) (cs.drop (i * 15))⟩)) (b := b) (tt := tt) (fz := fz) hbW (fun k hk => hfz k (by have h2 : k < (ov arr.toList (pos + (i + 1) * 15) (cs.drop (i * 15))).length := hk; omega)) (by omega) (by rw [hvl]; rfl) (by show _ ≤ (ov arr.toList (pos + (i + 1) * 15) (cs.drop (i * 15))).length; omega) (fun j v hj => by rw [addr_add, cell_block (setRow_other _ _ _ _ hvb)]; exact hvs j v hj) h1v
  go_enter (show Try.prog.funcs[73]? = some Try.f73 by kernel_rfl), (show Try.f73.ntmps = 95 from rfl)
  go_wp2_with (simp only [hov])
  go_region_law_o (refine in_copyS rfl rfl (by simp [Act.eval, Act.put]) (by simp [Act.eval, Act.put]) (hcp1 _ _ _) ?_)
  go_wp2_with (refine in_copyL _ rfl rfl rfl rfl (hcp2 _ _) ?_)
  go_ret
  exact ⟨rfl, rfl⟩
set_option maxHeartbeats 4000000 in
theorem ins_grChunk {w : World} {b pos n c i vb voff vc : Nat} {cs vs : List Value} (hi : i < n) (hnc : n ≤ c) (hroom : c < n + 1) (hn32 : n + 1 ≤ 2000000000)
    (hcl : cs.length = n * 15) (hvl : vs.length = 15) (hcs : ∀ (j : Nat) (v : Value), cs[j]? = some v → w.cell? ⟨b, pos + j, none⟩ = some v) (hvs : ∀ (j : Nat) (v : Value), vs[j]? = some v → w.cell? ⟨vb, voff + j, none⟩ = some v) (h1c : ∀ v ∈ cs, oneB v = true) (h1v : ∀ v ∈ vs, oneB v = true) (hbw : b < w.heap.size) (hvw : vb < w.heap.size) :
    Calls Try.prog 73 #[.slice (some ⟨b, pos, none⟩) n c, .int .i64 i, .slice (some ⟨vb, voff, none⟩) 1 vc] w fun e w' =>
      ∃ (G : Nat) (row : List Value), n + 1 ≤ G ∧ row.length = G * 15 ∧ (∀ j, j < i * 15 → row[j]? = cs[j]?) ∧ (∀ j, j < 15 → row[i * 15 + j]? = vs[j]?) ∧ (∀ j, j < (n - i) * 15 → row[(i + 1) * 15 + j]? = cs[i * 15 + j]?) ∧
      e = .returned (.slice (some ⟨w.heap.size, 0, none⟩) (n + 1) G) ∧ ∃ dr, w' = { w with heap := w.heap.push (.cells ⟨row⟩ 54 (0, 0)), drawn := dr } := by
  have E_T : env.ty 69 = some t69 := by kernel_rfl
  have E_E : env.ty 54 = some t54 := by kernel_rfl
  have hz1 : ¬ ((1 : Int) = 0) := by omega
  have hz2 : ¬ ((i : Int) = (n : Int)) := by omega
  have hz3 : ((c : Int) < (n : Int) + 1) := by omega
  have tT : Try.prog.underlying 69 = some (.slice 54) := Try.underlying69
  have tI : Try.prog.underlying 3 = some (.int .i64) := Try.underlying3
  have tBo : Try.prog.underlying 4 = some .bool := Try.underlying4
  have uT := run_underlying tT; have uI := run_underlying tI; have uB := run_underlying tBo
  have zE : ∀ w, (Go.sizeOf 54).run Try.prog w = .ok 15 w := fun w => size_run env_ok w E_E
  have mixed := env_ok.mixed
  obtain ⟨_, i0, hi0, hz0, hzs0, hzb0⟩ := env_ok.ty _ _ E_E
  have hzs : i0.size = 15 := hzs0
  have hzb : i0.bytes = 184 := hzb0
  have hkk : (n : Int) + 1 - (i : Int) = ((n + 1 - i : Nat) : Int) := by omega
  have hik : i + (n + 1 - i) = n + 1 := by omega
  have hw2 : IntKind.i64.wrap ((n : Int) + 1) = (n : Int) + 1 := by rw [IntKind.wrap_i64]; omega
  have hw3 : IntKind.i64.wrap ((n : Int) + 1 - (i : Int)) = (n : Int) + 1 - (i : Int) := by rw [IntKind.wrap_i64]; omega
  have hw1 : IntKind.i64.wrap ((i : Int) + 1) = (i : Int) + 1 := by rw [IntKind.wrap_i64]; omega
  have hold : (Builtin.firstCells i0.size i (.slice (some ⟨b, pos, none⟩) i c)).run Try.prog w.drew = .ok (cs.take (i * 15)).toArray w.drew := by
    rw [hzs]
    exact run_firstCells_some w.drew 15 i ⟨b, pos, none⟩ i c (cs.take (i * 15)) (by rw [List.length_take, hcl]; have := Nat.mul_le_mul_right 15 (show i ≤ n by omega); omega) (fun j v hj => by
      rw [addr_add]
      rw [List.getElem?_take] at hj
      split at hj
      · exact hcs j v hj
      · cases hj)
  obtain ⟨G, hG⟩ : ∃ G, G = grownCap w (n + 1) c 54 := ⟨_, rfl⟩
  obtain ⟨ROW, hROW⟩ : ∃ ROW : Array Value, ROW = (cs.take (i * 15)).toArray ++ Builtin.zeroCells t54.zero.cells (n + 1 - i) ++ Builtin.zeroCells t54.zero.cells (G - (n + 1)) := ⟨_, rfl⟩
  have hrz : ∀ ty, (Builtin.append_ #[69, 3] ty #[.slice (some ⟨b, pos, none⟩) i c, .int .i64 ((n : Int) + 1 - (i : Int))]).run Try.prog w =
      .ok (.slice (some ⟨w.heap.size, 0, none⟩) (n + 1) G) (w.drew.alloc (.cells ROW 54)) := fun ty => by
    have h := Lib.run_append_grow_zeros w 69 3 ty 54 i0 _ .i64 .i64 tT tI hi0 hz0 (some ⟨b, pos, none⟩) i c (cs.take (i * 15)) hold (n + 1 - i) (by omega) (by omega) (by omega) (by omega) (by rw [hzb]; omega) (by rw [hzb, hik]; exact growslice_fits hroom (by omega))
    rw [hik] at h
    rw [hkk, hROW, hG]
    exact h
  have hGn : n + 1 ≤ G := by rw [hG]; exact grownCap_ge w _ _ _
  have hG63 : G ≤ 9223372036854775807 := by
    have := grownCap_le_maxLen w (n + 1) c 54 (by unfold maxLen; omega)
    rw [← hG] at this
    unfold maxLen at this
    omega
  have hil : i * 15 ≤ n * 15 := Nat.mul_le_mul_right _ (by omega)
  have hzc : t54.zero.cells.size = 15 := by kernel_rfl
  have hRs : ROW.size = G * 15 := by
    rw [hROW]
    simp [Builtin.zeroCells, hzc, List.length_take, hcl, Nat.min_eq_left hil]
    have e1 : i * 15 + (n + 1 - i) * 15 + (G - (n + 1)) * 15 = (i + (n + 1 - i) + (G - (n + 1))) * 15 := by rw [Nat.add_mul, Nat.add_mul]
    omega
  have hNh : (w.drew.alloc (.cells ROW 54)).heap[w.heap.size]? = some (.cells ROW 54 (0, 0)) := by show (w.heap.push _)[w.heap.size]? = _; simp
  have hdl : (cs.drop (i * 15)).length = (n - i) * 15 := by rw [List.length_drop, hcl, Nat.sub_mul]
  have hm1 : (n - i) * 15 + (i + 1) * 15 ≤ G * 15 := by rw [← Nat.add_mul]; exact Nat.mul_le_mul_right _ (by omega)
  have hm2 : i * 15 + 15 ≤ G * 15 := by rw [← Nat.succ_mul]; exact Nat.mul_le_mul_right _ (by omega)
  have hfz0 : ∀ k : Nat, k < ROW.size → ¬ ((0 : Nat) ≤ k ∧ k < 0) := fun k _ h => by omega
  have hr1 : i * 15 + vs.length ≤ ROW.size := by rw [hvl, hRs]; exact hm2
  have hcpA : ∀ ty dc, (Builtin.copy_ #[69, 69] ty #[.slice (some ⟨w.heap.size, i * 15, none⟩) (n + 1 - i) dc, .slice (some ⟨vb, voff, none⟩) 1 vc]).run Try.prog (w.drew.alloc (.cells ROW 54)) = .ok (goInt (1 : Nat)) ((w.drew.alloc (.cells ROW 54)).setRow w.heap.size ⟨ov ROW.toList (i * 15) vs⟩) := fun ty dc =>
    copy_rows env_ok E_T rfl E_E (fz := (0, 0)) hNh hfz0 (by omega) (by rw [hvl]; rfl) hr1 (fun j v hj => by rw [addr_add, World.cell?_alloc_past (w := w.drew) _ vb _ hvw]; exact hvs j v hj) h1v
  have hbW : ((w.drew.alloc (.cells ROW 54)).setRow w.heap.size ⟨ov ROW.toList (i * 15) vs⟩).heap[w.heap.size]? = some (.cells ⟨ov ROW.toList (i * 15) vs⟩ 54 (0, 0)) := setRow_heap _ _ _ _ _ _ hNh
  have hs1 : (ov ROW.toList (i * 15) vs).length = G * 15 := by rw [ov_length (by rw [Array.length_toList]; exact hr1), Array.length_toList, hRs]
  have hr2 : (i + 1) * 15 + (cs.drop (i * 15)).length ≤ (ov ROW.toList (i * 15) vs).length := by rw [hdl, hs1]; omega
  have hcpB : ∀ ty dc sc, (Builtin.copy_ #[69, 69] ty #[.slice (some ⟨w.heap.size, (i + 1) * 15, none⟩) (n - i) dc, .slice (some ⟨b, pos + i * 15, none⟩) (n - i) sc]).run Try.prog ((w.alloc (.cells ROW 54)).drew.setRow w.heap.size ⟨ov ROW.toList (i * 15) vs⟩).drew = .ok (goInt (n - i : Nat)) (((w.alloc (.cells ROW 54)).drew.setRow w.heap.size ⟨ov ROW.toList (i * 15) vs⟩).drew.setRow w.heap.size ⟨ov (ov ROW.toList (i * 15) vs) ((i + 1) * 15) (cs.drop (i * 15))⟩) := fun ty dc sc =>
    copy_rows env_ok E_T rfl E_E (w := ((w.alloc (.cells ROW 54)).drew.setRow w.heap.size ⟨ov ROW.toList (i * 15) vs⟩).drew) (fz := (0, 0)) hbW (fun k _ h => by omega) (by omega) hdl hr2 (fun j v hj => by
        rw [List.getElem?_drop] at hj
        rw [addr_add, Nat.add_assoc]
        show ((w.drew.alloc (.cells ROW 54)).setRow w.heap.size _).cell? _ = _
        rw [cell_block (setRow_other _ _ _ _ (by omega)), World.cell?_alloc_past (w := w.drew) _ b _ hbw]
        exact hcs _ v hj) (fun v hv => h1c v (List.mem_of_mem_drop hv))
  have hGi : ¬ (G = i) := by omega
  have hGim : ¬ (G = i + 1) := by omega
  have hci : ¬ (c = i) := by omega
  have hb1 : (0 : Int) ≤ (i : Int) + 1 := by omega
  have hin : i ≤ n := by omega
  have hin1 : i ≤ n + 1 := by omega
  have htn : ((i : Int) + 1).toNat = i + 1 := by omega
  have hb3 : (i : Int) + 1 ≤ (n : Int) + 1 := by omega
  have hb5 : (i : Int) ≤ (n : Int) + 1 := by omega
  have fin : ∀ dr, ∃ (G' : Nat) (row : List Value), n + 1 ≤ G' ∧ row.length = G' * 15 ∧ (∀ j, j < i * 15 → row[j]? = cs[j]?) ∧ (∀ j, j < 15 → row[i * 15 + j]? = vs[j]?) ∧ (∀ j, j < (n - i) * 15 → row[(i + 1) * 15 + j]? = cs[i * 15 + j]?) ∧
      Ending.returned (.slice (some ⟨w.heap.size, 0, none⟩) (n + 1) G) = .returned (.slice (some ⟨w.heap.size, 0, none⟩) (n + 1) G') ∧ ∃ dr', ({ w with heap := w.heap.push (.cells ⟨ov (ov ROW.toList (i * 15) vs) ((i + 1) * 15) (cs.drop (i * 15))⟩ 54 (0, 0)), drawn := dr } : World) = { w with heap := w.heap.push (.cells ⟨row⟩ 54 (0, 0)), drawn := dr' } := fun dr => by
    have hi1 : (i + 1) * 15 = i * 15 + 15 := Nat.succ_mul _ _
    refine ⟨G, ov (ov ROW.toList (i * 15) vs) ((i + 1) * 15) (cs.drop (i * 15)), hGn, by rw [ov_length hr2, hs1], fun j hj => ?_, fun j hj => ?_, fun j hj => ?_, rfl, dr, rfl⟩
    · rw [ov_get hr2, if_pos (by omega), ov_get (by rw [Array.length_toList]; exact hr1), if_pos hj, hROW]
      simp only [Array.toList_append, List.append_assoc]
      rw [List.getElem?_append_left (by rw [List.length_take, hcl]; omega), List.getElem?_take, if_pos hj]
    · rw [ov_get hr2, if_pos (by omega), ov_get (by rw [Array.length_toList]; exact hr1), if_neg (by omega), if_pos (by omega)]
      congr 1
      omega
    · rw [ov_get hr2, if_neg (by omega), if_pos (by rw [hdl]; omega), List.getElem?_drop]
      congr 1
      omega
  have hfinW : (((w.alloc (.cells ROW 54)).drew.setRow w.heap.size ⟨ov ROW.toList (i * 15) vs⟩).drew.setRow w.heap.size ⟨ov (ov ROW.toList (i * 15) vs) ((i + 1) * 15) (cs.drop (i * 15))⟩) = { w with heap := w.heap.push (.cells ⟨ov (ov ROW.toList (i * 15) vs) ((i + 1) * 15) (cs.drop (i * 15))⟩ 54 (0, 0)), drawn := w.drawn + 1 + 1 } := by
    simp only [World.setRow, World.alloc, World.drew, modify_push]
  clear hkk hik hold hROW hG hRs hzc hi0 hz0 hzs0 hzb0 hzs hzb
  go_enter (show Try.prog.funcs[73]? = some Try.f73 by kernel_rfl), (show Try.f73.ntmps = 95 from rfl)
  go_wp2_with (first
    | (at_builtin; refine Lib.wpList_append_run _ rfl _ _ _ _ rfl _ _ rfl rfl _ _ (hrz _) ?_)
    | (refine in_copyL _ rfl rfl rfl rfl (hcpA _ _) ?_))
  go_region_law_o (refine in_copyS rfl rfl (by simp [Act.eval, Act.put]) (by simp [Act.eval, Act.put]) (hcpB _ _ _) ?_)
  go_wp2
  go_ret
  exact fin _
theorem insSCChunk {α : Type} {c : α → List Value} (hc : ∀ a, (c a).length = 15) {n j m off N i c' t' : Nat} {l : List α} {x : α} {σ : Store} (hj : σ j = some ⟨l.map c, 15, 54, true⟩) (hm : σ m = some ⟨[c x], 15, t', true⟩) (hjm : m ≠ j) (hl : off + N ≤ l.length) (hi : i < N) (hN : N ≤ 1000000) :
    SC Try.prog noDen 73 [.slice (some ⟨j, off, none⟩) N 2, .int .i64 ((i : Nat) : Int), .slice (some ⟨m, 0, none⟩) 1 c'] n σ (.slice (some ⟨n, 0, none⟩) (N + 1) 2) (n + 1) [(n, some ⟨(insL ((l.drop off).take N) i x).map c, 15, 54, true⟩), (j, none)] := by
  refine ⟨fun aa w => ?_, ⟨by omega, fun y hy => ?_⟩, fun N0 w0 σ2 ι w args' R hs hR hargs hf hK => ?_⟩
  · unfold callFunc
    simp only [Sem.run_bind, run_program, Result.andThen_ok, show Try.prog.funcs[73]? = some Try.f73 by kernel_rfl, show (Try.f73.name == "runtime.NumGoroutine") = false by kernel_rfl, Bool.false_eq_true, if_false, show Try.f73.body.isNone = false from rfl, Sem.run_pure]
  · simp [keys] at hy
    rcases hy with rfl | rfl
    · exact .inr ⟨Nat.le_refl _, by omega⟩
    · left; rw [hj]; rfl
  · have hj2 := hs j _ hj
    have hm2 := hs m _ hm
    cases hargs with | cons hv1 hargs =>
    cases hargs with | cons hv2 hargs =>
    cases hargs with | @cons _ v3 _ _ hv3 hargs =>
    cases hargs
    cases hv2
    obtain ⟨pm, gm1, gm2, gm3⟩ := hR.obj _ _ hm2
    obtain ⟨p, g1, g2, g3⟩ := hR.obj _ _ hj2
    have hcap := g3.cap
    have hsz : p.sz = 15 := g3.sz
    have hszm : pm.sz = 15 := gm3.sz
    have hcapm : 1 ≤ pm.cap := gm3.cap
    rw [show (AObj.es ⟨l.map c, 15, 54, true⟩) = l.map c from rfl, List.length_map] at hcap
    have hv3' : ∃ vc, v3 = .slice (some ⟨pm.b, pm.off, none⟩) 1 vc := by
      cases hv3 with
      | slice hp hc0 => rw [hp] at gm1; cases gm1; exact ⟨_, by rw [Nat.zero_mul, Nat.add_zero]⟩
      | sliceC hp hc0 => rw [hp] at gm1; cases gm1; exact ⟨_, by rw [Nat.zero_mul, Nat.add_zero]⟩
      | sliceM hp hc0 => rw [hp] at gm1; cases gm1; exact ⟨_, by rw [Nat.zero_mul, Nat.add_zero]⟩
    obtain ⟨vc, rfl⟩ := hv3'
    obtain ⟨hN1, arr, fz, hb, hroom, hfz⟩ := g3.own rfl (by omega)
    obtain ⟨hN1m, arrm, fzm, hbm, hroomm, hfzm⟩ := gm3.own rfl (by omega)
    have hne : pm.b ≠ p.b := by
      rcases hR.sep m j _ _ pm p hm2 hj2 gm1 g1 hjm rfl with g | g | g
      · have := g.2; omega
      · have := g.2; omega
      · exact g
    obtain ⟨cs, hcs, hcc⟩ := row_of g3 off N
    obtain ⟨vs, hvs, hvc⟩ := row_of gm3 0 1
    rw [show List.take 1 (List.drop 0 (AObj.es ⟨[c x], 15, t', true⟩)) = [c x] from rfl, show [c x].flatten = c x by simp] at hvs
    have hes : (List.take N (List.drop off (AObj.es ⟨l.map c, 15, 54, true⟩))) = ((l.drop off).take N).map c := by
      show List.take N (List.drop off (l.map c)) = _
      rw [List.map_take, List.map_drop]
    have hel0 := elems_len g3 (off := off) (m := N)
    have hone0 : ∀ e ∈ List.take N (List.drop off (AObj.es ⟨l.map c, 15, 54, true⟩)), e.all oneB = true := by
      intro e he
      have hm' : e ∈ l.map c := List.mem_of_mem_drop (List.mem_of_mem_take he)
      obtain ⟨k', hk'⟩ := List.getElem?_of_mem hm'
      rw [List.all_eq_true]
      intro y hy
      obtain ⟨j', hj'⟩ := List.getElem?_of_mem hy
      obtain ⟨_, _, _, h3⟩ := g3.cell k' e hk' j' y hj'
      exact h3
    rw [hes] at hcs hel0 hone0
    have hel : ∀ e ∈ ((l.drop off).take N).map c, e.length = 15 := hel0
    have hesl : (((l.drop off).take N).map c).length = N := by rw [List.length_map, List.length_take, List.length_drop]; omega
    have hcl : cs.length = N * 15 := by rw [← hcs.length, flat_length hel, hesl]
    have hvl : vs.length = 15 := by rw [← hvs.length, hc]
    have hx1 : (c x).all oneB = true := by
      rw [List.all_eq_true]
      intro y hy
      obtain ⟨j', hj'⟩ := List.getElem?_of_mem hy
      obtain ⟨_, _, _, h3⟩ := gm3.cell 0 (c x) rfl j' y hj'
      exact h3
    have h1c : ∀ v ∈ cs, oneB v = true := by
      intro v hv
      obtain ⟨q, hq⟩ := List.getElem?_of_mem hv
      obtain ⟨v0, e0, hv0⟩ := hcs.get' q v hq
      rw [hv0.oneB]
      have := List.mem_of_getElem? e0
      rw [List.mem_flatten] at this
      obtain ⟨e, he, hve⟩ := this
      exact List.all_eq_true.1 (hone0 e he) v0 hve
    have h1v : ∀ v ∈ vs, oneB v = true := by
      intro v hv
      obtain ⟨q, hq⟩ := List.getElem?_of_mem hv
      obtain ⟨v0, e0, hv0⟩ := hvs.get' q v hq
      rw [hv0.oneB]
      exact List.all_eq_true.1 hx1 v0 (List.mem_of_getElem? e0)
    have hcc' : ∀ (q : Nat) (v : Value), cs[q]? = some v → w.cell? ⟨p.b, p.off + off * 15 + q, none⟩ = some v := fun q v hq => by
      have := hcc q v hq
      rw [addr_add, hsz] at this
      exact this
    have hvc' : ∀ (q : Nat) (v : Value), vs[q]? = some v → w.cell? ⟨pm.b, pm.off + q, none⟩ = some v := fun q v hq => by
      have := hvc q v hq
      rw [addr_add, Nat.zero_mul, Nat.add_zero] at this
      exact this
    have hbl : p.b < w.heap.size := (Array.getElem?_eq_some_iff.1 hb).1
    have hbml : pm.b < w.heap.size := (Array.getElem?_eq_some_iff.1 hbm).1
    have hfr := hf n (Nat.le_refl _) (by omega)
    have hlenI : ((insL ((l.drop off).take N) i x).map c).length = N + 1 := by rw [List.length_map, insL_len, List.length_take, List.length_drop]; omega
    have hmapI : (insL ((l.drop off).take N) i x).map c = (((l.drop off).take N).map c).take i ++ [c x] ++ (((l.drop off).take N).map c).drop i := by
      unfold insL
      rw [List.map_append, List.map_append, ← List.map_take, ← List.map_drop]; rfl
    have helI : ∀ (k : Nat) (e : List Value), ((insL ((l.drop off).take N) i x).map c)[k]? = some e → e.length = 15 := fun k e hk => by
      have := List.mem_of_getElem? hk
      rw [List.mem_map] at this
      obtain ⟨a, _, rfl⟩ := this
      exact hc a
    cases hv1 with
    | sliceMZ hp hc0 => omega
    | sliceMN => omega
    | sliceM hp hc0 =>
      rw [g1] at hp; cases hp
      rw [hsz] at hroom ⊢
      have hmZ : (off + (p.cap - off)) * 15 = p.cap * 15 := by congr 1; omega
      rw [Nat.add_mul] at hmZ
      have hm1 : (N - i) * 15 + (i + 1) * 15 = N * 15 + 15 := by
        have e1 : (N - i + (i + 1)) * 15 = (N + 1) * 15 := by congr 1; omega
        rw [Nat.add_mul, Nat.add_mul, Nat.one_mul] at e1
        omega
      by_cases hrm : N + 1 ≤ p.cap - off
      · have hm3 : (N + 1) * 15 ≤ (p.cap - off) * 15 := Nat.mul_le_mul_right _ hrm
        rw [Nat.add_mul, Nat.one_mul] at hm3
        have hm4 : (i + 1) * 15 ≤ N * 15 := Nat.mul_le_mul_right _ hi
        have hi1 : (i + 1) * 15 = i * 15 + 15 := Nat.succ_mul _ _
        have hfzm0 : fzm = (0, 0) := hfzm.2 (show 1 < 15 by decide)
        subst hfzm0
        have hA := ins_inChunk (w := w) (b := p.b) (pos := p.off + off * 15) (n := N) (c := p.cap - off) (i := i) (vb := pm.b) (voff := pm.off) (vc := vc) (cs := cs) (vs := vs) hi hrm (by omega) hne hb hfz.1 (by omega) hcl hvl hcc' hvc' h1c h1v
          (tA := t') (kA := arrm.size) (tB := 54) (kB := arr.size) (by unfold World.shape?; rw [hbm]) (by unfold World.shape?; rw [hb]) (by omega) (by unfold World.frozen?; rw [hbm]; simp) (by unfold World.frozen?; rw [hbm]; simp)
        refine calls_imp hA fun e w' he => ?_
        obtain ⟨rfl, rfl⟩ := he
        rw [setRow_setRow]
        have hdl : (cs.drop (i * 15)).length = (N - i) * 15 := by rw [List.length_drop, hcl, Nat.sub_mul]
        have hr1 : p.off + off * 15 + (i + 1) * 15 + (cs.drop (i * 15)).length ≤ arr.toList.length := by rw [hdl, Array.length_toList]; omega
        have hs1 := ov_length hr1
        have hr2 : p.off + off * 15 + i * 15 + vs.length ≤ (ov arr.toList (p.off + off * 15 + (i + 1) * 15) (cs.drop (i * 15))).length := by rw [hs1, hvl, Array.length_toList]; omega
        have hRd : Rel noDen N0 w0 ι σ2 w.drew := hR.same rfl rfl rfl rfl
        refine hK (ι.set n ⟨p.b, p.off + off * 15, 15, p.cap - off, none⟩) _ _ ⟨Inj.set_le hfr _, fun y => Inj.set_only y, ?_⟩ (VR_slice2 (Inj.set_self _ _ _) (by show 0 + (N + 1) ≤ p.cap - off; omega) rfl (by simp) (by simp))
        refine rel_regrow (E := env) hRd hj2 rfl g1 (by omega) hfr (o' := ⟨(insL ((l.drop off).take N) i x).map c, 15, 54, true⟩) (p' := ⟨p.b, p.off + off * 15, 15, p.cap - off, none⟩) rfl rfl rfl rfl (show 0 < 15 by decide) rfl (by rw [hlenI]; exact hrm) helI hb (by rw [ov_length hr2, hs1, Array.length_toList]) ?_ (by show p.off + off * 15 + (p.cap - off) * 15 ≤ arr.size; omega)
        show Holds ι 15 _ _ (p.off + off * 15)
        rw [hmapI]
        refine ins_holds hesl (by omega) hel hone0 hcs (hc x) hx1 hvs (fun q hq => ?_) (fun q hq => ?_) (fun q hq => ?_)
        · rw [ov_get hr2, if_pos (by omega), ov_get hr1, if_pos (by omega)]
          have hq2 : q < cs.length := by omega
          have h5 := hcc' q cs[q] (List.getElem?_eq_getElem hq2)
          unfold World.cell? at h5
          simp only [hb, Option.isSome_none, Bool.false_eq_true, if_false] at h5
          rw [List.getElem?_eq_getElem hq2, ← h5]; simp
        · rw [ov_get hr2, if_neg (by omega), if_pos (by omega)]
          congr 1; omega
        · rw [ov_get hr2, if_neg (by omega), if_neg (by omega), ov_get hr1, if_neg (by omega), if_pos (by omega), List.getElem?_drop]
          congr 1; omega
      · have hB := ins_grChunk (w := w) (b := p.b) (pos := p.off + off * 15) (n := N) (c := p.cap - off) (i := i) (vb := pm.b) (voff := pm.off) (vc := vc) (cs := cs) (vs := vs) hi (by omega) (by omega) (by omega) hcl hvl hcc' hvc' h1c h1v hbl hbml
        refine calls_imp hB fun e w' he => ?_
        obtain ⟨G, row, hG, hrl, q1, q2, q3, rfl, dr, rfl⟩ := he
        refine hK (ι.set n ⟨w.heap.size, 0, 15, G, none⟩) _ _ ⟨Inj.set_le hfr _, fun y => Inj.set_only y, ?_⟩ (VR_row2 ι n ⟨w.heap.size, 0, 15, G, none⟩ hG rfl)
        refine rel_new (E := env) (σ := app [(j, none)] σ2) (hR.less fun y o e => by
          simp only [app] at e
          split at e
          · cases e
          · exact e) hfr (o := ⟨(insL ((l.drop off).take N) i x).map c, 15, 54, true⟩) (p := ⟨w.heap.size, 0, 15, G, none⟩) (arr := ⟨row⟩) (fz := (0, 0)) rfl rfl (show 0 < 15 by decide) (by rw [hlenI]; exact hG) helI ?_ (by show 0 + G * 15 ≤ row.length; omega) (FzOk.zero _ _) dr
        show Holds ι 15 _ row 0
        rw [hmapI]
        exact ins_holds hesl (by omega) hel hone0 hcs (hc x) hx1 hvs (fun q hq => by rw [Nat.zero_add]; exact q1 q hq) (fun q hq => by rw [Nat.zero_add]; exact q2 q hq) (fun q hq => by rw [Nat.zero_add]; exact q3 q hq)
theorem insOkChunk : InsSC Try.prog ⟨73, 54, 15⟩ := by
  intro n j m off N i c' t' es x σ hes hx hj hm hjm hl hi hN
  have key : ∃ l : List {e : List Value // e.length = 15}, es = l.map Subtype.val := ⟨es.attach.map (fun e => ⟨e.1, hes e.1 e.2⟩), by simp⟩
  obtain ⟨l, rfl⟩ := key
  have h := insSCChunk (c := Subtype.val) (fun a => a.2) (n := n) (c' := c') (x := ⟨x, hx⟩) hj hm hjm (by rw [List.length_map] at hl; exact hl) hi hN
  rw [show (insL ((l.drop off).take N) i ⟨x, hx⟩).map Subtype.val = (((l.map Subtype.val).drop off).take N).take i ++ [x] ++ (((l.map Subtype.val).drop off).take N).drop i from by unfold insL; rw [List.map_append, List.map_append, List.map_take, List.map_take, List.map_drop, List.map_drop, List.map_take, List.map_drop]; rfl] at h
  exact h
end Go.Proofs.Ytmepflkodjdgdaa.Vt
