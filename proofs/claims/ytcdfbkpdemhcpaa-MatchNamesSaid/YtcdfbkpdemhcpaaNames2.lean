/- Part 2 of the lemmas for this: MatchNames returns true for every input, and each argument reads afterwards as it read before (no further condition). -/
import Derived.Test.YtcdfbkpdemhcpaaNames1
import Derived.IntWalk
import Derived.MapKept
import Derived.KernelRfl
import Derived.Test.YtcdfbkpdemhcpaaProg
namespace Go.Pav
open Go.RowKit
theorem zero_rows {z : Array Value} {sz len : Nat} (hzs : z.size = sz) : ((Array.range (len * sz)).map (z[· % z.size]!)).toList = (List.replicate len z.toList).flatten := by
  apply List.ext_getElem?
  intro j
  have hfl : ∀ n, ((List.replicate n z.toList).flatten).length = n * sz := fun n => by simp [hzs]
  by_cases hj : j < len * sz
  · rw [Array.toList_map, Array.toList_range, List.getElem?_map, List.getElem?_range hj, Option.map_some, hzs]
    have key : ∀ n k, k < n * sz → ((List.replicate n z.toList).flatten)[k]? = some (z[k % sz]!) := by
      intro n
      induction n with
      | zero => intro k hk; simp at hk
      | succ n ih =>
        intro k hk
        rw [List.replicate_succ, List.flatten_cons]
        by_cases hlt : k < sz
        · rw [List.getElem?_append_left (by simp [hzs]; exact hlt), Nat.mod_eq_of_lt hlt]
          have hlt2 : k < z.size := by rw [hzs]; exact hlt
          simp [hlt2]
        · rw [List.getElem?_append_right (by simp [hzs]; omega)]
          rw [Nat.add_mul, Nat.one_mul] at hk
          have := ih (k - sz) (by omega)
          simp only [Array.length_toList, hzs]
          rw [this, Nat.mod_eq_sub_mod (Nat.le_of_not_lt hlt)]
    rw [key len j hj]
  · rw [List.getElem?_eq_none (by simp; omega), List.getElem?_eq_none (by rw [hfl]; omega)]
theorem AVRs.rep {M : Mem} {ρ : Nam} {xs : List AV} {vs : List Value} (h : AVRs M ρ xs vs) : ∀ n, AVRs M ρ (List.replicate n xs).flatten (List.replicate n vs).flatten
  | 0 => by simp only [List.replicate_zero, List.flatten_nil]; unfold AVRs; rfl
  | n + 1 => by rw [List.replicate_succ, List.replicate_succ, List.flatten_cons, List.flatten_cons]; exact h.append (AVRs.rep h n)
section
variable {P : Program} {TT : TypeId → Option TI} {Γ : Glo} {o : Oper} {A : Env} {S : View}
theorem ok_make {t : TypeId} {lo co : Operand} {k k' : IntKind} {n : Nat} {e : TypeId} {i ie : TI} {l : Nat} (ho : o.op = .makeSlice t lo co) (hl : ev Γ A lo = some (.v (.int k n))) (hc : ev Γ A co = some (.v (.int k' n))) (ht : TypeOk P t i) (hk : i.kind = .slice e) (he : TypeOk P e ie) (hpos : 0 < ie.sz)
    (hn : n ≤ 140737488355328) (hb : n * ie.by_ ≤ 140737488355328) (hU : S.U l = false) : OpOk P Γ o A S (.bsl l 0 n n ie.sz) (S.addBox l ((List.replicate n (ie.zero.map AV.v)).flatten)) [l] :=
  OpOk.of_run (fun n hn => sameAt_addBox hn) fun S2 h2 M ρ w a h hG hSt => by
    obtain ⟨g, hgi, hgs, hgb, z, hz, hzl, hzs, hz1, hz2, _⟩ := he.info
    obtain ⟨d, hd, h3⟩ := ht.desc
    rw [hk] at h3
    subst h3
    have el := h lo (by simp [ho, Op.operands]) _ hl
    have ec := h co (by simp [ho, Op.operands]) _ hc
    unfold AVR FVR at el ec
    have hU2 : S2.U l = false := (h2 l (by simp)).2.2.trans hU
    have hcells : AVRs M ρ ((List.replicate n (ie.zero.map AV.v)).flatten) ((Array.range (n * ie.sz)).map (z.cells[· % z.cells.size]!)).toList := by
      rw [zero_rows hzs]
      exact (AVRs_v.2 (hz2 M)).rep n
    have hone : ∀ u ∈ ((Array.range (n * ie.sz)).map (z.cells[· % z.cells.size]!)).toList, u.oneCell' = true := by
      rw [zero_rows hzs]
      intro u hu
      rw [List.mem_flatten] at hu
      obtain ⟨r, hr, hu⟩ := hu
      rw [(List.mem_replicate.1 hr).2] at hu
      exact hz1 u hu
    have hNx := Nx.addBox hSt l hU2 _ ((Array.range (n * ie.sz)).map (z.cells[· % z.cells.size]!)) e hcells hone
    have hw : IntKind.i64.wrap (n : Int) = n := IntWalk.i64_in n ⟨by omega, by omega⟩
    refine ⟨M, _, _, .slice (some ⟨w.heap.size, 0, none⟩) n n, .inl ?_, by rw [patch_addBox h2]; exact hNx, Nam.le_addBox (hSt.free l hU2).1, ?_⟩
    · have hneg : ¬ ((n : Int) < 0 ∨ 281474976710656 < (ie.by_ : Int) * (n : Int)) := by
        have h8 : ((n * ie.by_ : Nat) : Int) ≤ 140737488355328 := by omega
        rw [Int.natCast_mul, Int.mul_comm] at h8
        omega
      have hn0 : ¬ ((n : Int) < 0) := by omega
      by_cases h0 : n * ie.sz = 0
      · simp [execOp, ho, el, ec, Instr.makeSlice, run_underlying hd, asInt, asIntOf, typeInfo, hgi, hgb, hw, askRoom, sizeOf, hgs, h0, newRow]
        rw [if_neg (by rintro (h9 | h9); exact hneg h9; exact hn0 h9)]
        have er : Array.range 0 = (#[] : Array Nat) := by decide
        rw [er, Array.map_empty, Array.map_empty]
      · simp [execOp, ho, el, ec, Instr.makeSlice, run_underlying hd, asInt, asIntOf, typeInfo, hgi, hgb, hw, askRoom, sizeOf, hgs, h0, newRow, zeroValue, hz]
        rintro (h9 | h9)
        · exact absurd h9 hneg
        · exact absurd h9 hn0
    · unfold AVR
      exact ⟨⟨Nat.le_refl _, hn⟩, _, by simp [Nam.addBox], rfl⟩
theorem ok_lenB {c : Call} {x : Operand} {l off n cp sz : Nat} {t e : TypeId} {i : TI} (ho : o.op = .call c) (hc : c.callee = .builtin .len) (ha : c.args = #[x]) (hat : c.argTypes = #[t]) (hx : ev Γ A x = some (.bsl l off n cp sz)) (ht : TypeOk P t i) (hk : i.kind = .slice e) : OpOk P Γ o A S (.v (.int .i64 n)) S [] :=
  OpOk.pure fun M ρ w ac h _ => by
    have h1 := h x (by simp [ho, Op.operands, Call.operands, ha]) _ hx
    unfold AVR at h1
    obtain ⟨_, b, _, h2⟩ := h1
    obtain ⟨d, hd, h3⟩ := ht.desc
    rw [hk] at h3
    subst h3
    refine ⟨_, ?_, (by unfold AVR FVR; rfl)⟩
    simp [execOp, ho, resolve, hc, ha, hat, invoke, builtin, Builtin.len_, h2, run_underlying hd, goInt]
theorem ok_indexAddrB {t : TypeId} {x y : Operand} {l off n cp : Nat} {kk : IntKind} {m : Int} {e : TypeId} {i j : TI} (ho : o.op = .indexAddr t x y) (hx : ev Γ A x = some (.bsl l off n cp j.sz)) (hy : ev Γ A y = some (.v (.int kk m)))
    (ht : TypeOk P t i) (hk : i.kind = .slice e) (hj : TypeOk P e j) (h0 : 0 ≤ m) (h1 : m < n) : OpOk P Γ o A S (.ptr l (off + m.toNat * j.sz)) S [] :=
  OpOk.pure fun M ρ w ac h _ => by
    have h2 := h x (by simp [ho, Op.operands]) _ hx
    unfold AVR at h2
    obtain ⟨_, b, h3, h4⟩ := h2
    have h5 := h y (by simp [ho, Op.operands]) _ hy
    unfold AVR FVR at h5
    obtain ⟨d, hd, h6⟩ := ht.desc
    rw [hk] at h6
    subst h6
    refine ⟨.pointer (some ⟨b, off + m.toNat * j.sz, none⟩), ?_, by unfold AVR; exact ⟨b, h3, rfl⟩⟩
    have hin : 0 ≤ m ∧ m < (n : Int) := ⟨h0, h1⟩
    simp [execOp, ho, h5, h4, Instr.indexAt, asIntOf, run_underlying hd, hin, sizeOf_run hj, Addr.add_lit]
end
theorem FVRs.mk {M : Mem} : ∀ {xs : List FV} {vs : List Value}, xs.length = vs.length → (∀ (i : Nat) x, xs[i]? = some x → ∃ v, vs[i]? = some v ∧ FVR M x v) → FVRs M xs vs
  | [], [], _, _ => by unfold FVRs; rfl
  | [], _ :: _, h, _ => by simp at h
  | _ :: _, [], h, _ => by simp at h
  | x :: r, v :: vs, h, k => by
    unfold FVRs
    obtain ⟨u, h1, h2⟩ := k 0 x (by simp)
    obtain rfl : v = u := by simpa using h1
    exact ⟨v, vs, rfl, h2, FVRs.mk (by simpa using h) fun i y hi => by simpa using k (i + 1) y (by simpa using hi)⟩
theorem FVRs.append {M : Mem} : ∀ {xs ys : List FV} {vs us : List Value}, FVRs M xs vs → FVRs M ys us → FVRs M (xs ++ ys) (vs ++ us)
  | [], _, _, _, e, h => by unfold FVRs at e; subst e; simpa using h
  | y :: r, _, _, _, e, h => by
    unfold FVRs at e
    obtain ⟨u, us, rfl, h1, h2⟩ := e
    simp only [List.cons_append]
    unfold FVRs
    exact ⟨u, _, rfl, h1, FVRs.append h2 h⟩
theorem RowsOf.flat {M : Mem} {sz : Nat} : ∀ {xs : List (List FV)} {cs : List Value}, RowsOf M xs cs sz → FVRs M xs.flatten cs
  | [], cs, h => by
    have := h.1
    simp only [List.length_nil, Nat.zero_mul] at this
    rw [List.length_eq_zero_iff.1 this, List.flatten_nil]
    unfold FVRs; rfl
  | c :: xs, cs, h => by
    have hl := h.1
    rw [List.length_cons, Nat.add_mul, Nat.one_mul] at hl
    rw [List.flatten_cons, ← List.take_append_drop sz cs]
    obtain ⟨h1, h2⟩ := h.2 0 c (by simp)
    refine FVRs.append (FVRs.mk (by simp; omega) fun i x hi => ?_) (RowsOf.flat (sz := sz) ⟨by simp; omega, fun r d hr => ?_⟩)
    · obtain ⟨u, h3, h4, h5⟩ := h2 i x hi
      have hi' := (List.getElem?_eq_some_iff.1 hi).1
      exact ⟨u, by rw [List.getElem?_take, if_pos (by omega)]; simpa using h3, h5⟩
    · obtain ⟨h3, h4⟩ := h.2 (r + 1) d (by simpa using hr)
      refine ⟨h3, fun j x hj => ?_⟩
      obtain ⟨u, h5, h6⟩ := h4 j x hj
      refine ⟨u, ?_, h6⟩
      rw [List.getElem?_drop, show sz + (r * sz + j) = (r + 1) * sz + j by rw [Nat.add_mul, Nat.one_mul]; omega]
      exact h5
theorem RowsOf.take {M : Mem} {sz : Nat} {xs : List (List FV)} {cs : List Value} (h : RowsOf M xs cs sz) (m : Nat) (hm : m ≤ xs.length) : RowsOf M (xs.take m) (cs.take (m * sz)) sz := by
  have hms : m * sz ≤ xs.length * sz := Nat.mul_le_mul_right _ hm
  refine ⟨by rw [List.length_take, List.length_take, h.1, Nat.min_eq_left hms, Nat.min_eq_left hm], fun r c hr => ?_⟩
  rw [List.getElem?_take] at hr
  split at hr
  · rename_i hrm
    obtain ⟨h1, h2⟩ := h.2 r c hr
    refine ⟨h1, fun j x hj => ?_⟩
    obtain ⟨u, h3, h4⟩ := h2 j x hj
    have hj' := (List.getElem?_eq_some_iff.1 hj).1
    have : (r + 1) * sz ≤ m * sz := Nat.mul_le_mul_right _ hrm
    rw [Nat.add_mul, Nat.one_mul] at this
    exact ⟨u, by rw [List.getElem?_take, if_pos (by omega)]; exact h3, h4⟩
  · cases hr
section
variable {P : Program} {TT : TypeId → Option TI} {Γ : Glo} {o : Oper} {A : Env} {S : View}
/-- copy into a box. -/
theorem ok_copyB {c : Call} {x y : Operand} {l off n cp : Nat} {cs : List AV} {xs : List (List FV)} {yv : AV} {t t' e : TypeId} {i ie : TI} (ho : o.op = .call c) (hc : c.callee = .builtin .copy) (ha : c.args = #[x, y]) (hat : c.argTypes = #[t, t']) (hx : ev Γ A x = some (.bsl l off n cp ie.sz)) (hy : ev Γ A y = some yv) (hys : slOf yv = some xs)
    (ht : TypeOk P t i) (hk : i.kind = .slice e) (he : TypeOk P e ie) (hsz : ∀ r ∈ xs, r.length = ie.sz) (hl : S.H l = some cs) (hfit : off + n * ie.sz ≤ cs.length) :
    OpOk P Γ o A S (.v (.int .i64 (Nat.min xs.length n))) (S.setBox l (splice cs ((xs.take (Nat.min xs.length n)).flatten.map .v) off)) [l] :=
  OpOk.of_run (fun n hn => sameAt_setBox hn) fun S2 h2 M ρ w a h hG hSt => by
    have h1 := h x (by simp [ho, Op.operands, Call.operands, ha]) _ hx
    unfold AVR at h1
    obtain ⟨_, b, h3, h4⟩ := h1
    have hyv := slOf_ok (h y (by simp [ho, Op.operands, Call.operands, ha]) _ hy) hys
    obtain ⟨ad, m, cap, vs, k1, k2, k3, _, k5, k6, k7⟩ := FVR.sl_cells hSt.mem hyv hsz
    subst k2
    obtain ⟨d, hd, h5⟩ := ht.desc
    rw [hk] at h5
    subst h5
    have hl2 : S2.H l = some cs := (h2 l (by simp)).1.trans hl
    obtain ⟨b', ca, ty, h7, h8, h9, h10, h11⟩ := hSt.box l cs hl2
    rw [h3] at h7
    obtain rfl := Option.some.inj h7
    generalize hm : Nat.min xs.length n = m at *
    have hm1 : m ≤ xs.length := by rw [← hm]; exact Nat.min_le_left _ _
    have hm2 : m ≤ n := by rw [← hm]; exact Nat.min_le_right _ _
    have hrt := k6.take m hm1
    have hone := hrt.oneCell
    have hfl := hrt.flat
    have hlen : (vs.take (m * ie.sz)).length = m * ie.sz := by rw [hrt.1, List.length_take, Nat.min_eq_left hm1]
    have hms : m * ie.sz ≤ n * ie.sz := Nat.mul_le_mul_right _ hm2
    have hcl : ca.toList.length = cs.length := AVRs.len h9
    have hload : (Builtin.firstCells ie.sz m (.slice ad xs.length cap)).run P w = .ok (vs.take (m * ie.sz)).toArray w := by
      cases ad with
      | none =>
        have := k5 rfl
        have hx0 : xs.length = 0 := by omega
        have hm0 : m = 0 := by omega
        subst hm0
        simp [Builtin.firstCells]
      | some ad =>
        have e2 := run_loadCells_list (P := P) w ad (vs.take (m * ie.sz)) (fun j v hj => (k7 ad rfl j v (by
          rw [List.getElem?_take] at hj
          split at hj
          · exact hj
          · cases hj)).1)
        rw [hlen] at e2
        simp [Builtin.firstCells, e2]
    have hst := run_storeCells_at P b off ty (vs.take (m * ie.sz)) 0 ca w h8 (by
      rw [hlen]
      have : ca.size = cs.length := by simpa using hcl
      omega) hone
    simp only [Nat.add_zero] at hst
    refine ⟨M, ρ, w.setRow b (ca.toList.take off ++ vs.take (m * ie.sz) ++ ca.toList.drop (off + (vs.take (m * ie.sz)).length)).toArray, .int .i64 m, .inl ?_, ?_, ρ.le_refl, by unfold AVR FVR; rfl⟩
    · have hmm : Nat.min xs.length n = m := hm
      simp only [execOp, ho, resolve, hc, ha, hat]
      simp [invoke, builtin, Builtin.copy_, h4, k1, run_underlying hd, Builtin.lenOf, sizeOf_run he, goInt]
      rw [hmm, hload]
      simp only [Result.andThen_ok]
      rw [hst]
      simp
    · rw [patch_setBox h2]
      refine Nx.setBox hSt l b cs _ hl2 h3 _ ty (setRow_heap w b ca _ ty _ h8) (fun k hk => setRow_other w b k _ hk) rfl rfl rfl (by simp) ?_ ?_
      · have e1 : (vs.take (m * ie.sz)).length = ((xs.take m).flatten.map AV.v).length := by rw [List.length_map]; exact FVRs.len hfl
        unfold splice
        rw [e1]
        exact ((h9.take off).append (AVRs_v.2 hfl)).append (h9.drop _)
      · intro u hu
        simp only [List.mem_append] at hu
        rcases hu with (hu | hu) | hu
        · exact h10 u (List.mem_of_mem_take hu)
        · exact hone u hu
        · exact h10 u (List.mem_of_mem_drop hu)
end
end Go.Pav
namespace Go.Pav
open Go.RowKit
section
variable {P : Program} {TT : TypeId → Option TI} {Γ : Glo} {o : Oper} {A : Env} {S : View}
/-- append of one element to token t's slice; it may still be written. -/
theorem append_pend {M : Mem} {ρ : Nam} {w : World} {S : View} (h : St M ρ w S) (T tp : TypeId) (e : TypeId) (hE : e < BIG) (ie : TI) (hT : P.underlying T = some (.slice e)) (he : TypeOk P e ie) (t : Nat) (xs ys : List (List FV)) (hm1 : ys.length = 1) (hS : S.T t = some (xs, e, ie.sz)) {vx vy : Value} (hx : AVR M ρ (.tsl t xs) vx)
    {k : SK} (hy : FVR M (.sl k ys) vy) (hys : ∀ c ∈ ys, c.length = ie.sz) (hlen : xs.length + ys.length ≤ 140737488355328) (hby : (xs.length + ys.length) * ie.by_ ≤ 140737488355328) :
    ∃ v' w' M' ρ', (Builtin.append_ #[T, T] tp #[vx, vy]).run P w = .ok v' w' ∧ Nx M ρ w S M' ρ' w' (S.setTok t (xs, e + BIG, ie.sz)) ∧ ρ.le ρ' ∧ AVR M' ρ' (.tk t (xs.length + 1)) v' := by
  obtain ⟨f, hf, hfs, hfb, z, hz, _, hzs, hz1, _⟩ := he.info
  obtain ⟨i, hi, hiv, hxs, hlen', htok⟩ := h.tok t xs e ie.sz hS
  rw [plen_of hE] at hlen'
  have hvx := hx
  unfold AVR at hvx
  obtain ⟨hvx1, i', hi', _, hvx2⟩ := hvx
  rw [hi] at hi'
  obtain rfl := Option.some.inj hi'
  have hzsz : z.cells.size = f.size := by rw [hzs, hfs]
  have hmpos : 0 < ys.length := by omega
  obtain ⟨ay, m, cy, ds, hvy, rfl, _, _, hay, hds, hdc⟩ := FVR.sl_cells h.mem hy hys
  obtain ⟨ax, n, cx, cs, hvxs, rfl, hncx, _, hax, hcs, hcc⟩ := FVR.sl_cells h.mem hvx1 hxs
  have hayne : ∃ ad, ay = some ad := by
    cases ay with
    | none =>
      have := hay rfl
      unfold FVR at hy
      obtain ⟨a', n', c', h4, h5, h6, _⟩ := hy
      rw [hvy] at h4
      simp only [Value.slice.injEq] at h4
      omega
    | some ad => exact ⟨ad, rfl⟩
  obtain ⟨ad, rfl⟩ := hayne
  have hdl : ds.length = ys.length * f.size := by rw [hds.1, hfs]
  have hdcell : ∀ j u, ds[j]? = some u → w.cell? (ad.add j) = some u := fun j u hj => (hdc ad rfl j u hj).1
  have hd1 : ∀ u ∈ ds, u.oneCell' = true := hds.oneCell
  have hpl : plen (e + BIG) xs.length = xs.length + 1 := plen_big hE _
  -- the slice moves to a new block
  have moved : ∀ (cap : Nat) (cur : Array Value), xs.length + ys.length ≤ cap → cap ≤ maxLen → cur.size = cap * ie.sz → cur.toList.take (xs.length * ie.sz) = cs →
      ∃ M' ρ', Nx M ρ w S M' ρ' (w.drew.alloc (.cells cur e)) (S.setTok t (xs, e + BIG, ie.sz)) ∧ ρ.le ρ' ∧ AVR M' ρ' (.tk t (xs.length + 1)) (.slice (some ⟨w.heap.size, 0, none⟩) (xs.length + ys.length) cap) := by
    intro cap cur h1 h2 h3 h4
    obtain ⟨M', ρ', v', rfl, h5, h6, h7, _⟩ := Nx.setTokG (w' := w.drew.alloc (.cells cur e)) h t i (.inl hi) xs (e + BIG) (big_lt2 hE) ie.sz w.heap.size cap cur cs (.inr (Nat.le_refl _)) (by rw [realE_big]; exact heap_alloc_new w.drew _) (by rw [hpl]; omega) (by omega) h2 h3 h4 hcs hxs
      (fun _ => ⟨by rw [hpl]; omega, fun e1 => by rw [hpl] at e1; omega⟩) (fun o u hu => by rw [h.mem_new (Nat.le_refl _)] at hu; cases hu)
      ⟨rfl, rfl, rfl, by simp, fun b hb _ => Below.heap_alloc w.drew _ b hb⟩
    rw [hpl] at h7
    exact ⟨M', ρ', h5, h6, by rw [hm1]; exact h7⟩
  have hmaxn : ∀ (need old : Nat), need ≤ 9223372036854775807 → grownCap w need old e ≤ maxLen := fun need old hn => grownCap_le_maxLen w need old e (by unfold maxLen; omega)
  have hzc : ∀ n, (Builtin.zeroCells z.cells n).size = n * ie.sz := fun n => by rw [madeZero hzsz, hfs]
  have grow : ∀ old, cs.length = xs.length * ie.sz → old < xs.length + ys.length → ∃ M' ρ', Nx M ρ w S M' ρ' (w.drew.alloc (.cells (cs.toArray ++ ds.toArray ++ Builtin.zeroCells z.cells (grownCap w (xs.length + ys.length) old e - (xs.length + ys.length))) e)) (S.setTok t (xs, e + BIG, ie.sz)) ∧ ρ.le ρ' ∧
      AVR M' ρ' (.tk t (xs.length + 1)) (.slice (some ⟨w.heap.size, 0, none⟩) (xs.length + ys.length) (grownCap w (xs.length + ys.length) old e)) := by
    intro old h1 h2
    have hge := grownCap_ge w (xs.length + ys.length) old e
    refine moved _ _ hge (hmaxn _ _ (by omega)) ?_ ?_
    · simp only [Array.size_append, List.size_toArray, hzc, h1, hds.1, ← Nat.add_mul]
      rw [Nat.add_sub_cancel' hge]
    · simp only [Array.toList_append]
      rw [← h1, List.append_assoc]
      exact List.take_left
  have hlen1 : ((xs.length + ys.length : Nat) : Int) ≤ 9223372036854775807 := by omega
  cases ho : i.own with
  | none =>
    rw [ho] at htok
    obtain ⟨_, a, hva⟩ := htok
    have hvn : vx = .slice a xs.length xs.length := by rw [hvx2]; exact hva
    rw [hvn] at hvxs
    simp only [Value.slice.injEq, true_and] at hvxs
    obtain ⟨rfl, rfl⟩ := hvxs
    obtain ⟨M', ρ', h1, h2, h3⟩ := grow xs.length hcs.1 (by omega)
    cases a with
    | none =>
      have hx0 : xs.length = 0 := hax rfl
      have hxn : xs = [] := List.eq_nil_of_length_eq_zero hx0
      have hc0 : cs = [] := List.eq_nil_of_length_eq_zero (by rw [hcs.1, hx0, Nat.zero_mul])
      have hr := run_append_nil (P := P) w T tp e f z hT hf hz ad ys.length cy ds hdl hdcell hmpos (by omega) (by rw [hfb]; rw [hx0, Nat.zero_add] at hby; omega)
      refine ⟨_, _, M', ρ', ?_, h1, h2, h3⟩
      rw [hvn, hvy]
      subst hxn
      subst hc0
      simpa using hr
    | some b =>
      have hr := run_append_grow (P := P) w T tp e f z hT hf hz b xs.length xs.length cs (by rw [hcs.1, hfs]) (fun j u hj => (hcc b rfl j u hj).1) ad ys.length cy ds hdl hdcell (by omega) hlen1 (growslice_fits (by omega) (by rw [hfb]; exact hby))
      exact ⟨_, _, M', ρ', by rw [hvn, hvy]; exact hr, h1, h2, h3⟩
  | some g =>
    rw [ho] at htok
    obtain ⟨cap, cur, hva, hg, hncap, hcmax, hcsz, hfree⟩ := htok
    rw [plen_of hE] at hva hncap
    replace hg := hg.cells (big_lt hE)
    rw [realE_of hE] at hg
    have hvn : vx = .slice (some ⟨g, 0, none⟩) xs.length cap := by rw [hvx2]; exact hva
    rw [hvn] at hvxs
    simp only [Value.slice.injEq, true_and] at hvxs
    obtain ⟨rfl, rfl⟩ := hvxs
    have hcg : ∀ j u, cs[j]? = some u → w.cell? ((⟨g, 0, none⟩ : Addr).add j) = some u := fun j u hj => (hcc _ rfl j u hj).1
    by_cases hroom : xs.length + ys.length ≤ cap
    · have hnm : (xs.length + ys.length) * ie.sz ≤ cap * ie.sz := Nat.mul_le_mul_right _ hroom
      have hfit : xs.length * f.size + ds.length ≤ cur.size := by rw [hdl, hfs, hcsz, ← Nat.add_mul]; exact hnm
      have hr := run_append_room (P := P) w T tp e f hT hf g xs.length cap cur hg ad ys.length cy ds hdl hdcell hd1 hroom hfit
      rw [hfs] at hr hfit
      have htake : cur.toList.take (xs.length * ie.sz) = cs := by
        apply List.ext_getElem?
        intro j
        rw [List.getElem?_take]
        split
        · rename_i hj
          have hj' : j < cs.length := by rw [hcs.1]; exact hj
          have := hcg j _ (List.getElem?_eq_getElem hj')
          rw [Addr.add_lit, Nat.zero_add, cell_of_row w g j cur e (0, 0) hg] at this
          rw [List.getElem?_eq_getElem hj', ← this]
          simp
        · rename_i hj
          rw [List.getElem?_eq_none (by rw [hcs.1]; omega)]
      obtain ⟨M', ρ', v', rfl, h5, h6, h7, _⟩ := Nx.setTokG (w' := w.setRow g (cur.toList.take (xs.length * ie.sz) ++ ds ++ cur.toList.drop (xs.length * ie.sz + ds.length)).toArray) h t i (.inl hi) xs (e + BIG) (big_lt2 hE) ie.sz g cap _ cs (.inl ⟨hi, ho, _, hS⟩) (by rw [realE_big]; exact setRow_heap w g cur _ e _ hg) (by rw [hpl]; omega) (by omega) hcmax
        (by simp only [List.size_toArray, List.length_append, List.length_take, List.length_drop, Array.length_toList]; omega)
        (by
          rw [htake, ← hcs.1, List.append_assoc]
          exact List.take_left) hcs hxs
        (fun _ => ⟨by rw [hpl]; omega, fun e1 => by rw [hpl] at e1; omega⟩)
        (fun o u hu => by
          have hlt : o < xs.length * ie.sz := by
            refine Nat.lt_of_not_le fun hge => ?_
            rw [hfree o hge] at hu
            cases hu
          have h10 := h.mem g o u hu
          rw [cell_of_row w g o cur e (0, 0) hg] at h10
          rw [← htake, List.getElem?_take, if_pos hlt]
          simpa using h10)
        ⟨rfl, rfl, rfl, by simp, fun b _ hk => setRow_other w g b _ (fun e1 => hk (by rw [e1]))⟩
      rw [hpl] at h7
      exact ⟨_, _, M', ρ', by rw [hvn, hvy]; exact hr, h5, h6, by rw [hm1]; exact h7⟩
    · obtain ⟨M', ρ', h1, h2, h3⟩ := grow cap hcs.1 (by omega)
      have hr := run_append_grow (P := P) w T tp e f z hT hf hz ⟨g, 0, none⟩ xs.length cap cs (by rw [hcs.1, hfs]) hcg ad ys.length cy ds hdl hdcell (by omega) hlen1 (growslice_fits (by omega) (by rw [hfb]; exact hby))
      exact ⟨_, _, M', ρ', by rw [hvn, hvy]; exact hr, h1, h2, h3⟩
/-- append(x, y...), y one element that may still be written. -/
theorem ok_appendPend {c : Call} {x y : Operand} {T e : TypeId} {iT ie : TI} {t : Nat} {xs ys : List (List FV)} {yv : AV} (ho : o.op = .call c) (hc : c.callee = .builtin .append) (ha : c.args = #[x, y]) (hat : c.argTypes = #[T, T]) (hx : ev Γ A x = some (.tsl t xs)) (hy : ev Γ A y = some yv) (hys : slOf yv = some ys) (hm1 : ys.length = 1)
    (hT : TypeOk P T iT) (hk : iT.kind = .slice e) (hE : e < BIG) (he : TypeOk P e ie) (hS : S.T t = some (xs, e, ie.sz)) (hsz : ∀ c ∈ ys, c.length = ie.sz) (hlen : xs.length + ys.length ≤ 140737488355328) (hby : (xs.length + ys.length) * ie.by_ ≤ 140737488355328) :
    OpOk P Γ o A S (.tk t (xs.length + 1)) (S.setTok t (xs, e + BIG, ie.sz)) [t] :=
  OpOk.of_run (fun n hn => sameAt_setTok hn) fun S2 h2 M ρ w a h hG hSt => by
    have h1 := h x (by simp [ho, Op.operands, Call.operands, ha]) _ hx
    have h3 := slOf_ok (h y (by simp [ho, Op.operands, Call.operands, ha]) _ hy) hys
    obtain ⟨d, hd, h4⟩ := hT.desc
    rw [hk] at h4
    subst h4
    obtain ⟨v', w', M', ρ', h5, h6, h7, h8⟩ := append_pend (P := P) hSt T o.type e hE ie hd he t xs ys hm1 ((h2 t (by simp)).2.1.trans hS) h1 h3 hsz hlen hby
    exact ⟨M', ρ', w', v', .inl (by simp [execOp, ho, resolve, hc, ha, hat, invoke, builtin, h5]), by rw [patch_setTok h2]; exact h6, h7, h8⟩
/-- The place of an element of a token's slice. -/
theorem ok_indexAddrT {t : TypeId} {x y : Operand} {tk m : Nat} {kk : IntKind} {n : Int} {e : TypeId} {i j : TI} (ho : o.op = .indexAddr t x y) (hx : ev Γ A x = some (.tk tk m)) (hy : ev Γ A y = some (.v (.int kk n)))
    (ht : TypeOk P t i) (hk : i.kind = .slice e) (hj : TypeOk P e j) (h0 : 0 ≤ n) (h1 : n < m) : OpOk P Γ o A S (.pp tk m (n.toNat * j.sz)) S [] :=
  OpOk.pure fun M ρ w a h _ => by
    have h2 := h x (by simp [ho, Op.operands]) _ hx
    have h5 := h y (by simp [ho, Op.operands]) _ hy
    unfold AVR at h2
    obtain ⟨⟨g, c, h3⟩, i', h4, h6, h7⟩ := h2
    unfold AVR FVR at h5
    obtain ⟨d, hd, h8⟩ := ht.desc
    rw [hk] at h8
    subst h8
    refine ⟨.pointer (some ⟨g, n.toNat * j.sz, none⟩), ?_, by unfold AVR; exact ⟨i', g, c, h4, h6, by rw [← h7, h3], rfl⟩⟩
    have hin : 0 ≤ n ∧ n < (m : Int) := ⟨h0, h1⟩
    simp [execOp, ho, h5, h3, Instr.indexAt, asIntOf, run_underlying hd, hin, sizeOf_run hj, Addr.add_lit]
/-- The element is written. -/
theorem ok_storeP {t : TypeId} {x y : Operand} {i : TI} {tk m off : Nat} {z : AV} {zs : List AV} {row : List FV} {xs : List (List FV)} {e : TypeId} (ho : o.op = .store t x y) (hx : ev Γ A x = some (.pp tk m off)) (hy : ev Γ A y = some z) (ht : TypeOk P t i) (hz : cellsOf z = some zs) (hzl : zs.length = i.sz)
    (hT : S.T tk = some (xs, e + BIG, i.sz)) (hE : e < BIG) (hm : m = xs.length + 1) (hoff : off = xs.length * i.sz) (hv : allV zs = some row) (hb : xs.length + 1 ≤ 140737488355328) :
    OpOk P Γ o A S (.v .any) (S.setTok tk (xs ++ [row], e, i.sz)) [tk] :=
  OpOk.of_run (fun n hn => sameAt_setTok hn) fun S2 h2 M ρ w a h hG hSt => by
    have h1 := h x (by simp [ho, Op.operands]) _ hx
    unfold AVR at h1
    obtain ⟨ii, g, c, hi, hmi, hval, hptr⟩ := h1
    obtain ⟨h5, h6⟩ := cellsOf_ok (h y (by simp [ho, Op.operands]) _ hy) hz
    have hT2 : S2.T tk = some (xs, e + BIG, i.sz) := (h2 tk (by simp)).2.1.trans hT
    obtain ⟨i', hi', hF, hxs, hlen, htok⟩ := hSt.tok tk xs _ _ hT2
    rw [hi] at hi'
    obtain rfl := Option.some.inj hi'
    rw [plen_big hE] at hlen
    cases hown : ii.own with
    | none => rw [hown] at htok; exact absurd htok.1 (nbig e)
    | some g' =>
      rw [hown] at htok
      obtain ⟨cap, cur, hva, hg, hncap, hcmax, hcsz, hfree⟩ := htok
      rw [plen_big hE] at hva hncap
      replace hg := hg.cells (big_lt2 hE)
      rw [realE_big] at hg
      rw [hm, hva] at hval
      simp only [Value.slice.injEq, Option.some.injEq, Addr.mk.injEq, true_and, and_true] at hval
      obtain ⟨rfl, rfl⟩ := hval
      rw [slv_big hE, hva, eff_of (big_lt2 hE)] at hF
      have hF' : FVR M (.sl .some xs) (.slice (some ⟨g', 0, none⟩) xs.length cap) := hF
      obtain ⟨ax, n, cx, cs, hvxs, rfl, hncx, _, hax, hcs, hcc⟩ := FVR.sl_cells hSt.mem hF' hxs
      simp only [Value.slice.injEq, true_and] at hvxs
      obtain ⟨rfl, rfl⟩ := hvxs
      have hcg : ∀ j u, cs[j]? = some u → w.cell? ((⟨g', 0, none⟩ : Addr).add j) = some u := fun j u hj => (hcc _ rfl j u hj).1
      have htake : cur.toList.take (xs.length * i.sz) = cs := by
        apply List.ext_getElem?
        intro j
        rw [List.getElem?_take]
        split
        · rename_i hj
          have hj' : j < cs.length := by rw [hcs.1]; exact hj
          have := hcg j _ (List.getElem?_eq_getElem hj')
          rw [Addr.add_lit, Nat.zero_add, cell_of_row w g' j cur e (0, 0) hg] at this
          rw [List.getElem?_eq_getElem hj', ← this]
          simp
        · rename_i hj
          rw [List.getElem?_eq_none (by rw [hcs.1]; omega)]
      have hclen : (a.eval y).cells.toList.length = i.sz := by rw [AVRs.len h5]; exact hzl
      have hfit : xs.length * i.sz + i.sz ≤ cur.size := by
        rw [hcsz]
        have := Nat.mul_le_mul_right i.sz hncap
        rwa [Nat.add_mul, Nat.one_mul] at this
      have hone := AVRs.one h5 h6
      have hst := run_storeCells_at P g' off e (a.eval y).cells.toList 0 cur w hg (by rw [hclen, hoff]; omega) hone
      simp only [Nat.add_zero] at hst
      have hsz : ¬ (a.eval y).cells.size ≠ i.sz := by simpa using hclen
      have hF5 : FVRs M row (a.eval y).cells.toList := by
        have e1 := allV_eq hv
        subst e1
        exact AVRs_v.1 h5
      have hrl : row.length = i.sz := by rw [← FVRs.len hF5]; exact hclen
      have hrow1 : RowsOf M [row] (a.eval y).cells.toList i.sz := by rw [← hrl]; exact RowsOf.one hF5 hone
      have hrows := hcs.append hrow1
      have hl1 : (xs ++ [row]).length = xs.length + 1 := by simp
      obtain ⟨M', ρ', v', rfl, k5, k6, k7, _⟩ := Nx.setTok (w' := w.setRow g' (cur.toList.take off ++ (a.eval y).cells.toList ++ cur.toList.drop (off + (a.eval y).cells.toList.length)).toArray) hSt tk ii (.inl hi) (xs ++ [row]) e hE i.sz g' cap _ (cs ++ (a.eval y).cells.toList) (.inl ⟨hi, hown, _, hT2⟩) (setRow_heap w g' cur _ e _ hg) (by rw [hl1]; exact hncap) (by rw [hl1]; exact hb) hcmax
        (by simp only [List.size_toArray, List.length_append, List.length_take, List.length_drop, Array.length_toList, hclen, hoff]; omega)
        (by
          rw [hoff, htake, show (xs ++ [row]).length * i.sz = (cs ++ (a.eval y).cells.toList).length by rw [hl1, List.length_append, hcs.1, hclen, Nat.add_mul, Nat.one_mul]]
          exact List.take_left) hrows
        (fun c hc => (List.mem_append.1 hc).elim (hxs c) fun hc => by rw [List.mem_singleton.1 hc]; exact hrl)
        (fun _ => ⟨by rw [hl1]; omega, fun _ => by rw [hl1]; exact hva⟩)
        (fun o u hu => by
          have hlt : o < xs.length * i.sz := by
            refine Nat.lt_of_not_le fun hge => ?_
            rw [hfree o hge] at hu
            cases hu
          have h10 := hSt.mem g' o u hu
          rw [cell_of_row w g' o cur e (0, 0) hg] at h10
          have h11 : cs[o]? = some u := by rw [← htake, List.getElem?_take, if_pos hlt]; simpa using h10
          rw [List.getElem?_append_left (List.getElem?_eq_some_iff.1 h11).1]
          exact h11)
        ⟨rfl, rfl, rfl, by simp, fun b _ hk => setRow_other w g' b _ (fun e1 => hk (by rw [e1]))⟩
      refine ⟨M', ρ', _, undef, .inr ⟨?_, rfl⟩, by rw [patch_setTok h2]; exact k5, k6, by unfold AVR FVR; trivial⟩
      simp [execOp, ho, hptr, Instr.storeAt, Instr.sureAddr, storeVar, sizeOf_run ht, hsz, hst]
theorem sameAt_setBox2 {S : View} {l tk n : Nat} {cs : List AV} (h : n ∉ [l, tk]) : (S.setBox l cs).sameAt S n := sameAt_setBox (by
  simp only [List.mem_cons, List.not_mem_nil, or_false, not_or] at h ⊢
  exact h.1)
theorem patch_setBox2 {S S2 : View} {l tk : Nat} {cs : List AV} (h2 : ∀ n ∈ [l, tk], S2.sameAt S n) : S2.patch [l, tk] (S.setBox l cs) = S2.setBox l cs := View.ext' fun n => by
  by_cases hn : n ∈ [l, tk]
  · have := h2 n hn
    refine ⟨?_, ?_, ?_⟩ <;> simp only [View.patch, if_pos hn, View.setBox] <;> simp [this.1, this.2.1, this.2.2]
  · refine ⟨?_, ?_, ?_⟩ <;> simp only [View.patch, if_neg hn, View.setBox]
    rw [if_neg (fun e => hn (by simp [e]))]
/-- A token's slice is laid into a box. -/
theorem ok_storeTk {t : TypeId} {x y : Operand} {i : TI} {l off tk m sz : Nat} {e : TypeId} {xs : List (List FV)} {cs : List AV} (ho : o.op = .store t x y) (hx : ev Γ A x = some (.ptr l off)) (hy : ev Γ A y = some (.tk tk m)) (ht : TypeOk P t i) (hi1 : i.sz = 1) (hT : S.T tk = some (xs, e, sz)) (hE : e < BIG) (hm : xs.length = m) (hl : S.H l = some cs) (hfit : off + 1 ≤ cs.length) :
    OpOk P Γ o A S (.v .any) (S.setBox l (splice cs [.tsl tk xs] off)) [l, tk] :=
  OpOk.of_run (fun n hn => sameAt_setBox2 hn) fun S2 h2 M ρ w a h hG hSt => by
    have h1 := h x (by simp [ho, Op.operands]) _ hx
    unfold AVR at h1
    obtain ⟨b, h3, h4⟩ := h1
    have hy1 := h y (by simp [ho, Op.operands]) _ hy
    have hT2 : S2.T tk = some (xs, e, sz) := (h2 tk (by simp)).2.1.trans hT
    have hy2 : AVR M ρ (.tsl tk xs) (a.eval y) := by
      unfold AVR at hy1 ⊢
      obtain ⟨_, i1, k1, k2, k3⟩ := hy1
      obtain ⟨i2, k4, k5, _⟩ := hSt.tok tk xs e sz hT2
      rw [k1] at k4
      obtain rfl := Option.some.inj k4
      rw [slv_of hE, hm, eff_of (big_lt hE)] at k5
      exact ⟨by rw [k3]; exact k5, i1, k1, by rw [hm]; exact k2, by rw [hm]; exact k3⟩
    obtain ⟨h5, h6⟩ := cellsOf_ok hy2 (cs := [.tsl tk xs]) rfl
    have hl2 : S2.H l = some cs := (h2 l (by simp)).1.trans hl
    obtain ⟨b', c, ty, h7, h8, h9, h10, h11⟩ := hSt.box l cs hl2
    rw [h3] at h7
    obtain rfl := Option.some.inj h7
    have hlen : (a.eval y).cells.toList.length = i.sz := by rw [AVRs.len h5, hi1]; rfl
    have hcl : c.toList.length = cs.length := AVRs.len h9
    have hst := run_storeCells_at P b off ty (a.eval y).cells.toList 0 c w h8 (by rw [hlen, hi1]; rw [← hcl] at hfit; simpa using hfit) (AVRs.one h5 h6)
    simp only [Nat.add_zero] at hst
    have hsz : ¬ (a.eval y).cells.size ≠ i.sz := by simpa using hlen
    refine ⟨M, ρ, w.setRow b (c.toList.take off ++ (a.eval y).cells.toList ++ c.toList.drop (off + (a.eval y).cells.toList.length)).toArray, undef, .inr ⟨?_, rfl⟩, ?_, ρ.le_refl, by unfold AVR FVR; trivial⟩
    · simp [execOp, ho, h4, Instr.storeAt, Instr.sureAddr, storeVar, sizeOf_run ht, hsz, hst]
    · rw [patch_setBox2 h2]
      refine Nx.setBox hSt l b cs _ hl2 h3 _ ty (setRow_heap w b c _ ty _ h8) (fun k hk => setRow_other w b k _ hk) rfl rfl rfl (by simp) ?_ ?_
      · have e1 : (a.eval y).cells.toList.length = [AV.tsl tk xs].length := AVRs.len h5
        unfold splice
        rw [e1]
        exact ((h9.take off).append h5).append (h9.drop (off + [AV.tsl tk xs].length))
      · intro u hu
        simp only [List.mem_append] at hu
        rcases hu with (hu | hu) | hu
        · exact h10 u (List.mem_of_mem_take hu)
        · exact AVRs.one h5 h6 u hu
        · exact h10 u (List.mem_of_mem_drop hu)
end
/-- x says more than y. -/
def FW (x y : FV) : Prop := ∀ M v, FVR M x v → FVR M y v
theorem FW.refl (x : FV) : FW x x := fun _ _ h => h
theorem FW.some (k : SK) (xs : List (List FV)) : FW (.sl k xs) (.sl .some xs) := fun M v h => by
  unfold FVR at h ⊢
  obtain ⟨a, n, c, h1, h2, h3, _, h5⟩ := h
  exact ⟨a, n, c, h1, h2, h3, trivial, h5⟩
theorem FW.any (x : FV) : FW x .any := fun _ _ _ => by unfold FVR; trivial
def FWs : List FV → List FV → Prop
  | [], ys => ys = []
  | x :: r, ys => ∃ y s, ys = y :: s ∧ FW x y ∧ FWs r s
theorem FWs.ok {M : Mem} : ∀ {xs ys : List FV} {vs : List Value}, FWs xs ys → FVRs M xs vs → FVRs M ys vs
  | [], ys, vs, h, k => by unfold FWs at h; subst h; exact k
  | x :: r, ys, vs, h, k => by
    unfold FWs at h
    obtain ⟨y, s, rfl, h1, h2⟩ := h
    unfold FVRs at k ⊢
    obtain ⟨u, us, e, k1, k2⟩ := k
    exact ⟨u, us, e, h1 M u k1, FWs.ok h2 k2⟩
theorem FWs.refl : ∀ xs : List FV, FWs xs xs
  | [] => rfl
  | x :: r => ⟨x, r, rfl, FW.refl x, FWs.refl r⟩
theorem FWs.cons {x y : FV} {r s : List FV} (h : FW x y) (k : FWs r s) : FWs (x :: r) (y :: s) := ⟨y, s, rfl, h, k⟩
theorem FW.agg {xs ys : List FV} (h : FWs xs ys) : FW (.agg xs) (.agg ys) := fun M v k => by
  unfold FVR at k ⊢
  obtain ⟨vs, h1, h2⟩ := k
  exact ⟨vs, h1, FWs.ok h h2⟩
theorem FW.nil : FW (.sl .nil []) (.sl .some []) := FW.some .nil []
theorem FWs.len : ∀ {xs ys : List FV}, FWs xs ys → xs.length = ys.length
  | [], ys, h => by unfold FWs at h; subst h; rfl
  | x :: r, ys, h => by
    unfold FWs at h
    obtain ⟨y, s, rfl, _, h2⟩ := h
    simp [FWs.len h2]
theorem FWs.append : ∀ {xs ys az bs : List FV}, FWs xs ys → FWs az bs → FWs (xs ++ az) (ys ++ bs)
  | [], ys, az, bs, h, k => by unfold FWs at h; subst h; exact k
  | x :: r, ys, az, bs, h, k => by
    unfold FWs at h
    obtain ⟨y, s, rfl, h1, h2⟩ := h
    exact ⟨y, s ++ bs, rfl, h1, FWs.append h2 k⟩
theorem FWs.cls {M : Mem} : ∀ {xs ys : List FV} {b o : Nat}, FWs xs ys → Cls M xs b o → Cls M ys b o
  | [], ys, b, o, h, k => by unfold FWs at h; subst h; exact k
  | x :: r, ys, b, o, h, k => by
    unfold FWs at h
    obtain ⟨y, s, rfl, h1, h2⟩ := h
    unfold Cls at k ⊢
    obtain ⟨⟨u, k1, k2, k3⟩, k4⟩ := k
    exact ⟨⟨u, k1, k2, h1 M u k3⟩, FWs.cls h2 k4⟩
/-- Rows that say more. -/
def RW : List (List FV) → List (List FV) → Prop
  | [], ys => ys = []
  | x :: r, ys => ∃ y s, ys = y :: s ∧ FWs x y ∧ RW r s
theorem RW.refl : ∀ xs : List (List FV), RW xs xs
  | [] => rfl
  | x :: r => ⟨x, r, rfl, FWs.refl x, RW.refl r⟩
theorem RW.cons {x y : List FV} {r s : List (List FV)} (h : FWs x y) (k : RW r s) : RW (x :: r) (y :: s) := ⟨y, s, rfl, h, k⟩
theorem RW.len : ∀ {xs ys : List (List FV)}, RW xs ys → xs.length = ys.length
  | [], ys, h => by unfold RW at h; subst h; rfl
  | x :: r, ys, h => by
    unfold RW at h
    obtain ⟨y, s, rfl, _, h2⟩ := h
    simp [RW.len h2]
theorem RW.append : ∀ {xs ys az bs : List (List FV)}, RW xs ys → RW az bs → RW (xs ++ az) (ys ++ bs)
  | [], ys, az, bs, h, k => by unfold RW at h; subst h; exact k
  | x :: r, ys, az, bs, h, k => by
    unfold RW at h
    obtain ⟨y, s, rfl, h1, h2⟩ := h
    exact ⟨y, s ++ bs, rfl, h1, RW.append h2 k⟩
theorem RW.rws {M : Mem} : ∀ {xs ys : List (List FV)} {b o sz : Nat}, RW xs ys → Rws M xs b o sz → Rws M ys b o sz
  | [], ys, b, o, sz, h, k => by unfold RW at h; subst h; exact k
  | x :: r, ys, b, o, sz, h, k => by
    unfold RW at h
    obtain ⟨y, s, rfl, h1, h2⟩ := h
    unfold Rws at k ⊢
    exact ⟨by rw [← h1.len]; exact k.1, h1.cls k.2.1, RW.rws h2 k.2.2⟩
theorem RW.rows {n : Nat} : ∀ {xs ys : List (List FV)}, RW xs ys → (∀ c ∈ xs, c.length = n) → ∀ c ∈ ys, c.length = n
  | [], ys, h, _ => by unfold RW at h; subst h; intro c hc; cases hc
  | x :: r, ys, h, k => by
    unfold RW at h
    obtain ⟨y, s, rfl, h1, h2⟩ := h
    intro c hc
    rcases List.mem_cons.1 hc with rfl | hc
    · rw [← h1.len]; exact k x (by simp)
    · exact RW.rows h2 (fun d hd => k d (by simp [hd])) c hc
theorem FW.sl {k : SK} {xs ys : List (List FV)} (h : RW xs ys) : FW (.sl k xs) (.sl k ys) := fun M v e => by
  unfold FVR at e ⊢
  obtain ⟨a, n, c, h1, h2, h3, h4, h5, h6⟩ := e
  refine ⟨a, n, c, h1, by rw [← h.len]; exact h2, h3, h4, h5, ?_⟩
  rcases h6 with rfl | ⟨b, off, sz, h6, h7⟩
  · unfold RW at h; exact .inl h
  · exact .inr ⟨b, off, sz, h6, h.rws h7⟩
theorem RW.get {xs ys : List (List FV)} (h : RW xs ys) : ∀ (i : Nat) y, ys[i]? = some y → ∃ x, xs[i]? = some x ∧ FWs x y := by
  induction xs generalizing ys with
  | nil => unfold RW at h; subst h; intro i y hi; simp at hi
  | cons x r ih =>
    unfold RW at h
    obtain ⟨y0, s, rfl, h1, h2⟩ := h
    intro i y hi
    cases i with
    | zero => simp at hi; subst hi; exact ⟨x, by simp, h1⟩
    | succ i => exact (ih h2 i y (by simpa using hi)).imp fun v hv => by simpa using hv
theorem RW.eff {xs ys : List (List FV)} (e : TypeId) (h : RW xs ys) : RW (eff e xs) (eff e ys) := by
  unfold Go.Pav.eff
  split
  · exact h
  · exact RW.refl []
theorem RW.tok {M : Mem} {w : World} {i : Tok} {e : TypeId} {sz : Nat} {xs ys : List (List FV)} (h : RW xs ys) (k : TokOk M w i xs e sz) : TokOk M w i ys e sz := by
  unfold TokOk at k ⊢
  rw [← h.len]
  refine ⟨k.1, ?_⟩
  have k2 := k.2
  cases ho : i.own with
  | none => rw [ho] at k2; exact k2
  | some g =>
    rw [ho] at k2
    obtain ⟨cap, cur, h5, ⟨o, h6, h7⟩, h8⟩ := k2
    refine ⟨cap, cur, h5, ⟨o, h6, ?_⟩, h8⟩
    unfold ObjOk at h7 ⊢
    split
    · rename_i he; rw [if_pos he] at h7; exact h7
    · rename_i he
      rw [if_neg he] at h7
      obtain ⟨es, h1, h2, h3⟩ := h7
      refine ⟨es, by rw [← h.len]; exact h1, by rw [← h.len]; exact h2, fun i y hi => ?_⟩
      obtain ⟨x, hx, hw⟩ := h.get i y hi
      obtain ⟨a, b, h4, h5⟩ := h3 i x hx
      exact ⟨a, b, h4, hw.ok h5⟩
theorem Wk.fw {x y : FV} (h : FW x y) : Wk (.v x) (.v y) := fun M ρ v k => by unfold AVR at k ⊢; exact h M v k
theorem Wk.tokR {t : Nat} {xs ys : List (List FV)} (h : RW xs ys) : Wk (.tsl t xs) (.tsl t ys) := fun M ρ v k => by
  unfold AVR at k ⊢
  rw [← h.len]
  exact ⟨FW.sl h M v k.1, k.2⟩
end Go.Pav
namespace Go.Pav
open Go.RowKit

/-- A map's token is new, or what its map holds has changed. -/
theorem Nx.mapG {M : Mem} {ρ : Nam} {w w' : World} {S : View} (h : St M ρ w S) (t g cap : Nat) (cur : Array Value)
    (hg : (∃ i x, ρ.tok t = some i ∧ i.own = some g ∧ i.len = 0 ∧ i.val 0 = .slice (some ⟨g, 0, none⟩) 0 cap ∧ S.T t = some x) ∨ (ρ.tok t = none ∧ w.heap.size ≤ g))
    (xs : List (List FV)) (e : TypeId) (he : ¬ e < BIG2) (hx : ∀ c ∈ xs, c.length = 2) (hmax : cap ≤ maxLen) (hcur : cur.size = cap * 2)
    (hw : HOk M w' g e xs cur) (hM : ∀ o, M g o = none) (hgrow : w.grownBy w' (some g)) :
    ∃ ρ', Nx M ρ w S M ρ' w' (S.setTok t (xs, e, 2)) ∧ ρ.le ρ' ∧ AVR M ρ' (.mp t) (.map (some g)) := by
  have he1 : ¬ e < BIG := fun k => he (big_lt k)
  have hpl : plen e xs.length = 0 := by unfold plen; rw [if_neg he1, if_neg he]
  let i' : Tok := ⟨0, fun _ => .slice (some ⟨g, 0, none⟩) 0 cap, some g⟩
  have hρ : ρ.le (ρ.setTok t i') := by
    refine ⟨fun _ _ hb => hb, fun n j hj => ?_⟩
    simp only [Nam.setTok]
    split
    · rename_i e1
      subst e1
      rcases hg with ⟨i, x, h1, h2, h3, h4, h5⟩ | ⟨h1, _⟩
      · rw [h1] at hj
        obtain rfl := Option.some.inj hj
        refine ⟨i', rfl, by rw [h3]; exact Nat.le_refl _, fun m hm => ?_⟩
        rw [h3] at hm
        obtain rfl := Nat.le_zero.1 hm
        exact h4.symm
      · rw [h1] at hj; cases hj
    · exact ⟨j, hj, Nat.le_refl _, fun _ _ => rfl⟩
  have hother : ∀ b, b < w.heap.size → b ≠ g → w'.heap[b]? = w.heap[b]? := fun b hb hn => hgrow.block b hb (by simpa using hn)
  have hownlt : ∀ b, Owned ρ S b → b < w.heap.size := fun b hb => h.owned_lt hb
  have hbox : ∀ l ds b, S.H l = some ds → ρ.box l = some b → b ≠ g := fun l ds b h1 h2 e1 => by
    subst e1
    rcases hg with ⟨i, x, h3, h4, _, _, h5⟩ | ⟨_, h3⟩
    · exact h.mixed l t ds x i b h1 h5 h2 h3 h4
    · have := hownlt b (.inl ⟨l, ds, h1, h2⟩); omega
  have htok : ∀ n x j b, n ≠ t → S.T n = some x → ρ.tok n = some j → j.own = some b → b ≠ g := fun n x j b hn h1 h2 h3 e1 => by
    subst e1
    rcases hg with ⟨i, y, h4, h5, _, _, h6⟩ | ⟨_, h4⟩
    · exact hn (h.toks n t x y j i b h1 h6 h2 h4 h3 h5)
    · have := hownlt b (.inr ⟨n, x, j, h1, h2, h3⟩); omega
  refine ⟨ρ.setTok t i', ⟨⟨?_, ?_, ?_, ?_, ?_, ?_, ?_, ?_⟩, ⟨hgrow.os, hgrow.tape, hgrow.output, hgrow.size, ?_, M.le_refl, fun _ _ _ _ => rfl⟩, ?_⟩, hρ, ?_⟩
  · intro b o v hv
    have hne : b ≠ g := fun e1 => by rw [e1, hM o] at hv; cases hv
    exact (World.cell?_of_block (w := w) (w' := w') (a := ⟨b, o, none⟩) (hother b (h.mem_lt hv) hne)).trans (h.mem b o v hv)
  · intro l ds hl
    obtain ⟨b, c, ty, h1, h2, h3, h4, h5⟩ := h.box l ds hl
    exact ⟨b, c, ty, h1, (hother b (hownlt b (.inl ⟨l, ds, hl, h1⟩)) (hbox l ds b hl h1)).trans h2, AVRs.mono M.le_refl hρ _ _ h3, h4, h5⟩
  · intro n ys e1 sz1 hn
    simp only [View.setTok] at hn
    split at hn
    · rename_i e2
      subst e2
      obtain ⟨rfl, rfl, rfl⟩ : xs = ys ∧ e = e1 ∧ 2 = sz1 := by simpa using hn
      refine ⟨i', by simp [Nam.setTok], ?_, hx, hpl.symm, cap, cur, by rw [hpl], hw, by rw [hpl]; exact Nat.zero_le _, hmax, hcur, fun o _ => hM o⟩
      have e3 : eff e xs = [] := if_neg he
      have e4 : slv e i' xs.length = .slice (some ⟨g, 0, none⟩) 0 cap := by unfold slv; rw [if_neg he1, if_neg he]
      rw [e3, e4]
      unfold FVR
      exact ⟨_, _, _, rfl, rfl, ⟨Nat.zero_le _, by omega⟩, trivial, (fun k => by cases k), .inl rfl⟩
    · rename_i e2
      obtain ⟨j, h1, h2, hr, h3, h4⟩ := h.tok n ys e1 sz1 hn
      refine ⟨j, by simp only [Nam.setTok]; rw [if_neg e2]; exact h1, h2, hr, h3, ?_⟩
      cases ho : j.own with
      | none => rw [ho] at h4; exact h4
      | some b =>
        rw [ho] at h4
        obtain ⟨cap', cur', h5, h6, h7⟩ := h4
        exact ⟨cap', cur', h5, h6.tr (hother b (hownlt b (.inr ⟨n, _, j, hn, h1, ho⟩)) (htok n _ j b e2 hn h1 ho)) M.le_refl, h7⟩
  · exact h.boxes
  · intro n n' x x' j j' b h1 h2 h3 h4 h5 h6
    simp only [View.setTok, Nam.setTok] at h1 h2 h3 h4
    split at h1 <;> split at h2 <;> rename_i e1 e2
    · rw [e1, e2]
    · simp only [e1, if_true, e2, if_false] at h3 h4
      obtain rfl := Option.some.inj h3
      exact absurd (Option.some.inj h5).symm (htok n' x' j' b e2 h2 h4 h6)
    · simp only [e1, if_false, e2, if_true] at h3 h4
      obtain rfl := Option.some.inj h4
      exact absurd (Option.some.inj h6).symm (htok n x j b e1 h1 h3 h5)
    · simp only [e1, e2, if_false] at h3 h4
      exact h.toks n n' x x' j j' b h1 h2 h3 h4 h5 h6
  · intro l n ds x j b h1 h2 h3 h4 h5
    simp only [View.setTok, Nam.setTok] at h2 h4
    split at h2 <;> rename_i e1
    · simp only [e1, if_true] at h4
      obtain rfl := Option.some.inj h4
      exact hbox l ds b h1 h3 (Option.some.inj h5).symm
    · simp only [e1, if_false] at h4
      exact h.mixed l n ds x j b h1 h2 h3 h4 h5
  · intro n hn
    simp only [View.setTok, Bool.or_eq_false_iff, beq_eq_false_iff_ne] at hn
    have := h.free n hn.2
    simp only [Nam.setTok, if_neg hn.1]
    exact this
  · intro n hn
    simp only [View.setTok, Bool.or_eq_false_iff, beq_eq_false_iff_ne] at hn
    have := h.freeH n hn.2
    simp only [View.setTok, if_neg hn.1]
    exact this
  · intro b hb hn
    refine hother b hb fun e1 => ?_
    subst e1
    rcases hg with ⟨i, x, h1, h2, _, _, h3⟩ | ⟨_, h1⟩
    · exact hn (.inr ⟨t, x, i, h3, h1, h2⟩)
    · omega
  · intro b hb
    rcases hb with ⟨l, ds, h1, h2⟩ | ⟨n, x, j, h1, h2, h3⟩
    · exact .inl (.inl ⟨l, ds, h1, h2⟩)
    · simp only [View.setTok, Nam.setTok] at h1 h2
      split at h1 <;> rename_i e1
      · simp only [e1, if_true] at h2
        obtain rfl := Option.some.inj h2
        have e2 : g = b := Option.some.inj h3
        subst e2
        rcases hg with ⟨i, y, h4, h5, _, _, h6⟩ | ⟨_, h4⟩
        · exact .inl (.inr ⟨t, y, i, h6, h4, h5⟩)
        · exact .inr h4
      · simp only [e1, if_false] at h2
        exact .inl (.inr ⟨n, x, j, h1, h2, h3⟩)
  · unfold AVR
    exact ⟨i', g, cap, by simp [Nam.setTok], rfl, rfl⟩

/-! ### what such a map holds -/
def rowSB (p : ByteArray × Bool) : List FV := [.str p.1, .bool p.2]
def entSB (p : ByteArray × Bool) (i : Nat) : MapEntry := ⟨.string p.1, .bool p.2, i⟩
def entsSB : List (ByteArray × Bool) → Nat → List MapEntry
  | [], _ => []
  | p :: r, i => entSB p i :: entsSB r (i + 1)
theorem entsSB_get : ∀ (ps : List (ByteArray × Bool)) (n i : Nat), (entsSB ps n)[i]? = ps[i]?.map fun p => entSB p (n + i)
  | [], n, i => by simp [entsSB]
  | p :: r, n, 0 => by simp [entsSB]
  | p :: r, n, i + 1 => by
    simp only [entsSB, List.getElem?_cons_succ]
    rw [entsSB_get r (n + 1) i, show n + 1 + i = n + (i + 1) by omega]
theorem entsSB_length : ∀ (ps : List (ByteArray × Bool)) (n : Nat), (entsSB ps n).length = ps.length
  | [], n => rfl
  | p :: r, n => by simp [entsSB, entsSB_length r]
theorem entsSB_append : ∀ (ps : List (ByteArray × Bool)) (q : ByteArray × Bool) (n : Nat), entsSB (ps ++ [q]) n = entsSB ps n ++ [entSB q (n + ps.length)]
  | [], q, n => by simp [entsSB]
  | p :: r, q, n => by simp [entsSB, entsSB_append r q (n + 1), show n + 1 + r.length = n + (r.length + 1) by omega]
theorem HOk.map {M : Mem} {w : World} {g : Nat} {e : TypeId} {ps : List (ByteArray × Bool)} {cur : Array Value} (he : ¬ e < BIG2) (h : HOk M w g e (ps.map rowSB) cur) : w.heap[g]? = some (.map (entsSB ps 0).toArray ps.length) := by
  obtain ⟨o, h1, h2⟩ := h
  unfold ObjOk at h2
  rw [if_neg he] at h2
  obtain ⟨es, rfl, h3, h4⟩ := h2
  rw [h1, List.length_map]
  have hes : es = (entsSB ps 0).toArray := by
    apply Array.ext'
    apply List.ext_getElem?
    intro i
    rw [Array.getElem?_toList]
    simp only
    rw [entsSB_get, Nat.zero_add]
    cases hp : ps[i]? with
    | none =>
      have := List.getElem?_eq_none_iff.1 hp
      simp only [Option.map_none]
      exact Array.getElem?_eq_none (by rw [h3, List.length_map]; exact this)
    | some p =>
      obtain ⟨k, v, h5, h6⟩ := h4 i (rowSB p) (by rw [List.getElem?_map, hp]; rfl)
      rw [h5]
      unfold rowSB at h6
      unfold FVRs at h6
      obtain ⟨u, us, e1, h7, h8⟩ := h6
      unfold FVRs at h8
      obtain ⟨u2, us2, e2, h9, h10⟩ := h8
      unfold FVRs at h10
      subst h10
      simp only [List.cons.injEq] at e1
      obtain ⟨rfl, e1⟩ := e1
      rw [e2] at e1
      simp only [List.cons.injEq, and_true] at e1
      subst e1
      unfold FVR at h7 h9
      subst h7 h9
      rfl
  rw [hes]
theorem HOk.ofMap {M : Mem} {w : World} {g : Nat} {e : TypeId} {ps : List (ByteArray × Bool)} {cur : Array Value} (he : ¬ e < BIG2) (h : w.heap[g]? = some (.map (entsSB ps 0).toArray ps.length)) : HOk M w g e (ps.map rowSB) cur := by
  refine ⟨_, h, ?_⟩
  unfold ObjOk
  rw [if_neg he]
  refine ⟨_, by rw [List.length_map], by simp [entsSB_length], fun i r hi => ?_⟩
  rw [List.getElem?_map] at hi
  cases hp : ps[i]? with
  | none => rw [hp] at hi; cases hi
  | some p =>
    rw [hp] at hi
    obtain rfl := Option.some.inj hi
    refine ⟨.string p.1, .bool p.2, ?_, ?_⟩
    · simp only [List.getElem?_toArray]
      rw [entsSB_get, hp, Nat.zero_add]
      rfl
    · unfold rowSB
      unfold FVRs
      refine ⟨_, _, rfl, by unfold FVR; rfl, ?_⟩
      unfold FVRs
      exact ⟨_, _, rfl, by unfold FVR; rfl, by unfold FVRs; rfl⟩
def findSB (ps : List (ByteArray × Bool)) (s : ByteArray) : Bool := match ps.find? (fun p => s == p.1) with | some p => p.2 | none => false
theorem findNow_none {s : ByteArray} : ∀ (ps : List (ByteArray × Bool)) (n i : Nat), ps.find? (fun p => s == p.1) = none → Instr.findNow .string (.string s) (entsSB ps n) i = some none
  | [], n, i, _ => rfl
  | p :: r, n, i, h => by
    simp only [List.find?_cons] at h
    split at h
    · cases h
    · rename_i hp
      have hp' : (s == p.1) = false := by simpa using hp
      simp only [entsSB, entSB, Instr.findNow, Instr.sameNow, hp']
      exact findNow_none r (n + 1) (i + 1) h
theorem findNow_some {s : ByteArray} {q : ByteArray × Bool} : ∀ (ps : List (ByteArray × Bool)) (n i : Nat), ps.find? (fun p => s == p.1) = some q → ∃ k, Instr.findNow .string (.string s) (entsSB ps n) i = some (some (k, .bool q.2))
  | [], n, i, h => by cases h
  | p :: r, n, i, h => by
    simp only [List.find?_cons] at h
    split at h
    · rename_i hp
      obtain rfl := Option.some.inj h
      refine ⟨i, ?_⟩
      simp only [entsSB, entSB, Instr.findNow, Instr.sameNow, hp]
    · rename_i hp
      have hp' : (s == p.1) = false := by simpa using hp
      simp only [entsSB, entSB, Instr.findNow, Instr.sameNow, hp']
      exact findNow_some r (n + 1) (i + 1) h

/-! ### the operations -/
/-- t: a map from strings to truths. -/
def mapSB (P : Program) (t : TypeId) : Bool :=
  match P.underlying t with
  | some (.map k e) => (match P.underlying k with | some .string => true | _ => false) && (match P.info? e with | some f => (match f.zero with | some (.bool false) => true | _ => false) | none => false)
  | _ => false
theorem mapSB_ok {P : Program} {t : TypeId} (h : mapSB P t = true) : ∃ k e f, P.underlying t = some (.map k e) ∧ P.underlying k = some .string ∧ P.info? e = some f ∧ f.zero = some (.bool false) := by
  unfold mapSB at h
  split at h
  · rename_i k e hu
    rw [Bool.and_eq_true] at h
    obtain ⟨h1, h2⟩ := h
    split at h1
    · rename_i hk
      split at h2
      · rename_i f hf
        split at h2
        · rename_i hz
          exact ⟨k, e, f, hu, hk, hf, hz⟩
        · cases h2
      · cases h2
    · cases h1
  · cases h
section
variable {P : Program} {Γ : Glo} {o : Oper} {A : Env} {S : View}
theorem ok_makeMap {t : TypeId} {d : Nat} (ho : o.op = .makeMap t none) (hU : S.U d = false) : OpOk P Γ o A S (.mp d) (S.setTok d ([], BIG2, 2)) [d] :=
  OpOk.of_run (fun n hn => sameAt_setTok hn) fun S2 h2 M ρ w a h hG hSt => by
    have hU2 : S2.U d = false := (h2 d (by simp)).2.2.trans hU
    have hhe : (w.alloc (.map #[] 0)).heap[w.heap.size]? = some (.map #[] 0) := heap_alloc_new w _
    obtain ⟨ρ', h3, h4, h5⟩ := Nx.mapG (w' := w.alloc (.map #[] 0)) hSt d w.heap.size 0 #[] (.inr ⟨(hSt.free d hU2).2, Nat.le_refl _⟩) [] BIG2 (Nat.lt_irrefl _) (fun c hc => by cases hc) (Nat.zero_le _) rfl
      (HOk.ofMap (ps := []) (Nat.lt_irrefl _) hhe) (fun o => hSt.mem_new (Nat.le_refl _) o)
      ⟨rfl, rfl, rfl, by simp, fun k hk _ => Below.heap_alloc w _ k hk⟩
    refine ⟨M, ρ', _, _, .inl ?_, by rw [patch_setTok h2]; exact h3, h4, h5⟩
    simp [execOp, ho, Instr.makeMap]
theorem St.mapAt {M : Mem} {ρ : Nam} {w : World} {S : View} (h : St M ρ w S) {t : Nat} {e : TypeId} {sz : Nat} {ps : List (ByteArray × Bool)} (hT : S.T t = some (ps.map rowSB, e, sz)) (he : ¬ e < BIG2) {v : Value} (hv : AVR M ρ (.mp t) v) :
    ∃ i g cap cur, v = .map (some g) ∧ ρ.tok t = some i ∧ i.own = some g ∧ i.len = 0 ∧ i.val 0 = .slice (some ⟨g, 0, none⟩) 0 cap ∧ cap ≤ maxLen ∧ Array.size cur = cap * sz ∧ w.heap[g]? = some (.map (entsSB ps 0).toArray ps.length) ∧ (∀ o, M g o = none) ∧ (cur : Array Value) = cur := by
  have he1 : ¬ e < BIG := fun k => he (big_lt k)
  have hpl : ∀ n, plen e n = 0 := fun n => by unfold plen; rw [if_neg he1, if_neg he]
  unfold AVR at hv
  obtain ⟨i, g, c, h1, h2, h3⟩ := hv
  obtain ⟨j, h4, h5, h6, h7, h8⟩ := h.tok t _ e sz hT
  rw [h1] at h4
  obtain rfl := Option.some.inj h4
  rw [hpl] at h7
  cases ho : i.own with
  | none => rw [ho] at h8; exact absurd h8.1 he1
  | some b =>
    rw [ho] at h8
    obtain ⟨cap, cur, h9, h10, h11, h12, h13, h14⟩ := h8
    rw [hpl, h2] at h9
    simp only [Value.slice.injEq, Option.some.injEq, Addr.mk.injEq, and_true, true_and] at h9
    obtain ⟨rfl, rfl⟩ := h9
    have hh := h10.map he
    refine ⟨i, g, c, cur, h3, h1, ho, h7, h2, h12, h13, hh, fun o => ?_, rfl⟩
    cases hm : M g o with
    | none => rfl
    | some u =>
      have := h.mem g o u hm
      simp [World.cell?, hh] at this
theorem ok_lookup {t : TypeId} {x y : Operand} {tk : Nat} {s : ByteArray} {e : TypeId} {sz : Nat} {ps : List (ByteArray × Bool)} (ho : o.op = .lookup t x y false) (ht : mapSB P t = true) (hx : ev Γ A x = some (.mp tk)) (hy : ev Γ A y = some (.v (.str s)))
    (hT : S.T tk = some (ps.map rowSB, e, sz)) (he : ¬ e < BIG2) : OpOk P Γ o A S (.v (.bool (findSB ps s))) S [tk] :=
  OpOk.of_run (fun n hn => ⟨rfl, rfl, rfl⟩) fun S2 h2 M ρ w a h hG hSt => by
    have h1 := h x (by simp [ho, Op.operands]) _ hx
    have h3 := h y (by simp [ho, Op.operands]) _ hy
    unfold AVR FVR at h3
    obtain ⟨i, g, cap, cur, h4, h5, h6, h7, h8, h9, h10, h11, h12, _⟩ := hSt.mapAt ((h2 tk (by simp)).2.1.trans hT) he h1
    obtain ⟨k, el, f, hu, hk, hf, hz⟩ := mapSB_ok ht
    refine ⟨M, ρ, w, .bool (findSB ps s), .inl ?_, ?_, ρ.le_refl, by unfold AVR FVR; rfl⟩
    · cases hfi : ps.find? (fun p => s == p.1) with
      | none =>
        have hn := findNow_none ps 0 0 hfi
        simp [execOp, ho, h3, h4, Instr.lookup, run_underlying hu, MapKept.run_getObj_map h11, MapKept.run_checkKey hk (show MapKept.IsKey .string (.string s) from by simp [MapKept.IsKey]), MapKept.run_findKey hk hn, Result.andThen, zeroValue, typeInfo, hf, hz, findSB, hfi]
      | some q =>
        obtain ⟨j, hn⟩ := findNow_some ps 0 0 hfi
        simp [execOp, ho, h3, h4, Instr.lookup, run_underlying hu, MapKept.run_getObj_map h11, MapKept.run_checkKey hk (show MapKept.IsKey .string (.string s) from by simp [MapKept.IsKey]), MapKept.run_findKey hk hn, Result.andThen, findSB, hfi]
    · rw [show S2.patch [tk] S = S2 from View.ext' fun n => by
        by_cases hn : n = tk
        · subst hn
          have := h2 n (by simp)
          exact ⟨by simp [View.patch, this.1], by simp [View.patch, this.2.1], by simp [View.patch, this.2.2]⟩
        · exact ⟨by simp [View.patch, hn], by simp [View.patch, hn], by simp [View.patch, hn]⟩]
      exact Nx.refl hSt
theorem ok_mapUpdate {t : TypeId} {x y z : Operand} {tk : Nat} {s : ByteArray} {b : Bool} {e : TypeId} {ps : List (ByteArray × Bool)} (ho : o.op = .mapUpdate t x y z) (ht : mapSB P t = true) (hx : ev Γ A x = some (.mp tk)) (hy : ev Γ A y = some (.v (.str s))) (hz : ev Γ A z = some (.v (.bool b)))
    (hT : S.T tk = some (ps.map rowSB, e, 2)) (he : ¬ e < BIG2) (hnew : ps.find? (fun p => s == p.1) = none) : OpOk P Γ o A S (.v .any) (S.setTok tk ((ps ++ [(s, b)]).map rowSB, e, 2)) [tk] :=
  OpOk.of_run (fun n hn => sameAt_setTok hn) fun S2 h2 M ρ w a h hG hSt => by
    have h1 := h x (by simp [ho, Op.operands]) _ hx
    have h3 := h y (by simp [ho, Op.operands]) _ hy
    have h13 := h z (by simp [ho, Op.operands]) _ hz
    unfold AVR FVR at h3 h13
    have hT2 := (h2 tk (by simp)).2.1.trans hT
    obtain ⟨i, g, cap, cur, h4, h5, h6, h7, h8, h9, h10, h11, h12, _⟩ := hSt.mapAt hT2 he h1
    obtain ⟨k, el, f, hu, hk, _, _⟩ := mapSB_ok ht
    have hn := findNow_none ps 0 0 hnew
    have hset := MapKept.heap_set (o' := .map (entsSB (ps ++ [(s, b)]) 0).toArray (ps ++ [(s, b)]).length) h11
    obtain ⟨ρ', k1, k2, k3⟩ := Nx.mapG (w' := { w with heap := w.heap.setIfInBounds g (.map (entsSB (ps ++ [(s, b)]) 0).toArray (ps ++ [(s, b)]).length) }) hSt tk g cap cur (.inl ⟨i, _, h5, h6, h7, h8, hT2⟩) ((ps ++ [(s, b)]).map rowSB) e he
      (fun c hc => by obtain ⟨p, _, rfl⟩ := List.mem_map.1 hc; rfl) h9 h10 (HOk.ofMap he hset.1) h12 ⟨rfl, rfl, rfl, by simp, fun k' _ hk' => hset.2 k' (fun e1 => hk' (by rw [e1]))⟩
    refine ⟨M, ρ', _, undef, .inr ⟨?_, rfl⟩, by rw [patch_setTok h2]; exact k1, k2, by unfold AVR FVR; trivial⟩
    have hpush : (entsSB ps 0).toArray.push ⟨.string s, .bool b, ps.length⟩ = (entsSB (ps ++ [(s, b)]) 0).toArray := by
      rw [entsSB_append]
      simp [entSB]
    simp [execOp, ho, h3, h4, h13, Instr.mapUpdate, run_underlying hu, MapKept.run_getObj_map h11, MapKept.run_checkKey hk (show MapKept.IsKey .string (.string s) from by simp [MapKept.IsKey]), MapKept.run_findKey hk hn, Result.andThen, MapKept.run_setObj_map _ h11, hpush]
end
end Go.Pav
namespace Go.Pav
open Go.RowKit

/-- What follows where a value is. -/
def opt {α : Type} (x : Option α) (k : α → Prop) : Prop := match x with | some y => k y | none => False
theorem opt_some {α : Type} {x : Option α} {k : α → Prop} (h : opt x k) : ∃ y, x = some y ∧ k y := by
  cases x with
  | none => exact h.elim
  | some y => exact ⟨y, rfl, h⟩
/-- What follows where a test says yes. -/
def chk (b : Bool) (k : Prop) : Prop := match b with | true => k | false => False
theorem chk_true {b : Bool} {k : Prop} (h : chk b k) : b = true ∧ k := by cases b; exact h.elim; exact ⟨rfl, h⟩
/-- Both ways of a truth. -/
def cnd (b : Bool) (x y : Prop) : Prop := match b with | true => x | false => y
theorem cnd_of {b : Bool} {x y : Prop} (h : cnd b x y) : (b = true ∧ x) ∨ (b = false ∧ y) := by cases b; exact .inr ⟨rfl, h⟩; exact .inl ⟨rfl, h⟩
/-- Of a truth that is written out. -/
def lit (b : Bool) (x y : Prop) : Prop := match b with | true => x | false => y
theorem lit_of {b : Bool} {x y : Prop} (h : lit b x y) : (b = true ∧ x) ∨ (b = false ∧ y) := by cases b; exact .inr ⟨rfl, h⟩; exact .inl ⟨rfl, h⟩
theorem cnd_mk {b : Bool} {x y : Prop} (h : b = true → x) (k : b = false → y) : cnd b x y := by cases b; exact k rfl; exact h rfl
theorem cnd_t {b : Bool} {x y : Prop} (h : b = true) (k : x) : cnd b x y := by subst h; exact k
theorem cnd_f {b : Bool} {x y : Prop} (h : b = false) (k : y) : cnd b x y := by subst h; exact k

section
variable (P : Program) (TT : TypeId → Option TI) (Γ : Glo)
abbrev Kont := AV → ASt → List Nat → Bool → Prop

def intK (op : BinOp) (k k' : IntKind) (a b : Int) (C : FV → Prop) : Prop :=
  match op with
  | .shl | .shr => 0 ≤ b ∧ opt (shiftA op k a b) C
  | .quo | .rem => chk (k == k') (b ≠ 0 ∧ opt (intBin2 op k a b) C)
  | .and | .or | .xor => chk (k == k') (opt (intBin2 op k a b) C)
  | _ => chk (k == k') (opt (intBin op k a b) C)
def binP (S : ASt) (op : BinOp) (t : TypeId) (x y : AV) (K : Kont) : Prop :=
  match x, y with
  | .v (.int k a), .v (.int k' b) => intK op k k' a b fun z => K (.v z) S [] false
  | .v (.sl k _), .v (.sl .nil []) => opt (TT t) fun i => match i.kind with | .slice _ => chk ((k == .nil || k == .nonnil) && (isEql op || isNeq op)) (K (.v (.bool ((k == .nil) == isEql op))) S [] false) | _ => False
  | .v (.str a), .v (.str b) =>
    match op with
    | .add => a.size + b.size ≤ 9223372036854775807 ∧ K (.v (.str (a ++ b))) S [] false
    | _ => opt (strBin op a b) fun z => K (.v z) S [] false
  | .v (.bool a), .v (.bool b) => opt (TT t) fun i => match i.kind with | .bool => opt (boolBin op a b) fun z => K (.v z) S [] false | _ => False
  | _, _ => False

/-- A store. -/
def storeP (S : ASt) (i : TI) (av xv : AV) (K : Kont) : Prop :=
  opt (cellsOf xv) fun zs => match av with
    | .ptr l off => opt (S.H.lookup l) fun cs => chk (Nat.beq zs.length i.sz && Nat.ble (off + zs.length) cs.length) (K (.v .any) (S.setBox l (splice cs zs off)) [l] true)
    | .pp tk m off => opt (S.T.lookup tk) fun q => opt (allV zs) fun row => chk (Nat.beq zs.length i.sz) (∃ e, q.2.1 = e + BIG ∧ e < BIG ∧ q.2.2 = i.sz ∧ m = q.1.length + 1 ∧ off = q.1.length * i.sz ∧ q.1.length + 1 ≤ 140737488355328 ∧ K (.v .any) (S.setTok tk (q.1 ++ [row], e, i.sz)) [tk] true)
    | _ => False
/-- What is owed for an operation. -/
def opP (A : Env) (S : ASt) (o : Oper) (K : Kont) : Prop :=
  match o.op with
  | .move x | .assign x => opt (ev Γ A x) fun y => K y S [] false
  | .pick c x y => opt (ev Γ A c) fun cv => match cv with
    | .v (.bool b) => cnd b (opt (ev Γ A x) fun z => K z S [] false) (opt (ev Γ A y) fun z => K z S [] false)
    | _ => False
  | .alloc t => opt o.dst fun d => opt (TT t) fun i => chk (!S.U.contains d) (K (.ptr d 0) (S.addBox d (i.zero.map .v)) [d] true)
  | .box _ x => opt o.dst fun d => opt (ev Γ A x) fun y => opt (cellsOf y) fun cs => chk (!S.U.contains d) (K (.ptr d 0) (S.addBox d cs) [d] true)
  | .build t parts => opt (TT t) fun i => opt (evs Γ A (parts.toList.map (·.2))) fun vs =>
    match i.kind with
    | .struct fs => opt (fillA (placeS fs) (i.zero.map .v) ((parts.toList.map (·.1)).zip vs)) fun cells => K (mkAgg cells) S [] false
    | .array _ e => opt (TT e) fun ie => opt (fillA (fun k => some (k * ie.sz, ie.sz)) (i.zero.map .v) ((parts.toList.map (·.1)).zip vs)) fun cells => K (mkAgg cells) S [] false
    | _ => False
  | .buildSlice t len parts => opt (TT t) fun i => opt (evs Γ A (parts.toList.map (·.2))) fun vs =>
    match i.kind with
    | .slice e => opt (TT e) fun ie => opt (fillA (fun k => some (k * ie.sz, ie.sz)) ((List.replicate len (ie.zero.map AV.v)).flatten) ((parts.toList.map (·.1)).zip vs)) fun cells =>
      opt (allV cells) fun fc => chk (Nat.ble 1 ie.sz && Nat.ble (len * ie.sz) (2 ^ 24) && Nat.beq fc.length (len * ie.sz)) (K (.v (.sl .full (chunk ie.sz fc len))) S [] false)
    | _ => False
  | .load t a => opt (TT t) fun i => opt (ev Γ A a) fun av => match av with
    | .v (.fptr cs) => opt (loadF i cs) fun z => K (.v z) S [] false
    | .ptr l off => opt (S.H.lookup l) fun cs => opt (partA i cs off) fun z => K z S [l] false
    | _ => False
  | .store t a x => opt (TT t) fun i => opt (ev Γ A a) fun av => opt (ev Γ A x) fun xv => storeP S i av xv K
  | .nilCheck x => opt (ev Γ A x) fun y => match y with
    | .ptr _ _ | .v (.fptr _) | .fn _ _ _ | .v (.fn _ _ _) => K y S [] false
    | _ => False
  | .binOp op t x y _ => opt (ev Γ A x) fun xv => opt (ev Γ A y) fun yv => binP TT S op t xv yv K
  | .unOp op _ x => opt (ev Γ A x) fun xv => match op, xv with
    | .not, .v (.bool b) => K (.v (.bool !b)) S [] false
    | .neg, .v (.int k n) => K (.v (.int k (k.wrap (0 - n)))) S [] false
    | _, _ => False
  | .fieldAddr s x f => opt (TT s) fun i => opt (ev Γ A x) fun xv => match i.kind with
    | .struct fs => opt fs[f]? fun g => chk (Nat.ble 1 g.2.2) (match xv with
      | .ptr l off => K (.ptr l (off + g.1)) S [] false
      | .v (.fptr cs) => K (.v (.fptr (cs.drop g.1))) S [] false
      | _ => False)
    | _ => False
  | .field s x f => opt (TT s) fun i => opt (ev Γ A x) fun xv => match i.kind with
    | .struct fs => opt fs[f]? fun g => opt (TT g.2.1) fun j => opt (aggOf xv) fun cs => opt (partA j cs g.1) fun z => K z S [] false
    | _ => False
  | .indexAddr t x ix => opt (TT t) fun i => opt (ev Γ A x) fun xv => opt (ev Γ A ix) fun iv => match i.kind, iv with
    | .slice e, .v (.int _ n) => opt (TT e) fun j => match xv with
      | .bsl l off m _ sz => chk (Nat.beq sz j.sz) (0 ≤ n ∧ n < m ∧ K (.ptr l (off + n.toNat * j.sz)) S [] false)
      | .tk tk m => 0 ≤ n ∧ n < m ∧ K (.pp tk m (n.toNat * j.sz)) S [] false
      | xv => opt (slOf xv) fun xs => 0 ≤ n ∧ ∃ cs, xs[n.toNat]? = some cs ∧ cs.length = j.sz ∧ K (.v (.fptr cs)) S [] false
    | _, _ => False
  | .index t x ix => opt (TT t) fun i => opt (ev Γ A x) fun xv => opt (ev Γ A ix) fun iv => match i.kind, xv, iv with
    | .string, .v (.str s), .v (.int _ n) => 0 ≤ n ∧ ∃ b, s[n.toNat]? = some b ∧ K (.v (.int .u8 b.toNat)) S [] false
    | .array len e, xv, .v (.int _ (.ofNat n)) => opt (TT e) fun j => opt (aggOf xv) fun cs => chk (Nat.blt n len) (opt (partA j cs (n * j.sz)) fun z => K z S [] false)
    | _, _, _ => False
  | .slice t x lo hi none => opt (TT t) fun i => opt (ev Γ A x) fun xv => opt (boundA Γ A lo) fun l => opt (boundA Γ A hi) fun h => match i.kind with
    | .slice e => opt (TT e) fun j => opt (slOf xv) fun xs => 0 ≤ l.getD 0 ∧ l.getD 0 ≤ h.getD xs.length ∧ h.getD xs.length ≤ xs.length ∧ (∀ c ∈ xs, c.length = j.sz) ∧ K (.v (.sl .some ((xs.take (h.getD xs.length).toNat).drop (l.getD 0).toNat))) S [] false
    | .string => match xv with
      | .v (.str s) => 0 ≤ l.getD 0 ∧ l.getD 0 ≤ h.getD s.size ∧ h.getD s.size ≤ s.size ∧ K (.v (.str (s.extract (l.getD 0).toNat (h.getD s.size).toNat))) S [] false
      | _ => False
    | _ => False
  | .slice t x lo (some hi) (some mx) => opt (TT t) fun i => opt (ev Γ A x) fun xv => opt (boundA Γ A lo) fun l => opt (ev Γ A hi) fun hv => opt (ev Γ A mx) fun mv => match i.kind, hv, mv with
    | .slice e, .v (.int _ h), .v (.int _ m) => opt (TT e) fun j => opt (slOf xv) fun xs => 0 ≤ l.getD 0 ∧ l.getD 0 ≤ h ∧ h ≤ xs.length ∧ m = h ∧ (∀ c ∈ xs, c.length = j.sz) ∧ K (.v (.sl .full ((xs.take h.toNat).drop (l.getD 0).toNat))) S [] false
    | _, _, _ => False
  | .convert t u x => opt (TT t) fun _ => opt (TT u) fun j => opt (ev Γ A x) fun xv => match j.kind, xv with
    | .int k, .v (.int _ n) => K (.v (.int k (k.wrap n))) S [] false
    | _, _ => False
  | .makeSlice t lo co => opt o.dst fun d => opt (TT t) fun i => opt (ev Γ A lo) fun lv => opt (ev Γ A co) fun cv => match i.kind, lv, cv with
    | .slice e, .v (.int _ n), .v (.int _ m) => opt (TT e) fun ie => chk (Nat.ble 1 ie.sz && !S.U.contains d) (n = m ∧ 0 ≤ n ∧ n ≤ 140737488355328 ∧ n.toNat * ie.by_ ≤ 140737488355328 ∧ K (.bsl d 0 n.toNat n.toNat ie.sz) (S.addBox d ((List.replicate n.toNat (ie.zero.map AV.v)).flatten)) [d] true)
    | _, _, _ => False
  | .extract x k => opt (ev Γ A x) fun xv => match xv with
    | .tup xs => opt xs[k]? fun z => K z S [] false
    | .v (.tup xs) => opt xs[k]? fun z => K (.v z) S [] false
    | _ => False
  | .makeFunc f first caps => match f with
    | .func id => opt (evs Γ A first.toList) fun xs => opt (evs Γ A caps.toList) fun ys => K (.fn id xs ys) S [] false
    | _ => False
  | .call c => match c.callee with
    | .builtin .len => match c.args, c.argTypes with
      | ⟨[x]⟩, ⟨[t]⟩ => opt (TT t) fun i => opt (ev Γ A x) fun xv => match i.kind with
        | .slice _ => match xv with
          | .bsl _ _ n _ _ => K (.v (.int .i64 n)) S [] false
          | xv => opt (slOf xv) fun xs => K (.v (.int .i64 xs.length)) S [] false
        | .string => match xv with | .v (.str s) => K (.v (.int .i64 s.size)) S [] false | _ => False
        | _ => False
      | _, _ => False
    | .builtin .copy => match c.args, c.argTypes with
      | ⟨[x, y]⟩, ⟨[t, _]⟩ => opt (TT t) fun i => opt (ev Γ A x) fun xv => opt (ev Γ A y) fun yv => opt (slOf yv) fun xs => match i.kind, xv with
        | .slice e, .bsl l off n _ sz => opt (TT e) fun ie => opt (S.H.lookup l) fun cs => chk (Nat.beq sz ie.sz) ((∀ r ∈ xs, r.length = ie.sz) ∧ off + n * ie.sz ≤ cs.length ∧ K (.v (.int .i64 (Nat.min xs.length n))) (S.setBox l (splice cs ((xs.take (Nat.min xs.length n)).flatten.map .v) off)) [l] true)
        | _, _ => False
      | _, _ => False
    | .builtin .max => match c.args with
      | ⟨[x, y]⟩ => opt (ev Γ A x) fun xv => opt (ev Γ A y) fun yv => match xv, yv with
        | .v (.int k a), .v (.int k' b) => chk (k == k') (K (.v (.int k (if b > a then b else a))) S [] false)
        | _, _ => False
      | _ => False
    | .builtin .min => match c.args with
      | ⟨[x, y]⟩ => opt (ev Γ A x) fun xv => opt (ev Γ A y) fun yv => match xv, yv with
        | .v (.int k a), .v (.int k' b) => chk (k == k') (K (.v (.int k (if b < a then b else a))) S [] false)
        | _, _ => False
      | _ => False
    | .builtin .append => match c.args, c.argTypes with
      | ⟨[x, y]⟩, ⟨[t, t']⟩ => chk (Nat.beq t t') (opt (TT t) fun i => opt (ev Γ A x) fun xv => opt (ev Γ A y) fun yv => opt (slOf yv) fun ys => match i.kind with
        | .slice e => chk (Nat.blt e BIG) (opt (TT e) fun ie => match xv with
          | .tsl tk xs => (∃ q, S.T.lookup tk = some q ∧ q = (xs, e, ie.sz) ∧ (∀ c ∈ ys, c.length = ie.sz) ∧ xs.length + ys.length ≤ 140737488355328 ∧ (xs.length + ys.length) * ie.by_ ≤ 140737488355328 ∧ K (.tsl tk (xs ++ ys)) (S.setTok tk (xs ++ ys, e, ie.sz)) [tk] true) ∨
            (∃ q, S.T.lookup tk = some q ∧ q = (xs, e, ie.sz) ∧ ys.length = 1 ∧ (∀ c ∈ ys, c.length = ie.sz) ∧ xs.length + ys.length ≤ 140737488355328 ∧ (xs.length + ys.length) * ie.by_ ≤ 140737488355328 ∧ K (.tk tk (xs.length + 1)) (S.setTok tk (xs, e + BIG, ie.sz)) [tk] true)
          | .v (.sl k xs) => opt o.dst fun d => chk ((k == .nil || k == .full) && !S.U.contains d) ((∀ c ∈ xs, c.length = ie.sz) ∧ (∀ c ∈ ys, c.length = ie.sz) ∧ xs.length + ys.length ≤ 140737488355328 ∧ (xs.length + ys.length) * ie.by_ ≤ 140737488355328 ∧ K (.tsl d (xs ++ ys)) (S.setTok d (xs ++ ys, e, ie.sz)) [d] true)
          | _ => False)
        | _ => False)
      | _, _ => False
    | .value fo => opt (ev Γ A fo) fun fv => opt (fnOf fv) fun f => opt (evs Γ A c.args.toList) fun args => CallK P Γ S f.1 (f.2.1 ++ args ++ f.2.2) K
    | _ => False
  | .makeMap _ none => opt o.dst fun d => chk (!S.U.contains d) (K (.mp d) (S.setTok d ([], BIG2, 2)) [d] true)
  | .lookup t x y false => chk (mapSB P t) (opt (ev Γ A x) fun xv => opt (ev Γ A y) fun yv => match xv, yv with
    | .mp tk, .v (.str s) => opt (S.T.lookup tk) fun q => ∃ ps, q.1 = ps.map rowSB ∧ q.2.1 = BIG2 ∧ K (.v (.bool (findSB ps s))) S [tk] false
    | _, _ => False)
  | .mapUpdate t x y z => chk (mapSB P t) (opt (ev Γ A x) fun xv => opt (ev Γ A y) fun yv => opt (ev Γ A z) fun zv => match xv, yv, zv with
    | .mp tk, .v (.str s), .v (.bool b) => opt (S.T.lookup tk) fun q => ∃ ps, q = (ps.map rowSB, BIG2, 2) ∧ ps.find? (fun p => s == p.1) = none ∧ K (.v .any) (S.setTok tk ((ps ++ [(s, b)]).map rowSB, BIG2, 2)) [tk] true
    | _, _, _ => False)
  | _ => False
end

section
variable {P : Program} {TT : TypeId → Option TI} {Γ : Glo}
theorem zip_fst (xs : List (Nat × Operand)) : ∀ {vs : List AV} {ys : List Operand}, ys.length = vs.length → xs.map (·.2) = ys → ((xs.map (·.1)).zip vs).map (·.1) = xs.map (·.1) ∧ ((xs.map (·.1)).zip vs).map (·.2) = vs := by
  intro vs ys h1 h2
  have h3 : (xs.map (·.1)).length = vs.length := by rw [List.length_map, ← h1, ← h2, List.length_map]
  exact ⟨List.map_fst_zip (by omega), List.map_snd_zip (by omega)⟩
theorem evs_length {A : Env} : ∀ {xs : List Operand} {ys : List AV}, evs Γ A xs = some ys → xs.length = ys.length
  | [], ys, h => by simp [evs] at h; subst h; rfl
  | x :: r, ys, h => by
    simp only [evs] at h
    split at h
    · rename_i y zs h1 h2
      obtain rfl := Option.some.inj h
      simp [evs_length h2]
    · cases h
theorem opP_ok (hT : TTok P TT) {A : Env} {S : ASt} {o : Oper} {K : Kont} (h : opP P TT Γ A S o K) : ∃ x S' fp c, OpOk P Γ o A S.view x S'.view fp ∧ (c = false → S'.view = S.view) ∧ K x S' fp c := by
  unfold opP at h
  split at h
  case h_1 x ho =>
    replace h := opt_some h
    obtain ⟨y, h1, h2⟩ := h
    exact ⟨y, S, [], false, ok_move (.inl ho) h1, fun _ => rfl, h2⟩
  case h_2 x ho =>
    replace h := opt_some h
    obtain ⟨y, h1, h2⟩ := h
    exact ⟨y, S, [], false, ok_move (.inr ho) h1, fun _ => rfl, h2⟩
  case h_3 c x y ho =>
    replace h := opt_some h
    obtain ⟨cv, h1, h2⟩ := h
    split at h2
    · rename_i b
      rcases cnd_of h2 with ⟨rfl, h3⟩ | ⟨rfl, h3⟩
      · obtain ⟨z, h4, h5⟩ := opt_some h3
        exact ⟨z, S, [], false, ok_pick ho h1 (by simpa using h4), fun _ => rfl, h5⟩
      · obtain ⟨z, h4, h5⟩ := opt_some h3
        exact ⟨z, S, [], false, ok_pick ho h1 (by simpa using h4), fun _ => rfl, h5⟩
    · exact h2.elim
  case h_4 t ho =>
    replace h := opt_some h
    obtain ⟨d, hd, h⟩ := h
    replace h := opt_some h
    obtain ⟨i, hi, h⟩ := h
    replace h := chk_true h
    obtain ⟨h1, h2⟩ := h
    refine ⟨_, _, _, _, ?_, (fun e => by cases e), h2⟩
    rw [view_addBox]
    exact ok_alloc ho (hT t i hi) (by simpa [ASt.view] using h1)
  case h_5 t x ho =>
    replace h := opt_some h
    obtain ⟨d, hd, h⟩ := h
    replace h := opt_some h
    obtain ⟨y, hy, h⟩ := h
    replace h := opt_some h
    obtain ⟨cs, hcs, h⟩ := h
    replace h := chk_true h
    obtain ⟨h1, h2⟩ := h
    refine ⟨_, _, _, _, ?_, (fun e => by cases e), h2⟩
    rw [view_addBox]
    exact ok_box ho hy hcs (by simpa [ASt.view] using h1)
  case h_6 t parts ho =>
    replace h := opt_some h
    obtain ⟨i, hi, h⟩ := h
    replace h := opt_some h
    obtain ⟨vs, hvs, h⟩ := h
    have hz := zip_fst parts.toList (evs_length hvs) rfl
    split at h
    · rename_i fs hk
      replace h := opt_some h
      obtain ⟨cells, hc, h⟩ := h
      exact ⟨_, S, [], false, ok_buildS ho (hT t i hi) hk hz.1.symm (by rw [hz.2]; exact hvs) hc, fun _ => rfl, h⟩
    · rename_i n e hk
      replace h := opt_some h
      obtain ⟨ie, hie, h⟩ := h
      replace h := opt_some h
      obtain ⟨cells, hc, h⟩ := h
      exact ⟨_, S, [], false, ok_buildA ho (hT t i hi) hk (hT e ie hie) hz.1.symm (by rw [hz.2]; exact hvs) hc, fun _ => rfl, h⟩
    · exact h.elim
  case h_7 t len parts ho =>
    replace h := opt_some h
    obtain ⟨i, hi, h⟩ := h
    replace h := opt_some h
    obtain ⟨vs, hvs, h⟩ := h
    have hz := zip_fst parts.toList (evs_length hvs) rfl
    split at h
    · rename_i e hk
      replace h := opt_some h
      obtain ⟨ie, hie, h⟩ := h
      replace h := opt_some h
      obtain ⟨cells, hc, h⟩ := h
      replace h := opt_some h
      obtain ⟨fc, hfc, h⟩ := h
      replace h := chk_true h
      obtain ⟨h1, h2⟩ := h
      simp only [Bool.and_eq_true, Nat.ble_eq, Nat.beq_eq] at h1
      exact ⟨_, S, [], false, ok_buildSlice ho (hT t i hi) hk (hT e ie hie) h1.1.1 h1.1.2 hz.1.symm (by rw [hz.2]; exact hvs) hc hfc h1.2, fun _ => rfl, h2⟩
    · exact h.elim
  case h_8 t a ho =>
    replace h := opt_some h
    obtain ⟨i, hi, h⟩ := h
    replace h := opt_some h
    obtain ⟨av, hav, h⟩ := h
    split at h
    · rename_i cs
      replace h := opt_some h
      obtain ⟨z, hz, h⟩ := h
      exact ⟨_, S, [], false, ok_loadF ho hav (hT t i hi) hz, fun _ => rfl, h⟩
    · rename_i l off
      replace h := opt_some h
      obtain ⟨cs, hcs, h⟩ := h
      replace h := opt_some h
      obtain ⟨z, hz, h⟩ := h
      exact ⟨_, S, [l], false, ok_loadB ho hav (hT t i hi) hcs hz, fun _ => rfl, h⟩
    · exact h.elim
  case h_9 t a x ho =>
    replace h := opt_some h
    obtain ⟨i, hi, h⟩ := h
    replace h := opt_some h
    obtain ⟨av, hav, h⟩ := h
    replace h := opt_some h
    obtain ⟨xv, hxv, h⟩ := h
    unfold storeP at h
    replace h := opt_some h
    obtain ⟨zs, hzs, h⟩ := h
    split at h
    · rename_i l off
      replace h := opt_some h
      obtain ⟨cs, hcs, h⟩ := h
      replace h := chk_true h
      obtain ⟨h1, h2⟩ := h
      simp only [Bool.and_eq_true, Nat.ble_eq, Nat.beq_eq] at h1
      refine ⟨_, _, _, _, ?_, (fun e => by cases e), h2⟩
      rw [view_setBox]
      exact ok_store ho hav hxv (hT t i hi) hzs h1.1 hcs h1.2
    · obtain ⟨⟨xs, e', sz⟩, hq, h⟩ := opt_some h
      obtain ⟨row, hrow, h⟩ := opt_some h
      obtain ⟨hb, e, h1, h2, h3, h4, h5, h6, h7⟩ := chk_true h
      simp only at h1 h3 h4 h5 h6 h7
      subst h1
      subst h3
      rw [Nat.beq_eq] at hb
      refine ⟨_, _, _, _, ?_, (fun e => by cases e), h7⟩
      rw [view_setTok]
      exact ok_storeP ho hav hxv (hT t i hi) hzs hb hq h2 h4 h5 hrow h6
    · exact h.elim
  case h_10 x ho =>
    replace h := opt_some h
    obtain ⟨y, hy, h⟩ := h
    split at h
    · exact ⟨_, S, [], false, ok_nilCheck ho hy (.inl ⟨_, _, rfl⟩), fun _ => rfl, h⟩
    · exact ⟨_, S, [], false, ok_nilCheck ho hy (.inr (.inl ⟨_, rfl⟩)), fun _ => rfl, h⟩
    · exact ⟨_, S, [], false, ok_nilCheck ho hy (.inr (.inr (.inl ⟨_, _, _, rfl⟩))), fun _ => rfl, h⟩
    · exact ⟨_, S, [], false, ok_nilCheck ho hy (.inr (.inr (.inr ⟨_, _, _, rfl⟩))), fun _ => rfl, h⟩
    · exact h.elim
  case h_11 op t x y u ho =>
    replace h := opt_some h
    obtain ⟨xv, hx, h⟩ := h
    replace h := opt_some h
    obtain ⟨yv, hy, h⟩ := h
    unfold binP at h
    split at h
    · unfold intK at h
      split at h
      · obtain ⟨h1, h2⟩ := h
        obtain ⟨z, hz, h3⟩ := opt_some h2
        exact ⟨_, S, [], false, ok_shift ho hx hy h1 hz, fun _ => rfl, h3⟩
      · obtain ⟨h1, h2⟩ := h
        obtain ⟨z, hz, h3⟩ := opt_some h2
        exact ⟨_, S, [], false, ok_shift ho hx hy h1 hz, fun _ => rfl, h3⟩
      · obtain ⟨h1, h0, h2⟩ := chk_true h
        obtain ⟨z, hz, h3⟩ := opt_some h2
        have e : _ = _ := eq_of_beq h1
        subst e
        exact ⟨_, S, [], false, ok_intBin2 ho hx hy (.inl h0) hz, fun _ => rfl, h3⟩
      · obtain ⟨h1, h0, h2⟩ := chk_true h
        obtain ⟨z, hz, h3⟩ := opt_some h2
        have e : _ = _ := eq_of_beq h1
        subst e
        exact ⟨_, S, [], false, ok_intBin2 ho hx hy (.inl h0) hz, fun _ => rfl, h3⟩
      · obtain ⟨h1, h2⟩ := chk_true h
        obtain ⟨z, hz, h3⟩ := opt_some h2
        have e : _ = _ := eq_of_beq h1
        subst e
        exact ⟨_, S, [], false, ok_intBin2 ho hx hy (.inr (.inl rfl)) hz, fun _ => rfl, h3⟩
      · obtain ⟨h1, h2⟩ := chk_true h
        obtain ⟨z, hz, h3⟩ := opt_some h2
        have e : _ = _ := eq_of_beq h1
        subst e
        exact ⟨_, S, [], false, ok_intBin2 ho hx hy (.inr (.inr (.inl rfl))) hz, fun _ => rfl, h3⟩
      · obtain ⟨h1, h2⟩ := chk_true h
        obtain ⟨z, hz, h3⟩ := opt_some h2
        have e : _ = _ := eq_of_beq h1
        subst e
        exact ⟨_, S, [], false, ok_intBin2 ho hx hy (.inr (.inr (.inr rfl))) hz, fun _ => rfl, h3⟩
      · obtain ⟨h1, h2⟩ := chk_true h
        replace h2 := opt_some h2
        obtain ⟨z, hz, h3⟩ := h2
        have e : _ = _ := eq_of_beq h1
        subst e
        exact ⟨_, S, [], false, ok_intBin ho hx hy hz, fun _ => rfl, h3⟩
    · obtain ⟨i, hi, h⟩ := opt_some h
      split at h
      · rename_i hk
        obtain ⟨h1, h2⟩ := chk_true h
        rw [Bool.and_eq_true, Bool.or_eq_true, Bool.or_eq_true] at h1
        refine ⟨_, S, [], false, ok_nilcmp ho hx hy (hT _ i hi) hk ?_ ?_, fun _ => rfl, h2⟩
        · exact h1.1.imp eq_of_beq eq_of_beq
        · rcases h1.2 with h3 | h3
          · left; revert h3; cases op <;> simp [isEql]
          · right; revert h3; cases op <;> simp [isNeq]
      · exact h.elim
    · split at h
      · exact ⟨_, S, [], false, ok_strAdd ho hx hy h.1, fun _ => rfl, h.2⟩
      · obtain ⟨z, hz, h⟩ := opt_some h
        exact ⟨_, S, [], false, ok_strBin ho hx hy hz, fun _ => rfl, h⟩
    · obtain ⟨i, hi, h⟩ := opt_some h
      split at h
      · rename_i hk
        replace h := opt_some h
        obtain ⟨z, hz, h⟩ := h
        exact ⟨_, S, [], false, ok_boolBin ho hx hy (hT _ i hi) hk hz, fun _ => rfl, h⟩
      · exact h.elim
    · exact h.elim
  case h_12 op t x ho =>
    replace h := opt_some h
    obtain ⟨xv, hx, h⟩ := h
    split at h
    · exact ⟨_, S, [], false, ok_not ho hx, fun _ => rfl, h⟩
    · exact ⟨_, S, [], false, ok_neg ho hx, fun _ => rfl, h⟩
    · exact h.elim
  case h_13 s x f ho =>
    replace h := opt_some h
    obtain ⟨i, hi, h⟩ := h
    replace h := opt_some h
    obtain ⟨xv, hx, h⟩ := h
    split at h
    · rename_i fs hk
      replace h := opt_some h
      obtain ⟨g, hg, h⟩ := h
      replace h := chk_true h
      obtain ⟨h1, h2⟩ := h
      have h3 : g.2.2 ≠ 0 := by simp only [Nat.ble_eq] at h1; omega
      split at h2
      · exact ⟨_, S, [], false, ok_fieldAddr ho hx (hT s i hi) hk hg h3 (.inl ⟨_, _, rfl, rfl⟩), fun _ => rfl, h2⟩
      · exact ⟨_, S, [], false, ok_fieldAddr ho hx (hT s i hi) hk hg h3 (.inr ⟨_, rfl, rfl⟩), fun _ => rfl, h2⟩
      · exact h2.elim
    · exact h.elim
  case h_14 s x f ho =>
    replace h := opt_some h
    obtain ⟨i, hi, h⟩ := h
    replace h := opt_some h
    obtain ⟨xv, hx, h⟩ := h
    split at h
    · rename_i fs hk
      replace h := opt_some h
      obtain ⟨g, hg, h⟩ := h
      replace h := opt_some h
      obtain ⟨j, hj, h⟩ := h
      replace h := opt_some h
      obtain ⟨cs, hcs, h⟩ := h
      replace h := opt_some h
      obtain ⟨z, hz, h⟩ := h
      exact ⟨_, S, [], false, ok_field ho hx (hT s i hi) hk hg (hT _ j hj) hcs hz, fun _ => rfl, h⟩
    · exact h.elim
  case h_15 t x ix ho =>
    replace h := opt_some h
    obtain ⟨i, hi, h⟩ := h
    replace h := opt_some h
    obtain ⟨xv, hx, h⟩ := h
    replace h := opt_some h
    obtain ⟨iv, hiv, h⟩ := h
    split at h
    · rename_i e kk n hk
      replace h := opt_some h
      obtain ⟨j, hj, h⟩ := h
      split at h
      · obtain ⟨hb, h0, h1, h3⟩ := chk_true h
        rw [Nat.beq_eq] at hb
        subst hb
        exact ⟨_, S, [], false, ok_indexAddrB ho hx hiv (hT t i hi) hk (hT e j hj) h0 h1, fun _ => rfl, h3⟩
      · obtain ⟨h0, h1, h3⟩ := h
        exact ⟨_, S, [], false, ok_indexAddrT ho hx hiv (hT t i hi) hk (hT e j hj) h0 h1, fun _ => rfl, h3⟩
      replace h := opt_some h
      obtain ⟨xs, hxs, h⟩ := h
      obtain ⟨h0, cs, h1, h2, h3⟩ := h
      refine ⟨_, S, [], false, ok_indexAddr ho ?_ hiv (hT t i hi) hk (hT e j hj) h0 h1 h2, fun _ => rfl, h3⟩
      unfold slOf at hxs
      split at hxs
      · obtain rfl := Option.some.inj hxs; exact .inl ⟨_, hx⟩
      · obtain rfl := Option.some.inj hxs; exact .inr ⟨_, hx⟩
      · cases hxs
    · exact h.elim
  case h_16 t x ix ho =>
    replace h := opt_some h
    obtain ⟨i, hi, h⟩ := h
    replace h := opt_some h
    obtain ⟨xv, hx, h⟩ := h
    replace h := opt_some h
    obtain ⟨iv, hiv, h⟩ := h
    split at h
    · rename_i s kk n hk
      obtain ⟨h0, b, h1, h2⟩ := h
      exact ⟨_, S, [], false, ok_indexStr ho hx hiv (hT t i hi) hk h0 h1, fun _ => rfl, h2⟩
    · rename_i len e kk n hk
      replace h := opt_some h
      obtain ⟨j, hj, h⟩ := h
      replace h := opt_some h
      obtain ⟨cs, hcs, h⟩ := h
      replace h := chk_true h
      obtain ⟨h1, h2⟩ := h
      replace h2 := opt_some h2
      obtain ⟨z, hz, h⟩ := h2
      exact ⟨_, S, [], false, ok_indexArr ho hx hcs hiv (hT t i hi) hk (hT e j hj) (by simp [Nat.blt] at h1; omega) hz, fun _ => rfl, h⟩
    · exact h.elim
  case h_17 t x lo hi ho =>
    replace h := opt_some h
    obtain ⟨i, hti, h⟩ := h
    replace h := opt_some h
    obtain ⟨xv, hx, h⟩ := h
    replace h := opt_some h
    obtain ⟨l, hl, h⟩ := h
    replace h := opt_some h
    obtain ⟨hh, hhi, h⟩ := h
    split at h
    · rename_i e hk
      replace h := opt_some h
      obtain ⟨j, hj, h⟩ := h
      replace h := opt_some h
      obtain ⟨xs, hxs, h⟩ := h
      obtain ⟨h0, h1, h2, h3, h4⟩ := h
      refine ⟨_, S, [], false, ok_slice ho ?_ (hT t i hti) hk (hT e j hj) h3 hl hhi (hn := (hh.getD xs.length).toNat) (ln := (l.getD 0).toNat) (by omega) (by omega) (by omega) (by omega), fun _ => rfl, h4⟩
      unfold slOf at hxs
      split at hxs
      · obtain rfl := Option.some.inj hxs; exact .inl ⟨_, hx⟩
      · obtain rfl := Option.some.inj hxs; exact .inr ⟨_, hx⟩
      · cases hxs
    · rename_i hk
      split at h
      · rename_i s
        obtain ⟨h0, h1, h2, h4⟩ := h
        exact ⟨_, S, [], false, ok_sliceStr ho hx (hT t i hti) hk hl hhi (hn := (hh.getD s.size).toNat) (ln := (l.getD 0).toNat) (by omega) (by omega) (by omega) (by omega), fun _ => rfl, h4⟩
      · exact h.elim
    · exact h.elim
  case h_18 t x lo hi mx ho =>
    obtain ⟨i, hti, h⟩ := opt_some h
    replace h := opt_some h
    obtain ⟨xv, hx, h⟩ := h
    obtain ⟨l, hl, h⟩ := opt_some h
    obtain ⟨hv, hhv, h⟩ := opt_some h
    obtain ⟨mv, hmv, h⟩ := opt_some h
    split at h
    · rename_i hk _
      obtain ⟨j, hj, h⟩ := opt_some h
      obtain ⟨xs, hxs, h⟩ := opt_some h
      obtain ⟨h0, h1, h2, h3, h4, h5⟩ := h
      refine ⟨_, S, [], false, ok_slice3 ho ?_ (hT t i hti) hk (hT _ j hj) h4 hl hhv hmv (by omega) rfl h3 (ln := (l.getD 0).toNat) (by omega) (by omega) (by omega), fun _ => rfl, h5⟩
      unfold slOf at hxs
      split at hxs
      · obtain rfl := Option.some.inj hxs; exact .inl ⟨_, hx⟩
      · obtain rfl := Option.some.inj hxs; exact .inr ⟨_, hx⟩
      · cases hxs
    · exact h.elim
  case h_19 t u x ho =>
    obtain ⟨i, hti, h⟩ := opt_some h
    obtain ⟨j, htj, h⟩ := opt_some h
    obtain ⟨xv, hx, h⟩ := opt_some h
    split at h
    · rename_i k k' n hk
      exact ⟨_, S, [], false, ok_conv ho hx (hT t i hti) (hT u j htj) hk, fun _ => rfl, h⟩
    · exact h.elim
  case h_20 t lo co ho =>
    obtain ⟨d, hd, h⟩ := opt_some h
    obtain ⟨i, hti, h⟩ := opt_some h
    obtain ⟨lv, hlv, h⟩ := opt_some h
    obtain ⟨cv, hcv, h⟩ := opt_some h
    split at h
    · rename_i n k' m hk _
      obtain ⟨ie, hie, h⟩ := opt_some h
      obtain ⟨h1, h2, h3, h4, h5, h6⟩ := chk_true h
      rw [Bool.and_eq_true, Nat.ble_eq] at h1
      subst h2
      refine ⟨_, _, _, _, ?_, (fun e => by cases e), h6⟩
      rw [view_addBox]
      have en : n = (n.toNat : Int) := by omega
      rw [en] at hlv hcv
      exact ok_make ho hlv hcv (hT t i hti) hk (hT _ ie hie) h1.1 (by omega) h5 (by simpa [ASt.view] using h1.2)
    · exact h.elim
  case h_21 x k ho =>
    replace h := opt_some h
    obtain ⟨xv, hx, h⟩ := h
    split at h
    · obtain ⟨z, hz, h⟩ := opt_some h
      exact ⟨_, S, [], false, ok_extract ho hx hz, fun _ => rfl, h⟩
    · obtain ⟨z, hz, h⟩ := opt_some h
      exact ⟨_, S, [], false, ok_extractv ho hx hz, fun _ => rfl, h⟩
    · exact h.elim
  case h_22 f first caps ho =>
    split at h
    · obtain ⟨xs, hxs, h⟩ := opt_some h
      replace h := opt_some h
      obtain ⟨ys, hys, h⟩ := h
      exact ⟨_, S, [], false, ok_makeFunc ho hxs hys, fun _ => rfl, h⟩
    · exact h.elim
  case h_23 c ho =>
    split at h
    · rename_i hc
      split at h
      · rename_i x t ha hat
        replace h := opt_some h
        obtain ⟨i, hi, h⟩ := h
        replace h := opt_some h
        obtain ⟨xv, hx, h⟩ := h
        split at h
        · rename_i e hk
          split at h
          · exact ⟨_, S, [], false, ok_lenB ho hc ha hat hx (hT t i hi) hk, fun _ => rfl, h⟩
          replace h := opt_some h
          obtain ⟨xs, hxs, h⟩ := h
          refine ⟨_, S, [], false, ?_, fun _ => rfl, h⟩
          unfold slOf at hxs
          split at hxs
          · obtain rfl := Option.some.inj hxs; exact ok_lenS ho hc ha hat (.inl hx) (hT t i hi) hk
          · obtain rfl := Option.some.inj hxs; exact ok_lenS (k := .some) ho hc ha hat (.inr ⟨_, hx⟩) (hT t i hi) hk
          · cases hxs
        · rename_i hk
          split at h
          · exact ⟨_, S, [], false, ok_lenStr ho hc ha hat hx (hT t i hi) hk, fun _ => rfl, h⟩
          · exact h.elim
        · exact h.elim
      · exact h.elim
    · rename_i hc
      split at h
      · rename_i x y t t' ha hat
        obtain ⟨i, hi, h⟩ := opt_some h
        obtain ⟨xv, hx, h⟩ := opt_some h
        obtain ⟨yv, hy, h⟩ := opt_some h
        obtain ⟨xs, hxs, h⟩ := opt_some h
        split at h
        · rename i.kind = _ => hk
          obtain ⟨ie, hie, h⟩ := opt_some h
          obtain ⟨cs, hcs, h⟩ := opt_some h
          obtain ⟨h1, h2, h3, h4⟩ := chk_true h
          rw [Nat.beq_eq] at h1
          subst h1
          refine ⟨_, _, _, _, ?_, (fun e => by cases e), h4⟩
          rw [view_setBox]
          exact ok_copyB ho hc ha hat hx hy hxs (hT t i hi) hk (hT _ ie hie) h2 hcs h3
        · exact h.elim
      · exact h.elim
    · rename_i hc
      split at h
      · rename_i x y ha
        obtain ⟨xv, hx, h⟩ := opt_some h
        obtain ⟨yv, hy, h⟩ := opt_some h
        split at h
        · obtain ⟨h1, h2⟩ := chk_true h
          have e : _ = _ := eq_of_beq h1
          subst e
          exact ⟨_, S, [], false, ok_max ho hc ha hx hy, fun _ => rfl, h2⟩
        · exact h.elim
      · exact h.elim
    · rename_i hc
      split at h
      · rename_i x y ha
        obtain ⟨xv, hx, h⟩ := opt_some h
        obtain ⟨yv, hy, h⟩ := opt_some h
        split at h
        · obtain ⟨h1, h2⟩ := chk_true h
          have e : _ = _ := eq_of_beq h1
          subst e
          exact ⟨_, S, [], false, ok_min ho hc ha hx hy, fun _ => rfl, h2⟩
        · exact h.elim
      · exact h.elim
    · rename_i hc
      split at h
      · rename_i x y t t' ha hat
        replace h := chk_true h
        obtain ⟨htt, h⟩ := h
        rw [Nat.beq_eq] at htt
        subst htt
        replace h := opt_some h
        obtain ⟨i, hi, h⟩ := h
        replace h := opt_some h
        obtain ⟨xv, hx, h⟩ := h
        replace h := opt_some h
        obtain ⟨yv, hy, h⟩ := h
        replace h := opt_some h
        obtain ⟨ys, hys, h⟩ := h
        split at h
        · rename_i e hk
          obtain ⟨hbE, h⟩ := chk_true h
          replace hbE := Nat.le_of_ble_eq_true hbE
          replace h := opt_some h
          obtain ⟨ie, hie, h⟩ := h
          split at h
          · rename_i tk xs
            rcases h with ⟨q, hq, rfl, h1, h2, h3, h4⟩ | ⟨q, hq, rfl, h0, h1, h2, h3, h4⟩
            · refine ⟨_, _, _, _, ?_, (fun e => by cases e), h4⟩
              rw [view_setTok]
              exact ok_appendTok ho hc ha hat hx hy hys (hT t i hi) hk hbE (hT e ie hie) hq h1 h2 h3
            · refine ⟨_, _, _, _, ?_, (fun e => by cases e), h4⟩
              rw [view_setTok]
              exact ok_appendPend ho hc ha hat hx hy hys h0 (hT t i hi) hk hbE (hT e ie hie) hq h1 h2 h3
          · rename_i k xs
            replace h := opt_some h
            obtain ⟨d, hd, h⟩ := h
            replace h := chk_true h
            obtain ⟨h1, h2, h3, h4, h5, h6⟩ := h
            simp only [Bool.and_eq_true, Bool.or_eq_true] at h1
            refine ⟨_, _, _, _, ?_, (fun e => by cases e), h6⟩
            rw [view_setTok]
            exact ok_appendNew ho hc ha hat hx (h1.1.imp eq_of_beq eq_of_beq) hy hys (hT t i hi) hk hbE (hT e ie hie) (by simpa [ASt.view] using h1.2) h2 h3 h4 h5
          · exact h.elim
        · exact h.elim
      · exact h.elim
    · rename_i fo hc
      replace h := opt_some h
      obtain ⟨fv, hf, h⟩ := h
      replace h := opt_some h
      obtain ⟨f, hff, h⟩ := h
      replace h := opt_some h
      obtain ⟨args, ha, h⟩ := h
      exact callK_ok ho hc hf hff ha h
    · exact h.elim
  case h_24 t ho =>
    replace h := opt_some h
    obtain ⟨d, hd, h⟩ := h
    obtain ⟨h1, h2⟩ := chk_true h
    refine ⟨_, _, _, _, ?_, (fun e => by cases e), h2⟩
    rw [view_setTok]
    exact ok_makeMap ho (by simpa [ASt.view] using h1)
  case h_25 t x y ho =>
    obtain ⟨ht, h⟩ := chk_true h
    replace h := opt_some h
    obtain ⟨xv, hx, h⟩ := h
    replace h := opt_some h
    obtain ⟨yv, hy, h⟩ := h
    split at h
    · replace h := opt_some h
      obtain ⟨⟨xs, e, sz⟩, hq, ps, e1, e2, h⟩ := h
      simp only at e1 e2
      subst e1 e2
      exact ⟨_, S, _, false, ok_lookup ho ht hx hy hq (Nat.lt_irrefl _), fun _ => rfl, h⟩
    · exact h.elim
  case h_26 t x y z ho =>
    obtain ⟨ht, h⟩ := chk_true h
    replace h := opt_some h
    obtain ⟨xv, hx, h⟩ := h
    replace h := opt_some h
    obtain ⟨yv, hy, h⟩ := h
    replace h := opt_some h
    obtain ⟨zv, hz, h⟩ := h
    split at h
    · replace h := opt_some h
      obtain ⟨q, hq, ps, rfl, h0, h⟩ := h
      refine ⟨_, _, _, _, ?_, (fun e => by cases e), h⟩
      rw [view_setTok]
      exact ok_mapUpdate ho ht hx hy hz hq (Nat.lt_irrefl _) h0
    · exact h.elim
  case h_27 => exact h.elim
end
end Go.Pav
namespace Go.Pav
open Go.RowKit

/-! ### the check of a region whose order is open -/
def depsOf (o : Oper) : List Nat := o.after.toList.filterMap fun e => if Region.binds .any e then some e.on else none
/-- What each operation waits for, through others too, as bits. -/
def ancTab (ops : List Oper) : List Nat := ops.foldl (fun acc o => acc ++ [(depsOf o).foldl (fun m d => m ||| (1 <<< d) ||| acc.getD d 0) 0]) []
def ancOf (T : List Nat) (i j : Nat) : Bool := Nat.blt i j && Nat.testBit (T.getD j 0) i
def meet (a b : List Nat) : Bool := a.any fun x => b.contains x
def pairOk (ops : Array Oper) (T : List Nat) (oi oj : Oper) (fi fj : List Nat × Bool) (i j : Nat) : Bool :=
  ancOf T i j ||
    ((match oi.dst with | some t => !(oj.looksAt ops).contains t && oj.dst != some t | none => true) && (match oj.dst with | some t => !(oi.looksAt ops).contains t | none => true) && (!(fi.2 || fj.2) || !meet fi.1 fj.1))
def drawChk (ops : Array Oper) (fps : List (List Nat × Bool)) : Bool :=
  let T := ancTab ops.toList
  (List.range ops.size).all fun j => match ops[j]? with
    | none => false
    | some oj => (depsOf oj).all (fun d => Nat.blt d j) && (List.range j).all (fun i => !(ancOf T i j) || (depsOf oj).any fun e => Nat.beq e i || ancOf T i e) &&
        (List.range j).all fun i => match ops[i]? with
          | none => false
          | some oi => pairOk ops T oi oj (fps.getD i ([], true)) (fps.getD j ([], true)) i j

section
variable (P : Program) (TT : TypeId → Option TI) (Γ : Glo) (N : Nat) (Kp : Nat → Prop)
def dstOk (N : Nat) : Option Tmp → Bool
  | none => true
  | some d => Nat.blt d N
abbrev OpsK := Env → ASt → List (List Nat × Bool) → Prop
def opsStep (ops : Array Oper) (o : Oper) (rest : Env → ASt → List (List Nat × Bool) → OpsK → Prop) (A : Env) (S : ASt) (fps : List (List Nat × Bool)) (K : OpsK) : Prop :=
  chk (dstOk N o.dst) (match o.guard with
    | none => opP P TT Γ A S o fun x S' fp c => rest (A.put o.dst x) S' (fps ++ [(fp, c)]) K
    | some (j, w) => opt (dstOf ops j) fun t => opt (A.get t) fun v => match v with
      | .v (.bool p) => cnd p
          (lit w (opP P TT Γ (A.put (some t) (.v (.bool true))) S o fun x S' fp c => rest ((A.put (some t) (.v (.bool true))).put o.dst x) S' (fps ++ [(fp, c)]) K)
            (rest ((A.put (some t) (.v (.bool true))).put o.dst (.v (.tup []))) S (fps ++ [([], false)]) K))
          (lit w (rest ((A.put (some t) (.v (.bool false))).put o.dst (.v (.tup []))) S (fps ++ [([], false)]) K)
            (opP P TT Γ (A.put (some t) (.v (.bool false))) S o fun x S' fp c => rest ((A.put (some t) (.v (.bool false))).put o.dst x) S' (fps ++ [(fp, c)]) K))
      | .v (.tup []) => rest (A.put o.dst (.v (.tup []))) S (fps ++ [([], false)]) K
      | _ => False)
/-- What is owed for a region's operations, in the text's order. -/
def opsP (ops : Array Oper) (os : List Oper) : Env → ASt → List (List Nat × Bool) → OpsK → Prop :=
  List.rec (motive := fun _ => Env → ASt → List (List Nat × Bool) → OpsK → Prop) (fun A S fps K => K A S fps) (fun o _ ih => opsStep P TT Γ N ops o ih) os

/-- From within a loop's round. -/
def wpL (c : Code) (Q : Exit → Act → World → Prop) (a : Act) (w : World) : Prop :=
  ∀ (b : Frame) (k : List Item) (cs : List Frame), ∃ e a' w', Q e a' w' ∧ Arrives P (lone (b.at a (.code c :: .inLoop c :: k)) cs w) b k cs e a' w'
def KeepN (Kp : Nat → Prop) (ρ ρ' : Nam) : Prop := ∀ n, Kp n → (∀ b, ρ.box n = some b → ρ'.box n = some b) ∧ ∀ i, ρ.tok n = some i → ∃ i', ρ'.tok n = some i' ∧ i.len ≤ i'.len ∧ ∀ m, m ≤ i.len → i'.val m = i.val m
/-- What the code leaves, in the relation's words. -/
def Post (M : Mem) (ρ : Nam) (w : World) (S : ASt) (Q : Exit → Env → ASt → Prop) (e : Exit) (a' : Act) (w' : World) : Prop :=
  ∃ A' S' M' ρ', Q e A' S' ∧ Nx M ρ w S.view M' ρ' w' S'.view ∧ KeepN Kp ρ ρ' ∧ TR M' ρ' N A' a'
def Cd (c : Code) (A : Env) (S : ASt) (Q : Exit → Env → ASt → Prop) : Prop :=
  ∀ M ρ w a, TR M ρ N A a → Glob M Γ → St M ρ w S.view → c.wp P (Post N Kp M ρ w S Q) a w
def CdL (c : Code) (A : Env) (S : ASt) (Q : Exit → Env → ASt → Prop) : Prop :=
  ∀ M ρ w a, TR M ρ N A a → Glob M Γ → St M ρ w S.view → wpL P c (Post N Kp M ρ w S Q) a w
/-- A check that the elaborator doesn't compute by itself: give it by 'decide +kernel'. -/
inductive DChk (b : Bool) (k : Prop) : Prop where
  | mk (h : b = true) (hk : k)
abbrev CodeK := Exit → Env → ASt → Prop
def regP (ops : Array Oper) (draw : Bool) (A : Env) (S : ASt) (Q : CodeK) : Prop := match draw with
    | false => opsP P TT Γ N ops ops.toList A S [] fun A' S' _ => Q .normal A' S'
    | true => opsP P TT Γ N ops ops.toList A S [] fun A' S' fps => DChk (drawChk ops fps) (Q .normal A' S')
def seqK (y : Env → ASt → CodeK → Prop) (Q : CodeK) (e : Exit) (A : Env) (S : ASt) : Prop := match e with
    | .normal => y A S Q
    | e => Q e A S
def condP (c : Operand) (x y : Env → ASt → CodeK → Prop) (A : Env) (S : ASt) (Q : CodeK) : Prop := opt (ev Γ A c) fun v => match v with
    | .v (.bool b) => cnd b (x A S Q) (y A S Q)
    | _ => False
def blockK (id : Nat) (Q : CodeK) (e : Exit) (A : Env) (S : ASt) : Prop := match e with
    | .exit id' => lit (Nat.beq id' id) (Q .normal A S) (Q (.exit id') A S)
    | e => Q e A S
/-- What is owed for code. -/
def awp (c : Code) : Env → ASt → CodeK → Prop :=
  Code.rec (motive := fun _ => Env → ASt → CodeK → Prop)
    (fun A S Q => Q .normal A S)
    (fun _ ops draw A S Q => regP P TT Γ N ops draw A S Q)
    (fun _ _ x y A S Q => x A S (seqK y Q))
    (fun c _ _ x y A S Q => condP Γ c x y A S Q)
    (fun id _ x A S Q => x A S (blockK id Q))
    (fun c _ A S Q => CdL P Γ N Kp c A S Q)
    (fun _ _ _ _ _ _ _ _ _ => False)
    (fun id A S Q => Q (.exit id) A S)
    (fun _ _ _ _ _ => False)
    (fun _ _ _ _ => False)
    (fun _ _ _ _ => False)
    (fun A S Q => Q .ret A S)
    (fun _ _ _ _ => False) c
end

section
variable {P : Program} {TT : TypeId → Option TI} {Γ : Glo} {N : Nat} {Kp : Nat → Prop}
theorem KeepN.of_le {ρ ρ' : Nam} (h : ρ.le ρ') : KeepN Kp ρ ρ' := fun n _ => ⟨fun b hb => h.box n b hb, fun i hi => h.tok n i hi⟩
theorem KeepN.trans {ρ ρ' ρ'' : Nam} (h : KeepN Kp ρ ρ') (k : KeepN Kp ρ' ρ'') : KeepN Kp ρ ρ'' := fun n hn => ⟨fun b hb => (k n hn).1 b ((h n hn).1 b hb), fun i hi => by
  obtain ⟨i', h1, h2, h3⟩ := (h n hn).2 i hi
  obtain ⟨i'', h4, h5, h6⟩ := (k n hn).2 i' h1
  exact ⟨i'', h4, Nat.le_trans h2 h5, fun m hm => (h6 m (Nat.le_trans hm h2)).trans (h3 m hm)⟩⟩
theorem put_same {A : Env} {t : Nat} {b : Bool} (h : A.get t = some (.v (.bool b))) : A.put (some t) (.v (.bool b)) = A := Env.ext' fun u => by
  rw [Env.get_put]
  split
  · rename_i e; rw [e, h]
  · rfl
theorem dstOk_of {o : Option Tmp} (h : dstOk N o = true) : ∀ t, o = some t → t < N := by
  intro t e
  subst e
  simp only [dstOk, Nat.blt, Nat.ble_eq] at h
  exact h
theorem opsP_trace (hT : TTok P TT) (ops : Array Oper) : ∀ (os : List Oper) (A : Env) (S : ASt) (fps : List (List Nat × Bool)) (K : Env → ASt → List (List Nat × Bool) → Prop), opsP P TT Γ N ops os A S fps K →
    ∃ tr A' S', TraceOk P Γ N ops os A S.view tr A' S'.view ∧ K A' S' (fps ++ tr.map fun r => r.2.2)
  | [], A, S, fps, K, h => ⟨[], A, S, ⟨rfl, rfl, rfl⟩, by have h : K A S fps := h; simpa using h⟩
  | o :: os, A, S, fps, K, h => by
    have h : opsStep P TT Γ N ops o (opsP P TT Γ N ops os) A S fps K := h
    unfold opsStep at h
    obtain ⟨hd, h⟩ := chk_true h
    have hdst := dstOk_of hd
    have run : ∀ (A1 : Env), A1 = A → Want ops o A true → (opP P TT Γ A1 S o fun x S' fp c => opsP P TT Γ N ops os (A1.put o.dst x) S' (fps ++ [(fp, c)]) K) → ∃ tr A' S', TraceOk P Γ N ops (o :: os) A S.view tr A' S'.view ∧ K A' S' (fps ++ tr.map fun r => r.2.2) := by
      rintro A1 rfl hw h
      obtain ⟨x, S1, fp, c, h1, h2, h3⟩ := opP_ok hT h
      obtain ⟨tr, A', S', h4, h5⟩ := opsP_trace hT ops os _ S1 _ K h3
      exact ⟨(x, S1.view, fp, c) :: tr, A', S', ⟨x, S1.view, fp, c, tr, rfl, ⟨hdst, .inl ⟨hw, h1⟩⟩, h2, h4⟩, by simpa using h5⟩
    have skip : ∀ (A1 : Env), A1 = A → Want ops o A false → opsP P TT Γ N ops os (A1.put o.dst (.v (.tup []))) S (fps ++ [([], false)]) K → ∃ tr A' S', TraceOk P Γ N ops (o :: os) A S.view tr A' S'.view ∧ K A' S' (fps ++ tr.map fun r => r.2.2) := by
      rintro A1 rfl hw h
      obtain ⟨tr, A', S', h4, h5⟩ := opsP_trace hT ops os _ S _ K h
      exact ⟨(.v (.tup []), S.view, [], false) :: tr, A', S', ⟨_, S.view, [], false, tr, rfl, ⟨hdst, .inr ⟨hw, rfl, rfl, rfl⟩⟩, fun _ => rfl, h4⟩, by simpa using h5⟩
    split at h
    · rename_i hg
      exact run A rfl (by unfold Want; rw [hg]) h
    · rename_i j w hg
      obtain ⟨t, ht, h⟩ := opt_some h
      obtain ⟨v, hv, h⟩ := opt_some h
      have want : ∀ p, A.get t = some (.v (.bool p)) → Want ops o A (p == w) := fun p hp => by unfold Want; rw [hg]; exact ⟨t, ht, .inl ⟨p, hp, rfl⟩⟩
      split at h
      · rename_i p
        rcases cnd_of h with ⟨e1, k1⟩ | ⟨e1, k1⟩ <;> rcases lit_of k1 with ⟨e2, k2⟩ | ⟨e2, k2⟩ <;> subst e1 <;> subst e2
        · exact run _ (put_same hv) (want _ hv) k2
        · exact skip _ (put_same hv) (want _ hv) k2
        · exact skip _ (put_same hv) (want _ hv) k2
        · exact run _ (put_same hv) (want _ hv) k2
      · exact skip _ rfl (by unfold Want; rw [hg]; exact ⟨t, ht, .inr ⟨hv, rfl⟩⟩) h
      · exact h.elim

/-! ### a trace by numbers -/
abbrev Trc := List (AV × View × List Nat × Bool)
def envAt : List Oper → Env → Trc → Nat → Env
  | _, A, _, 0 => A
  | o :: os, A, r :: tr, i + 1 => envAt os (A.put o.dst r.1) tr i
  | _, A, _, _ + 1 => A
def viewAt : View → Trc → Nat → View
  | S, _, 0 => S
  | _, r :: tr, i + 1 => viewAt r.2.1 tr i
  | S, [], _ + 1 => S
def rowAt (tr : Trc) (i : Nat) : AV × View × List Nat × Bool := tr.getD i (.v .any, View.empty, [], true)
theorem trace_at {ops : Array Oper} : ∀ {os : List Oper} {A : Env} {S : View} {tr : Trc} {A' : Env} {S' : View}, TraceOk P Γ N ops os A S tr A' S' →
    tr.length = os.length ∧ envAt os A tr os.length = A' ∧ viewAt S tr os.length = S' ∧ ∀ (i : Nat) o, os[i]? = some o →
      StepOk P Γ N ops o (envAt os A tr i) (viewAt S tr i) (rowAt tr i).1 (viewAt S tr (i + 1)) (rowAt tr i).2.2.1 ∧ envAt os A tr (i + 1) = (envAt os A tr i).put o.dst (rowAt tr i).1 ∧ ((rowAt tr i).2.2.2 = false → viewAt S tr (i + 1) = viewAt S tr i)
  | [], A, S, tr, A', S', h => by
    obtain ⟨rfl, rfl, rfl⟩ := h
    exact ⟨rfl, rfl, rfl, fun i o hi => by simp at hi⟩
  | o :: os, A, S, tr, A', S', h => by
    obtain ⟨x, S1, fp, c, tr', rfl, hs, hc, hr⟩ := h
    obtain ⟨h1, h2, h3, h4⟩ := trace_at hr
    refine ⟨by simp [h1], h2, h3, fun i o' hi => ?_⟩
    cases i with
    | zero =>
      simp at hi
      subst hi
      refine ⟨?_, ?_, ?_⟩
      · have e : viewAt S ((x, S1, fp, c) :: tr') 1 = S1 := by unfold viewAt; cases tr' <;> rfl
        rw [e]
        exact hs
      · show envAt os _ tr' 0 = _
        cases os <;> cases tr' <;> rfl
      · have e : viewAt S ((x, S1, fp, c) :: tr') 1 = S1 := by unfold viewAt; cases tr' <;> rfl
        rw [e]
        exact hc
    | succ i => exact h4 i o' (by simpa using hi)

theorem ancOf_lt {T : List Nat} {i j : Nat} (h : ancOf T i j = true) : i < j := by
  unfold ancOf at h
  rw [Bool.and_eq_true] at h
  have := h.1
  simp only [Nat.blt, Nat.ble_eq] at this
  exact this
theorem draw_region (hm : P.follows .mixedOrders = true) {ops : Array Oper} {A : Env} {S : View} {tr : Trc} {A' : Env} {S' : View} (h : TraceOk P Γ N ops ops.toList A S tr A' S') (hc : drawChk ops (tr.map fun r => r.2.2) = true) {id : Nat} {Q : Exit → Act → World → Prop}
    {M : Mem} {ρ : Nam} {w : World} {a : Act} (hT : TR M ρ N A a) (hG : Glob M Γ) (hSt : St M ρ w S) (hQ : ∀ M' ρ' w' a', Nx M ρ w S M' ρ' w' S' → ρ.le ρ' → TR M' ρ' N A' a' → Q .normal a' w') : (Code.region id ops true).wp P Q a w := by
  obtain ⟨h1, h2, h3, h4⟩ := trace_at h
  have hget : ∀ i, (tr.map fun r => r.2.2).getD i ([], true) = (rowAt tr i).2.2 := fun i => by
    simp only [rowAt, List.getD_eq_getElem?_getD, List.getElem?_map]
    cases tr[i]? <;> rfl
  have hsz : ops.toList.length = ops.size := Array.length_toList
  unfold drawChk at hc
  simp only [List.all_eq_true, List.mem_range] at hc
  have hrow : ∀ j, j < ops.size → ∃ oj, ops[j]? = some oj ∧ (∀ d ∈ depsOf oj, d < j) ∧ (∀ i, ancOf (ancTab ops.toList) i j = true → i < j ∧ ∃ e ∈ depsOf oj, e = i ∨ ancOf (ancTab ops.toList) i e = true) ∧ ∀ i, i < j → ∃ oi, ops[i]? = some oi ∧ pairOk ops (ancTab ops.toList) oi oj (rowAt tr i).2.2 (rowAt tr j).2.2 i j = true := by
    intro j hj
    have hj' := hc j hj
    have ho : ops[j]? = some ops[j] := Array.getElem?_eq_getElem hj
    rw [ho] at hj'
    simp only [Bool.and_eq_true, List.all_eq_true, List.mem_range] at hj'
    obtain ⟨⟨e1, e2⟩, e3⟩ := hj'
    refine ⟨_, ho, fun d hd => by have := e1 d hd; simp [Nat.blt] at this; omega, fun i hi => ?_, fun i hi => ?_⟩
    · have hlt := ancOf_lt hi
      have := e2 i hlt
      rw [hi] at this
      simp only [Bool.not_true, Bool.false_or, List.any_eq_true, Bool.or_eq_true, Nat.beq_eq] at this
      exact ⟨hlt, this⟩
    · have := e3 i hi
      have hoi : ops[i]? = some ops[i] := Array.getElem?_eq_getElem (by omega)
      rw [hoi] at this
      simp only [hget] at this
      exact ⟨_, hoi, this⟩
  have hw : Waits ops (ancOf (ancTab ops.toList)) := by
    refine ⟨fun j o hj e he hb => ?_, fun i j o hij hj => ?_, fun i j hij => ?_⟩
    · have hjl := (Array.getElem?_eq_some_iff.1 hj).1
      obtain ⟨oj, ho, e1, _⟩ := hrow j hjl
      rw [ho] at hj
      obtain rfl := Option.some.inj hj
      exact e1 e.on (List.mem_filterMap.2 ⟨e, he, by simp [hb]⟩)
    · have hjl := (Array.getElem?_eq_some_iff.1 hj).1
      obtain ⟨oj, ho, _, e2, _⟩ := hrow j hjl
      rw [ho] at hj
      obtain rfl := Option.some.inj hj
      obtain ⟨_, d, hd, hdd⟩ := e2 i hij
      unfold depsOf at hd
      rw [List.mem_filterMap] at hd
      obtain ⟨e, he, hee⟩ := hd
      split at hee
      · rename_i hb
        obtain rfl := Option.some.inj hee
        exact ⟨e, he, hb, hdd⟩
      · cases hee
    · exact ancOf_lt hij
  have hst : Pav.Steps P Γ N ops (envAt ops.toList A tr) (viewAt S tr) (fun i => (rowAt tr i).1) (fun i => (rowAt tr i).2.2.1) :=
    ⟨fun i o hi => (h4 i o (by simpa using hi)).1, fun i o hi => (h4 i o (by simpa using hi)).2.1⟩
  have hin : Indep ops (ancOf (ancTab ops.toList)) (viewAt S tr) (fun i => (rowAt tr i).2.2.1) (fun i => (rowAt tr i).2.2.2) := by
    refine ⟨fun i j o t hij hj hdi hl => ?_, fun i j o t hij hjl hi hdj hl => ?_, fun i j n hij hjl hcc hni hnj => ?_, fun i hi hcf => ?_⟩
    · have hjl := (Array.getElem?_eq_some_iff.1 hj).1
      obtain ⟨oj, ho, _, _, e3⟩ := hrow j hjl
      rw [ho] at hj
      obtain rfl := Option.some.inj hj
      obtain ⟨oi, hoi, e4⟩ := e3 i hij
      unfold dstOf at hdi
      rw [hoi] at hdi
      simp only [Option.bind_some] at hdi
      unfold pairOk at e4
      rw [Bool.or_eq_true] at e4
      rcases e4 with e4 | e4
      · exact e4
      · exfalso
        rw [hdi] at e4
        simp only [Bool.and_eq_true, Bool.not_eq_true', bne_iff_ne, ne_eq] at e4
        rcases hl with hl | hl
        · have := e4.1.1.1
          simp at this
          exact this hl
        · exact e4.1.1.2 hl
    · obtain ⟨oj, ho, _, _, e3⟩ := hrow j hjl
      obtain ⟨oi, hoi, e4⟩ := e3 i hij
      rw [hoi] at hi
      obtain rfl := Option.some.inj hi
      unfold dstOf at hdj
      rw [ho] at hdj
      simp only [Option.bind_some] at hdj
      unfold pairOk at e4
      rw [Bool.or_eq_true] at e4
      rcases e4 with e4 | e4
      · exact e4
      · exfalso
        rw [hdj] at e4
        simp only [Bool.and_eq_true, Bool.not_eq_true'] at e4
        have := e4.1.2
        simp at this
        exact this hl
    · obtain ⟨oj, ho, _, _, e3⟩ := hrow j hjl
      obtain ⟨oi, hoi, e4⟩ := e3 i hij
      unfold pairOk at e4
      rw [Bool.or_eq_true] at e4
      rcases e4 with e4 | e4
      · exact e4
      · exfalso
        simp only [Bool.and_eq_true, Bool.or_eq_true, Bool.not_eq_true'] at e4
        rcases e4.2 with e5 | e5
        · rw [Bool.or_eq_false_iff] at e5
          rcases hcc with hcc | hcc
          · rw [e5.1] at hcc; cases hcc
          · rw [e5.2] at hcc; cases hcc
        · unfold meet at e5
          rw [List.any_eq_false] at e5
          have := e5 n hni
          simp at this
          exact this hnj
    · have ho : ops[i]? = some ops[i] := Array.getElem?_eq_getElem hi
      exact (h4 i ops[i] (by rw [Array.getElem?_toList]; exact ho)).2.2 hcf
  have hz1 : envAt ops.toList A tr 0 = A := by cases ops.toList <;> cases tr <;> rfl
  have hz2 : viewAt S tr 0 = S := by cases tr <;> rfl
  rw [hsz] at h2 h3
  refine draw_sound hm hst hin hw (by rw [hz1]; exact hT) hG (by rw [hz2]; exact hSt) fun M' ρ' w' a' hN hle hT' => ?_
  rw [hz2, h3] at hN
  rw [h2] at hT'
  exact hQ M' ρ' w' a' hN hle hT'
end
end Go.Pav
namespace Go.Pav
open Go.RowKit
section
variable {P : Program} {TT : TypeId → Option TI} {Γ : Glo} {N : Nat} {Kp : Nat → Prop}

theorem Post.trans {M M1 : Mem} {ρ ρ1 : Nam} {w w1 : World} {S S1 : ASt} {Q : Exit → Env → ASt → Prop} (h : Nx M ρ w S.view M1 ρ1 w1 S1.view) (k : KeepN Kp ρ ρ1) {e : Exit} {a' : Act} {w' : World} (p : Post N Kp M1 ρ1 w1 S1 Q e a' w') : Post N Kp M ρ w S Q e a' w' := by
  obtain ⟨A', S', M', ρ', h1, h2, h3, h4⟩ := p
  exact ⟨A', S', M', ρ', h1, h.trans h2, k.trans h3, h4⟩
theorem wpL_loop {c : Code} {Q : Exit → Act → World → Prop} {a : Act} {w : World} (h : wpL P c Q a w) : (Code.loop c).wp P Q a w := fun b k cs => by
  obtain ⟨e, a', w', h1, h2⟩ := h b k cs
  exact ⟨e, a', w', h1, .of_steps (.one step_loop) h2⟩
theorem wpL_unroll {c : Code} {Q : Exit → Act → World → Prop} {a : Act} {w : World} (h : c.wp P (fun e a' w' => match e with | .normal => wpL P c Q a' w' | e => Q e a' w') a w) : wpL P c Q a w := fun b k cs => by
  obtain ⟨e, a1, w1, hq, harr⟩ := h b (.inLoop c :: k) cs
  cases e with
  | normal =>
    obtain ⟨e2, a2, w2, hq2, harr2⟩ := hq b k cs
    exact ⟨e2, a2, w2, hq2, .of_steps (Steps.trans harr (.one step_inLoop)) harr2⟩
  | exit id => exact ⟨_, a1, w1, hq, .pass (x := .inLoop c) rfl (fun _ _ => .inl (by simp)) harr⟩
  | goto l => exact ⟨_, a1, w1, hq, .pass (x := .inLoop c) rfl (fun _ _ => .inl (by simp)) harr⟩
  | ret => exact ⟨_, a1, w1, hq, .pass (x := .inLoop c) rfl (fun _ _ => .inl (by simp)) harr⟩
  | panic ch => exact ⟨_, a1, w1, hq, .pass (x := .inLoop c) rfl (fun _ _ => .inl (by simp)) harr⟩
  | outgrown => exact ⟨_, a1, w1, hq, .pass (x := .inLoop c) rfl (fun _ _ => .inl (by simp)) harr⟩

theorem Cd.mono {c : Code} {A : Env} {S : ASt} {Q Q' : Exit → Env → ASt → Prop} (h : Cd P Γ N Kp c A S Q) (hq : ∀ e A S, Q e A S → Q' e A S) : Cd P Γ N Kp c A S Q' := fun M ρ w a h1 h2 h3 =>
  wp_mono (h M ρ w a h1 h2 h3) fun _ _ _ ⟨A', S', M', ρ', k1, k2⟩ => ⟨A', S', M', ρ', hq _ _ _ k1, k2⟩

theorem range'_eq (n : Nat) : List.range' 0 n = List.range n := by rw [List.range_eq_range']
theorem awp_ok (hT : TTok P TT) (hm : P.follows .mixedOrders = true) : ∀ (c : Code) (A : Env) (S : ASt) (Q : Exit → Env → ASt → Prop), awp P TT Γ N Kp c A S Q → Cd P Γ N Kp c A S Q
  | .skip, A, S, Q, h => fun M ρ w a hTR hG hSt => wp_skip ⟨A, S, M, ρ, h, Nx.refl hSt, KeepN.of_le ρ.le_refl, hTR⟩
  | .region id ops draw, A, S, Q, h => fun M ρ w a hTR hG hSt => by
    have h : regP P TT Γ N ops draw A S Q := h
    cases draw with
    | false =>
      obtain ⟨tr, A', S', h1, h2⟩ := opsP_trace hT ops _ _ _ _ _ h
      refine wp_region ?_
      rw [← range'_eq, ← Array.length_toList]
      exact seq_sound ops.toList 0 (fun k o hk => by rw [Nat.zero_add, ← Array.getElem?_toList]; exact hk) A S.view tr A' S'.view h1 M ρ w a hTR hG hSt fun M' ρ' w' a' hN hle hT' => ⟨A', S', M', ρ', h2, hN, KeepN.of_le hle, hT'⟩
    | true =>
      obtain ⟨tr, A', S', h1, h2⟩ := opsP_trace hT ops _ _ _ _ _ h
      obtain ⟨h3, h4⟩ := h2
      exact draw_region hm h1 (by simpa using h3) hTR hG hSt fun M' ρ' w' a' hN hle hT' => ⟨A', S', M', ρ', h4, hN, KeepN.of_le hle, hT'⟩
  | .seq x y, A, S, Q, h => fun M ρ w a hTR hG hSt => by
    have h : awp P TT Γ N Kp x A S (seqK (awp P TT Γ N Kp y) Q) := h
    refine wp_seq (wp_mono (awp_ok hT hm x A S _ h M ρ w a hTR hG hSt) fun e a1 w1 hp => ?_)
    obtain ⟨A1, S1, M1, ρ1, h1, h2, h3, h4⟩ := hp
    cases e with
    | normal => exact wp_mono (awp_ok hT hm y A1 S1 Q h1 M1 ρ1 w1 a1 h4 (hG.mono h2.fr.mem) h2.st) fun e a' w' hp => Post.trans h2 h3 hp
    | _ => exact ⟨A1, S1, M1, ρ1, h1, h2, h3, h4⟩
  | .cond c x y, A, S, Q, h => fun M ρ w a hTR hG hSt => by
    have h : condP Γ c (awp P TT Γ N Kp x) (awp P TT Γ N Kp y) A S Q := h
    unfold condP at h
    obtain ⟨v, hv, h1⟩ := opt_some h
    split at h1
    · rename_i b
      have h2 := hTR.ev hG hv
      unfold AVR FVR at h2
      refine wp_cond (t := b) h2 ?_
      rcases cnd_of h1 with ⟨rfl, h3⟩ | ⟨rfl, h3⟩
      · exact awp_ok hT hm x A S Q h3 M ρ w a hTR hG hSt
      · exact awp_ok hT hm y A S Q h3 M ρ w a hTR hG hSt
    · exact h1.elim
  | .block id c, A, S, Q, h => fun M ρ w a hTR hG hSt => by
    have h : awp P TT Γ N Kp c A S (blockK id Q) := h
    refine wp_block (wp_mono (awp_ok hT hm c A S _ h M ρ w a hTR hG hSt) fun e a1 w1 hp => ?_)
    obtain ⟨A1, S1, M1, ρ1, h1, h2, h3, h4⟩ := hp
    cases e with
    | exit id' =>
      simp only [Exit.inBlock]
      rcases lit_of h1 with ⟨e1, h5⟩ | ⟨e1, h5⟩
      · rw [Nat.beq_eq] at e1
        rw [if_pos e1]
        exact ⟨A1, S1, M1, ρ1, h5, h2, h3, h4⟩
      · rw [if_neg (by intro e2; rw [← Nat.beq_eq, e1] at e2; cases e2)]
        exact ⟨A1, S1, M1, ρ1, h5, h2, h3, h4⟩
    | _ => exact ⟨A1, S1, M1, ρ1, h1, h2, h3, h4⟩
  | .exit id, A, S, Q, h => fun M ρ w a hTR hG hSt => wp_exit ⟨A, S, M, ρ, h, Nx.refl hSt, KeepN.of_le ρ.le_refl, hTR⟩
  | .ret, A, S, Q, h => fun M ρ w a hTR hG hSt => wp_ret ⟨A, S, M, ρ, h, Nx.refl hSt, KeepN.of_le ρ.le_refl, hTR⟩
  | .loop c, A, S, Q, h => fun M ρ w a hTR hG hSt => wpL_loop (h M ρ w a hTR hG hSt)
  | .rangeFunc _ _ _ _, _, _, _, h => h.elim
  | .scope _, _, _, _, h => h.elim
  | .label _, _, _, _, h => h.elim
  | .goto _, _, _, _, h => h.elim
  | .refuse _, _, _, _, h => h.elim

/-- One round. -/
theorem CdL.round (hT : TTok P TT) (hm : P.follows .mixedOrders = true) {c : Code} {A : Env} {S : ASt} {Q : Exit → Env → ASt → Prop} (h : awp P TT Γ N Kp c A S (seqK (CdL P Γ N Kp c) Q)) : CdL P Γ N Kp c A S Q := fun M ρ w a hTR hG hSt => by
  refine wpL_unroll (wp_mono (awp_ok hT hm c A S _ h M ρ w a hTR hG hSt) fun e a1 w1 hp => ?_)
  obtain ⟨A1, S1, M1, ρ1, h1, h2, h3, h4⟩ := hp
  cases e with
  | normal =>
    intro b k cs
    obtain ⟨e2, a2, w2, q2, r2⟩ := h1 M1 ρ1 w1 a1 h4 (hG.mono h2.fr.mem) h2.st b k cs
    exact ⟨e2, a2, w2, Post.trans h2 h3 q2, r2⟩
  | _ => exact ⟨A1, S1, M1, ρ1, h1, h2, h3, h4⟩
theorem CdL.mono {c : Code} {A : Env} {S : ASt} {Q Q' : Exit → Env → ASt → Prop} (h : CdL P Γ N Kp c A S Q) (hq : ∀ e A S, Q e A S → Q' e A S) : CdL P Γ N Kp c A S Q' := fun M ρ w a h1 h2 h3 b k cs => by
  obtain ⟨e, a', w', ⟨A', S', M', ρ', k1, k2⟩, r⟩ := h M ρ w a h1 h2 h3 b k cs
  exact ⟨e, a', w', ⟨A', S', M', ρ', hq _ _ _ k1, k2⟩, r⟩

/-! ### what is forgotten -/
/-- A says what L says. -/
def EnvC (A : Env) : List (Nat × AV) → Prop
  | [] => True
  | p :: r => (∃ x, A.get p.1 = some x ∧ Wk x p.2) ∧ EnvC A r
def BoxC (S : ASt) : List (Nat × List AV) → Prop
  | [] => True
  | p :: r => (∃ cs, S.H.lookup p.1 = some cs ∧ Wks cs p.2) ∧ BoxC S r
def TokC (S : ASt) : List (Nat × (List (List FV) × TypeId × Nat)) → Prop
  | [] => True
  | p :: r => (∃ xs, S.T.lookup p.1 = some (xs, p.2.2) ∧ RW xs p.2.1) ∧ TokC S r
theorem EnvC.nil (A : Env) : EnvC A [] := trivial
theorem EnvC.cons {A : Env} {t : Nat} {x : AV} {r : List (Nat × AV)} (h : A.get t = some x) (k : EnvC A r) : EnvC A ((t, x) :: r) := ⟨⟨x, h, Wk.refl x⟩, k⟩
theorem EnvC.consW {A : Env} {t : Nat} {x y : AV} {r : List (Nat × AV)} (h : A.get t = some x) (w : Wk x y) (k : EnvC A r) : EnvC A ((t, y) :: r) := ⟨⟨x, h, w⟩, k⟩
theorem BoxC.nil (S : ASt) : BoxC S [] := trivial
theorem BoxC.cons {S : ASt} {l : Nat} {cs : List AV} {r : List (Nat × List AV)} (h : S.H.lookup l = some cs) (k : BoxC S r) : BoxC S ((l, cs) :: r) := ⟨⟨cs, h, Wks.refl cs⟩, k⟩
theorem BoxC.consW {S : ASt} {l : Nat} {cs ds : List AV} {r : List (Nat × List AV)} (h : S.H.lookup l = some cs) (w : Wks cs ds) (k : BoxC S r) : BoxC S ((l, ds) :: r) := ⟨⟨cs, h, w⟩, k⟩
theorem TokC.nil (S : ASt) : TokC S [] := trivial
theorem EnvC.mem {A : Env} : ∀ {L : List (Nat × AV)}, EnvC A L → ∀ p ∈ L, ∃ x, A.get p.1 = some x ∧ Wk x p.2
  | [], _, p, h => by cases h
  | q :: r, h, p, hp => by rcases List.mem_cons.1 hp with rfl | hp; exact h.1; exact EnvC.mem h.2 p hp
theorem BoxC.mem {S : ASt} : ∀ {L : List (Nat × List AV)}, BoxC S L → ∀ p ∈ L, ∃ x, S.H.lookup p.1 = some x ∧ Wks x p.2
  | [], _, p, h => by cases h
  | q :: r, h, p, hp => by rcases List.mem_cons.1 hp with rfl | hp; exact h.1; exact BoxC.mem h.2 p hp
theorem TokC.mem {S : ASt} : ∀ {L : List (Nat × (List (List FV) × TypeId × Nat))}, TokC S L → ∀ p ∈ L, ∃ xs, S.T.lookup p.1 = some (xs, p.2.2) ∧ RW xs p.2.1
  | [], _, p, h => by cases h
  | q :: r, h, p, hp => by rcases List.mem_cons.1 hp with rfl | hp; exact h.1; exact TokC.mem h.2 p hp
/-- (A, S) says all that (L, S0) says. -/
structure Covers (A : Env) (S : ASt) (L : List (Nat × AV)) (S0 : ASt) : Prop where
  env' : EnvC A L
  box' : BoxC S S0.H
  tok' : TokC S S0.T
  names' : S0.U.all (fun n => S.U.contains n) = true
  inL : L.all (fun p => p.2.within S0.U) = true
  inH : S0.H.all (fun p => S0.U.contains p.1 && withins S0.U p.2) = true
  inT : S0.T.all (fun p => S0.U.contains p.1) = true
theorem Covers.env {A : Env} {S : ASt} {L : List (Nat × AV)} {S0 : ASt} (h : Covers A S L S0) : ∀ p ∈ L, ∃ x, A.get p.1 = some x ∧ Wk x p.2 := h.env'.mem
theorem Covers.box {A : Env} {S : ASt} {L : List (Nat × AV)} {S0 : ASt} (h : Covers A S L S0) : ∀ p ∈ S0.H, ∃ cs, S.H.lookup p.1 = some cs ∧ Wks cs p.2 := h.box'.mem
theorem Covers.tok {A : Env} {S : ASt} {L : List (Nat × AV)} {S0 : ASt} (h : Covers A S L S0) : ∀ p ∈ S0.T, ∃ xs, S.T.lookup p.1 = some (xs, p.2.2) ∧ RW xs p.2.1 := h.tok'.mem
theorem Covers.st {M : Mem} {ρ : Nam} {w : World} {A : Env} {S : ASt} {L : List (Nat × AV)} {S0 : ASt} (h : Covers A S L S0) (hSt : St M ρ w S.view) : St M (ρ.only S0.U) w S0.view ∧ ∀ b, Owned (ρ.only S0.U) S0.view b → Owned ρ S.view b := by
  have hbox : ∀ l cs0, S0.view.H l = some cs0 → ∃ cs, S.view.H l = some cs ∧ Wks cs cs0 ∧ S0.U.contains l = true ∧ withins S0.U cs0 = true := fun l cs0 hl => by
    have hm := lookup_mem hl
    obtain ⟨cs, h1, h2⟩ := h.box _ hm
    have := (List.all_eq_true.1 h.inH) _ hm
    rw [Bool.and_eq_true] at this
    exact ⟨cs, h1, h2, this.1, this.2⟩
  have htok : ∀ t x, S0.view.T t = some x → (∃ xs, S.view.T t = some (xs, x.2) ∧ RW xs x.1) ∧ S0.U.contains t = true := fun t x ht => by
    have hm := lookup_mem ht
    exact ⟨h.tok _ hm, (List.all_eq_true.1 h.inT) _ hm⟩
  have hb1 : ∀ l b, (ρ.only S0.U).box l = some b → ρ.box l = some b := fun l b hb => by simp only [Nam.only] at hb; split at hb; exact hb; cases hb
  have ht1 : ∀ l b, (ρ.only S0.U).tok l = some b → ρ.tok l = some b := fun l b hb => by simp only [Nam.only] at hb; split at hb; exact hb; cases hb
  refine ⟨⟨hSt.mem, ?_, ?_, ?_, ?_, ?_, ?_, ?_⟩, ?_⟩
  · intro l cs0 hl
    obtain ⟨cs, h1, h2, h3, h4⟩ := hbox l cs0 hl
    obtain ⟨b, c, ty, h5, h6, h7, h8⟩ := hSt.box l cs h1
    exact ⟨b, c, ty, by simp only [Nam.only]; rw [if_pos h3]; exact h5, h6, AVRs.only _ _ h4 (h2.ok h7), h8⟩
  · intro t xs e sz ht
    obtain ⟨⟨ys, h1, hr⟩, h2⟩ := htok t _ ht
    obtain ⟨i, h3, h4, h5, h6⟩ := hSt.tok t ys e sz h1
    have hl := hr.len
    simp only at hl hr
    rw [hl] at h4
    exact ⟨i, by simp only [Nam.only]; rw [if_pos h2]; exact h3, FW.sl (hr.eff e) _ _ h4, hr.rows h5, hr.tok h6⟩
  · intro l l' b c c' h1 h2 h3 h4
    obtain ⟨d, h5, _⟩ := hbox l c h1
    obtain ⟨d', h6, _⟩ := hbox l' c' h2
    exact hSt.boxes l l' b d d' h5 h6 (hb1 _ _ h3) (hb1 _ _ h4)
  · intro t t' x x' i i' b h1 h2 h3 h4
    obtain ⟨⟨y, k1, _⟩, _⟩ := htok t x h1
    obtain ⟨⟨y', k2, _⟩, _⟩ := htok t' x' h2
    exact hSt.toks t t' _ _ i i' b k1 k2 (ht1 _ _ h3) (ht1 _ _ h4)
  · intro l t cs x i b h1 h2 h3 h4
    obtain ⟨d, h5, _⟩ := hbox l cs h1
    obtain ⟨⟨y, k1, _⟩, _⟩ := htok t x h2
    exact hSt.mixed l t d _ i b h5 k1 (hb1 _ _ h3) (ht1 _ _ h4)
  · intro n hn
    have hn' : S0.U.contains n = false := hn
    simp only [Nam.only, hn']
    exact ⟨rfl, rfl⟩
  · intro n hn
    have hn' : S0.U.contains n = false := hn
    constructor
    · cases hl : S0.view.H n with
      | none => rfl
      | some c => obtain ⟨_, _, _, h3, _⟩ := hbox n c hl; rw [hn'] at h3; cases h3
    · cases hl : S0.view.T n with
      | none => rfl
      | some c => have := (htok n c hl).2; rw [hn'] at this; cases this
  · intro b hb
    rcases hb with ⟨l, cs, h1, h2⟩ | ⟨t, x, i, h1, h2, h3⟩
    · obtain ⟨d, h4, _⟩ := hbox l cs h1
      exact .inl ⟨l, d, h4, hb1 _ _ h2⟩
    · obtain ⟨⟨y, k1, _⟩, _⟩ := htok t x h1
      exact .inr ⟨t, _, i, k1, ht1 _ _ h2, h3⟩
theorem Covers.tr {M : Mem} {ρ : Nam} {A : Env} {S : ASt} {L : List (Nat × AV)} {S0 : ASt} (h : Covers A S L S0) {a : Act} (hT : TR M ρ N A a) : TR M (ρ.only S0.U) N (Env.of L) a :=
  ⟨hT.size, hT.defers, fun t x ht => by
    have hm := lookup_mem ht
    obtain ⟨y, h1, h2⟩ := h.env _ hm
    exact AVR.only _ _ ((List.all_eq_true.1 h.inL) _ hm) (h2 M ρ _ (hT.get t y h1))⟩
theorem CdL.forget {c : Code} {A : Env} {S : ASt} {Q : Exit → Env → ASt → Prop} (L : List (Nat × AV)) (S0 : ASt) (h : Covers A S L S0) (hK : ∀ n, Kp n → S0.U.contains n = true) (hc : CdL P Γ N Kp c (Env.of L) S0 Q) : CdL P Γ N Kp c A S Q := fun M ρ w a hTR hG hSt b k cs => by
  obtain ⟨h1, h2⟩ := h.st hSt
  obtain ⟨e, a', w', ⟨A', S', M', ρ', k1, k2, k3, k4⟩, r⟩ := hc M _ w a (h.tr hTR) hG h1 b k cs
  refine ⟨e, a', w', ⟨A', S', M', ρ', k1, ⟨k2.st, k2.fr.mono h2, fun b hb => (k2.own b hb).imp (h2 b) id⟩, fun n hn => ?_, k4⟩, r⟩
  have := k3 n hn
  simp only [Nam.only, hK n hn, if_true] at this
  exact this

/-! ### a slice that is to be appended to becomes a token's -/
theorem CdL.adopt {c : Code} {A : Env} {S : ASt} {Q : Exit → Env → ASt → Prop} (d t : Nat) (e : TypeId) (sz : Nat) {k : SK} {xs : List (List FV)} (hA : A.get d = some (.v (.sl k xs))) (hk : k = .nil ∨ k = .full) (hU : S.U.contains t = false) (hx : ∀ c ∈ xs, c.length = sz)
    (h : CdL P Γ N Kp c (A.put (some d) (.tsl t xs)) (S.setTok t (xs, e, sz)) Q) (hE : e < BIG := by decide) : CdL P Γ N Kp c A S Q := fun M ρ w a hTR hG hSt b ks cs => by
  have hv := hTR.get d _ hA
  unfold AVR at hv
  obtain ⟨ρ', k1, k2, k3, _⟩ := Nx.adopt hSt t hU xs e hE sz hx hk hv
  have hT' : TR M ρ' N (A.put (some d) (.tsl t xs)) a := by
    refine ⟨hTR.size, hTR.defers, fun u x hu => ?_⟩
    rw [Env.get_put] at hu
    split at hu
    · rename_i e1
      subst e1
      obtain rfl := Option.some.inj hu
      exact k3
    · exact AVR.mono M.le_refl k2 _ _ (hTR.get u x hu)
  have k1' : Nx M ρ w S.view M ρ' w (S.setTok t (xs, e, sz)).view := by rw [view_setTok]; exact k1
  obtain ⟨e', a', w', hq, r⟩ := h M ρ' w a hT' hG k1'.st b ks cs
  exact ⟨e', a', w', Post.trans k1' (KeepN.of_le k2) hq, r⟩
theorem CdL.adoptBox {c : Code} {A : Env} {S : ASt} {Q : Exit → Env → ASt → Prop} (l j t : Nat) (e : TypeId) (sz : Nat) {cs : List AV} {k : SK} {xs : List (List FV)} (h1 : S.H.lookup l = some cs) (h2 : cs[j]? = some (.v (.sl k xs))) (hk : k = .nil ∨ k = .full) (hU : S.U.contains t = false) (hx : ∀ c ∈ xs, c.length = sz)
    (h : CdL P Γ N Kp c A (S.adoptBox l cs j t xs e sz) Q) (hE : e < BIG := by decide) : CdL P Γ N Kp c A S Q := fun M ρ w a hTR hG hSt b ks fs => by
  obtain ⟨ρ', k1, k2⟩ := Nx.adoptBox (S := S.view) hSt (t := t) (sz := sz) e hE h1 h2 hk hU hx
  rw [← view_adoptBox] at k1
  obtain ⟨e', a', w', hq, r⟩ := h M ρ' w a (hTR.mono M.le_refl k2) hG k1.st b ks fs
  exact ⟨e', a', w', Post.trans k1 (KeepN.of_le k2) hq, r⟩

/-! ### functions -/
def resOne (TT : TypeId → Option TI) (A : Env) (S : ASt) : ResultVar → Option AV
  | .tmp t => A.get t
  | .cell a t => match A.get a, TT t with
    | some (.ptr l off), some i => match S.H.lookup l with
      | some cs => partA i cs off
      | none => none
    | _, _ => none
def resAll (TT : TypeId → Option TI) (A : Env) (S : ASt) : List ResultVar → Option (List AV)
  | [] => some []
  | r :: rs => match resOne TT A S r, resAll TT A S rs with
    | some x, some xs => some (x :: xs)
    | _, _ => none
/-- What a function gives back. -/
def resA (xs : List AV) : AV := match xs with | [x] => x | xs => .tup xs
/-- The same, with all that it leads to. -/
def resF (S : ASt) (xs : List AV) : FV := match xs with | [x] => frz S.view.H 8 x | xs => .tup (xs.map (frz S.view.H 8))
def resSem (tmps : Array Value) : ResultVar → Sem Value
  | .tmp t => pure (tmps.getD t undef)
  | .cell b t => do loadVar t (← asAddr (tmps.getD b undef))
theorem results_eq (fn : Func) (tmps : Array Value) : results fn tmps = (do let vs ← fn.results.mapM (resSem tmps); pure (if h : vs.size = 1 then vs[0] else .tuple vs)) := by
  unfold results
  congr 1
theorem resOne_ok (hT : TTok P TT) {M : Mem} {ρ : Nam} {w : World} {A : Env} {S : ASt} {a : Act} (hTR : TR M ρ N A a) (hSt : St M ρ w S.view) {r : ResultVar} {x : AV} (h : resOne TT A S r = some x) :
    ∃ v, (resSem a.tmps r).run P w = .ok v w ∧ AVR M ρ x v := by
  cases r with
  | tmp t => exact ⟨_, rfl, hTR.get t x h⟩
  | cell b t =>
    simp only [resOne] at h
    split at h
    · rename_i l off i h1 h2
      split at h
      · rename_i cs h3
        have h4 := hTR.get b _ h1
        unfold AVR at h4
        obtain ⟨bk, h5, h6⟩ := h4
        obtain ⟨b', c, ty, h7, h8, h9, _⟩ := hSt.box l cs h3
        rw [h5] at h7
        obtain rfl := Option.some.inj h7
        have ht := hT t i h2
        have hcell : ∀ j, w.cell? ⟨bk, j, none⟩ = c[j]? := fun j => cell_of_row w bk j c ty (0, 0) h8
        unfold partA at h
        split at h
        · rename_i ha
          split at h
          · rename_i hle
            obtain rfl := Option.some.inj h
            refine ⟨.agg (((c.toList.drop off).take i.sz).toArray), ?_, mkAgg_ok (by simpa using (h9.drop off).take i.sz)⟩
            have e1 : ((c.toList.drop off).take i.sz).length = i.sz := by rw [List.length_take, List.length_drop, AVRs.len h9]; omega
            have e2 := run_loadCells_list (P := P) w ⟨bk, off, none⟩ ((c.toList.drop off).take i.sz) (fun j v hj => by
              rw [Addr.add_lit, hcell]
              rw [List.getElem?_take] at hj
              split at hj
              · simpa using hj
              · cases hj)
            rw [e1] at e2
            simp [resSem, h6, asAddr, loadVar, isAgg_run ht, ha, sizeOf_run ht, e2]
          · cases h
        · rename_i ha
          obtain ⟨v, e1, e2⟩ := AVRs.get h9 off x h
          have e3 : w.cell? ⟨bk, off, none⟩ = some v := by rw [hcell]; simpa using e1
          exact ⟨v, by simp [resSem, h6, asAddr, loadVar, isAgg_run ht, ha, run_load, e3], e2⟩
      · cases h
    · cases h
theorem resAll_ok (hT : TTok P TT) {M : Mem} {ρ : Nam} {w : World} {A : Env} {S : ASt} {a : Act} (hTR : TR M ρ N A a) (hSt : St M ρ w S.view) : ∀ {rs : List ResultVar} {xs : List AV}, resAll TT A S rs = some xs →
    ∃ vs, (rs.mapM (resSem a.tmps)).run P w = .ok vs w ∧ AVRs M ρ xs vs
  | [], xs, h => by
    simp [resAll] at h
    subst h
    exact ⟨[], by simp, by unfold AVRs; rfl⟩
  | r :: rs, xs, h => by
    simp only [resAll] at h
    split at h
    · rename_i x ys h1 h2
      obtain rfl := Option.some.inj h
      obtain ⟨v, h3, h4⟩ := resOne_ok hT hTR hSt h1
      obtain ⟨vs, h5, h6⟩ := resAll_ok hT hTR hSt h2
      refine ⟨v :: vs, ?_, by unfold AVRs; exact ⟨v, vs, rfl, h4, h6⟩⟩
      simp only [List.mapM_cons, Sem.run_bind, h3, Result.andThen_ok, h5, Sem.run_pure]
    · cases h
theorem resultsA_ok (hT : TTok P TT) {M : Mem} {ρ : Nam} {w : World} {A : Env} {S : ASt} {a : Act} (hTR : TR M ρ N A a) (hSt : St M ρ w S.view) {fn : Func} {xs : List AV} (h : resAll TT A S fn.results.toList = some xs) :
    ∃ v, (results fn a.tmps).run P w = .ok v w ∧ AVR M ρ (resA xs) v := by
  obtain ⟨vs, h1, h2⟩ := resAll_ok hT hTR hSt h
  refine ⟨if h : vs.toArray.size = 1 then vs.toArray[0] else .tuple vs.toArray, ?_, ?_⟩
  · rw [results_eq, Array.mapM_eq_mapM_toList]
    simp [h1]
  · match xs, h2 with
    | [], h2 =>
      unfold AVRs at h2
      subst h2
      unfold AVR AVRs
      exact ⟨#[], rfl, rfl⟩
    | [x], h2 =>
      unfold AVRs at h2
      obtain ⟨u, us, rfl, h3, h4⟩ := h2
      unfold AVRs at h4
      subst h4
      exact h3
    | x :: y :: r, h2 =>
      have hl : vs.length ≠ 1 := by rw [AVRs.len h2]; simp
      rw [dif_neg (by simpa using hl)]
      unfold AVR
      exact ⟨vs.toArray, rfl, by simpa using h2⟩
theorem resF_ok {M : Mem} {ρ : Nam} {w : World} {S : ASt} (hSt : St M ρ w S.view) {xs : List AV} {v : Value} (h : AVR M ρ (resA xs) v) : FVR (M.lent ρ w S.view) (resF S xs) v := by
  match xs, h with
  | [], h =>
    simp only [resA] at h
    unfold AVR at h
    obtain ⟨vs, h1, h2⟩ := h
    simp only [resF]
    unfold FVR
    exact ⟨vs, h1, h2.frz (frz_ok hSt 8)⟩
  | [x], h => exact frz_ok hSt 8 x v h
  | x :: y :: r, h =>
    simp only [resA] at h
    unfold AVR at h
    obtain ⟨vs, h1, h2⟩ := h
    simp only [resF]
    unfold FVR
    exact ⟨vs, h1, h2.frz (frz_ok hSt 8)⟩

/-! ### no slice is too long -/
mutual
def Bd : FV → Prop
  | .sl _ xs => xs.length ≤ 140737488355328 ∧ BdR xs
  | .fptr cs => Bds cs
  | .agg cs => Bds cs
  | .tup cs => Bds cs
  | .fn _ a b => Bds a ∧ Bds b
  | .iface _ x => Bd x
  | _ => True
def Bds : List FV → Prop
  | [] => True
  | x :: r => Bd x ∧ Bds r
def BdR : List (List FV) → Prop
  | [] => True
  | c :: r => Bds c ∧ BdR r
end
mutual
theorem FVR.bd {M : Mem} : ∀ (x : FV) (v : Value), FVR M x v → Bd x
  | .any, _, _ => by unfold Bd; trivial
  | .bool _, _, _ => by unfold Bd; trivial
  | .int _ _, _, _ => by unfold Bd; trivial
  | .str _, _, _ => by unfold Bd; trivial
  | .sl k xs, v, e => by
    unfold FVR at e
    obtain ⟨a, n, c, h1, h2, h3, h4, h5, h6⟩ := e
    unfold Bd
    refine ⟨by omega, ?_⟩
    rcases h6 with rfl | ⟨b, off, sz, h6, h7⟩
    · unfold BdR; trivial
    · exact Rws.bd xs b off sz h7
  | .fptr cs, _, e => by
    unfold FVR at e
    obtain ⟨b, off, h1, h2⟩ := e
    unfold Bd
    exact Cls.bd cs b off h2
  | .nilp, _, _ => by unfold Bd; trivial
  | .agg cs, _, e => by
    unfold FVR at e
    obtain ⟨vs, h1, h2⟩ := e
    unfold Bd
    exact FVRs.bd cs _ h2
  | .tup cs, _, e => by
    unfold FVR at e
    obtain ⟨vs, h1, h2⟩ := e
    unfold Bd
    exact FVRs.bd cs _ h2
  | .fn _ fs cs, _, e => by
    unfold FVR at e
    obtain ⟨vs, ws, h1, h2, h3⟩ := e
    unfold Bd
    exact ⟨FVRs.bd fs _ h2, FVRs.bd cs _ h3⟩
  | .nilfn, _, _ => by unfold Bd; trivial
  | .iface _ x, _, e => by
    unfold FVR at e
    obtain ⟨u, h1, h2⟩ := e
    unfold Bd
    exact FVR.bd x u h2
  | .nilif, _, _ => by unfold Bd; trivial
theorem FVRs.bd {M : Mem} : ∀ (xs : List FV) (vs : List Value), FVRs M xs vs → Bds xs
  | [], _, _ => by unfold Bds; trivial
  | x :: r, _, e => by
    unfold FVRs at e
    obtain ⟨u, us, h1, h2, h3⟩ := e
    unfold Bds
    exact ⟨FVR.bd x u h2, FVRs.bd r us h3⟩
theorem Cls.bd {M : Mem} : ∀ (xs : List FV) (b o : Nat), Cls M xs b o → Bds xs
  | [], _, _, _ => by unfold Bds; trivial
  | x :: r, b, o, e => by
    unfold Cls at e
    obtain ⟨⟨u, h1, h2, h3⟩, h4⟩ := e
    unfold Bds
    exact ⟨FVR.bd x u h3, Cls.bd r b (o + 1) h4⟩
theorem Rws.bd {M : Mem} : ∀ (xs : List (List FV)) (b o sz : Nat), Rws M xs b o sz → BdR xs
  | [], _, _, _, _ => by unfold BdR; trivial
  | c :: r, b, o, sz, e => by
    unfold Rws at e
    obtain ⟨h1, h2, h3⟩ := e
    unfold BdR
    exact ⟨Cls.bd c b o h2, Rws.bd r b (o + sz) sz h3⟩
end

def argsEnv (args : List FV) : Env := Env.of ((List.range args.length).zip (args.map .v))
theorem argsEnv_get {args : List FV} {t : Nat} {x : AV} (h : (argsEnv args).get t = some x) : ∃ y, args[t]? = some y ∧ x = .v y := by
  have hm := lookup_mem h
  rw [List.mem_iff_getElem?] at hm
  obtain ⟨i, hi⟩ := hm
  rw [List.getElem?_zip_eq_some] at hi
  obtain ⟨h1, h2⟩ := hi
  have hil : i < args.length := by have := (List.getElem?_eq_some_iff.1 h1).1; simpa using this
  rw [List.getElem?_range hil] at h1
  obtain rfl := Option.some.inj h1
  rw [List.getElem?_map, Option.map_eq_some_iff] at h2
  obtain ⟨y, h3, h4⟩ := h2
  exact ⟨y, h3, h4.symm⟩
theorem PFn.intro (hT : TTok P TT) (hm : P.follows .mixedOrders = true) {f : FuncId} {fn : Func} {c : Code} {args : List FV} {r : FV} (hf : P.funcs[f]? = some fn) (hb : fn.body = some c) (hn : (fn.name == "runtime.NumGoroutine") = false) (hN : args.length ≤ fn.ntmps)
    (h : Bds args → awp P TT Γ fn.ntmps (fun _ => False) c (argsEnv args) ASt.nil fun e A S => (e = .normal ∨ e = .ret) ∧ ∃ xs, resAll TT A S fn.results.toList = some xs ∧ resF S xs = r) : PFn P Γ f args r := by
  refine ⟨⟨fn, hf, by rw [hb]; rfl, hn⟩, fun M w vals hM hG hv => ?_⟩
  have hlen : vals.size = args.length := by simpa using FVRs.len hv
  have hTR : TR M ⟨fun _ => none, fun _ => none⟩ fn.ntmps (argsEnv args) { tmps := vals ++ Array.replicate (fn.ntmps - vals.size) undef, defers := [] } := by
    refine ⟨by simp; omega, rfl, fun t x hx => ?_⟩
    obtain ⟨y, h1, rfl⟩ := argsEnv_get hx
    obtain ⟨v, h2, h3⟩ := FVRs.get hv t y h1
    have h4 : vals[t]? = some v := by simpa using h2
    have hlt := (Array.getElem?_eq_some_iff.1 h4).1
    unfold AVR
    simp only [Array.getD_eq_getD_getElem?]
    rw [Array.getElem?_append_left hlt, h4]
    exact h3
  have hSt : St M ⟨fun _ => none, fun _ => none⟩ w ASt.nil.view := by
    rw [view_nil]
    exact ⟨hM, fun l cs h => (by cases h), fun t xs e sz h => (by cases h), fun l l' b cs cs' h => (by cases h), fun t t' x x' i i' b h => (by cases h), fun l t cs x i b h => (by cases h), fun n _ => ⟨rfl, rfl⟩, fun n _ => ⟨rfl, rfl⟩⟩
  refine calls_of_wp hf hb (wp_mono (awp_ok hT hm c _ _ _ (h (FVRs.bd _ _ hv)) M _ w _ hTR hG hSt) fun e a' w' hp => ?_)
  obtain ⟨A', S', M', ρ', ⟨he, xs, hx, hr⟩, h2, _, h4⟩ := hp
  obtain ⟨v, h5, h6⟩ := resultsA_ok hT h4 h2.st hx
  have hno : ∀ b, ¬ Owned (⟨fun _ => none, fun _ => none⟩ : Nam) ASt.nil.view b := fun b hb => by
    rcases hb with ⟨l, cs, h7, _⟩ | ⟨t, x, i, h7, _⟩ <;> cases h7
  have hfr : Fr M w (M'.lent ρ' w' S'.view) w' (fun _ => False) := by
    refine ⟨h2.fr.os, h2.fr.tape, h2.fr.output, h2.fr.size, fun b hb _ => h2.fr.block b hb (hno b), Mem.le_trans h2.fr.mem (M'.le_lent _ _ _), fun b hb _ o => ?_⟩
    rw [← h2.fr.memf b hb (hno b) o]
    unfold Mem.lent
    cases hM : M' b o with
    | some u => rfl
    | none =>
      simp only
      rw [if_neg]
      rintro ⟨l, cs, h7, h8⟩
      rcases h2.own b (.inl ⟨l, cs, h7, h8⟩) with h9 | h9
      · exact hno b h9
      · omega
  have hres := resF_ok h2.st h6
  rcases he with rfl | rfl
  · exact ⟨h4.defers, v, h5, _, v, rfl, hr ▸ hres, hfr, Mem.lent_ok h2.st⟩
  · exact ⟨h4.defers, v, h5, _, v, rfl, hr ▸ hres, hfr, Mem.lent_ok h2.st⟩

/-! ### functions that turn what is one's own -/
def argsEnvA (args : List AV) : Env := Env.of ((List.range args.length).zip args)
theorem argsEnvA_get {args : List AV} {t : Nat} {x : AV} (h : (argsEnvA args).get t = some x) : args[t]? = some x := by
  have hm := lookup_mem h
  rw [List.mem_iff_getElem?] at hm
  obtain ⟨i, hi⟩ := hm
  rw [List.getElem?_zip_eq_some] at hi
  obtain ⟨h1, h2⟩ := hi
  have hil : i < args.length := by have := (List.getElem?_eq_some_iff.1 h1).1; simpa using this
  rw [List.getElem?_range hil] at h1
  obtain rfl := Option.some.inj h1
  exact h2
/-- What a function's end gives: the result x, weakened to r; what is left of one's own: S1, weakened to S'. -/
def EndG (TT : TypeId → Option TI) (fn : Func) (r : AV) (S S' : ASt) (e : Exit) (A : Env) (S1 : ASt) : Prop :=
  (e = .normal ∨ e = .ret) ∧ S.U.all (fun n => S'.U.contains n) = true ∧ ∃ xs, resAll TT A S1 fn.results.toList = some xs ∧ Covers (Env.of [(0, resA xs)]) S1 [(0, r)] S'
theorem GFn.intro (hT : TTok P TT) (hm : P.follows .mixedOrders = true) {f : FuncId} {fn : Func} {c : Code} {S S' : ASt} {args : List AV} {r : AV} (hf : P.funcs[f]? = some fn) (hb : fn.body = some c) (hn : (fn.name == "runtime.NumGoroutine") = false) (hN : args.length ≤ fn.ntmps)
    (h : awp P TT Γ fn.ntmps (fun n => n ∈ S.U) c (argsEnvA args) S (EndG TT fn r S S')) : GFn P Γ f S args r S' := by
  refine ⟨⟨fn, hf, by rw [hb]; rfl, hn⟩, fun M ρ w vals hG hSt hv => ?_⟩
  have hlen : vals.size = args.length := by simpa using AVRs.len hv
  have hTR : TR M ρ fn.ntmps (argsEnvA args) { tmps := vals ++ Array.replicate (fn.ntmps - vals.size) undef, defers := [] } := by
    refine ⟨by simp; omega, rfl, fun t x hx => ?_⟩
    obtain ⟨v, h2, h3⟩ := AVRs.get hv t x (argsEnvA_get hx)
    have h4 : vals[t]? = some v := by simpa using h2
    have hlt := (Array.getElem?_eq_some_iff.1 h4).1
    simp only [Array.getD_eq_getD_getElem?]
    rw [Array.getElem?_append_left hlt, h4]
    exact h3
  refine calls_of_wp hf hb (wp_mono (awp_ok hT hm c _ _ _ h M ρ w _ hTR hG hSt) fun e a' w' hp => ?_)
  obtain ⟨A', S1, M', ρ1, ⟨he, hU, xs, hx, hC⟩, h2, hk, h4⟩ := hp
  obtain ⟨v, h5, h6⟩ := resultsA_ok hT h4 h2.st hx
  obtain ⟨k1, k2⟩ := hC.st h2.st
  have hr : AVR M' (ρ1.only S'.U) r v := by
    obtain ⟨x, e1, e2⟩ := hC.env (0, r) (by simp)
    have e3 : x = resA xs := (Option.some.inj e1).symm
    subst e3
    exact AVR.only _ _ (by have := hC.inL; simpa using this) (e2 M' ρ1 v h6)
  have hin : ∀ n, n ∈ S.U → n ∈ S'.U := fun n hn => by simpa using (List.all_eq_true.1 hU) n hn
  have hle : ρ.le (ρ1.only S'.U) := by
    refine ⟨fun n b hb => ?_, fun n i hi => ?_⟩
    · by_cases hn : n ∈ S.U
      · rw [only_box_in (hin n hn)]; exact (hk n hn).1 b hb
      · rw [(hSt.free n (nmem_view_U.2 hn)).1] at hb; cases hb
    · by_cases hn : n ∈ S.U
      · rw [only_tok_in (hin n hn)]; exact (hk n hn).2 i hi
      · rw [(hSt.free n (nmem_view_U.2 hn)).2] at hi; cases hi
  have hN : Nx M ρ w S.view M' (ρ1.only S'.U) w' S'.view := ⟨k1, h2.fr, fun b hb => h2.own b (k2 b hb)⟩
  rcases he with rfl | rfl
  · exact ⟨h4.defers, v, h5, M', _, v, rfl, hr, hN, hle⟩
  · exact ⟨h4.defers, v, h5, M', _, v, rfl, hr, hN, hle⟩
end
end Go.Pav
namespace Go.Pav

def fvIs : FV → Value → Bool
  | .bool b, .bool c => b == c
  | .int k n, .int l m => k == l && n == m
  | .str s, .string u => s.data.size == 0 && u.data.size == 0
  | .sl .nil [], .slice none 0 0 => true
  | .nilp, .pointer none => true
  | .nilfn, .nilFunc => true
  | .nilif, .nilIface => true
  | .any, .map none => true
  | _, _ => false
def fvsAre : List FV → List Value → Bool
  | [], [] => true
  | x :: r, v :: s => fvIs x v && fvsAre r s
  | _, _ => false
theorem fvIs_ok {x : FV} {v : Value} (h : fvIs x v = true) : (∀ M, FVR M x v) ∧ v.oneCell' = true := by
  unfold fvIs at h
  split at h
  · rw [beq_iff_eq] at h; subst h; exact ⟨fun M => by unfold FVR; rfl, rfl⟩
  · simp only [Bool.and_eq_true, beq_iff_eq] at h; obtain ⟨rfl, rfl⟩ := h; exact ⟨fun M => by unfold FVR; rfl, rfl⟩
  · simp only [Bool.and_eq_true, beq_iff_eq] at h
    rename_i s u
    have e : u = s := by
      cases s with | mk a => cases u with | mk b => 
        have h1 : a = #[] := Array.eq_empty_of_size_eq_zero h.1
        have h2 : b = #[] := Array.eq_empty_of_size_eq_zero h.2
        rw [h1, h2]
    subst e
    exact ⟨fun M => by unfold FVR; rfl, rfl⟩
  · exact ⟨fun M => by unfold FVR; exact ⟨none, 0, 0, rfl, rfl, ⟨Nat.le_refl _, Nat.zero_le _⟩, ⟨rfl, rfl, rfl⟩, fun _ => rfl, .inl rfl⟩, rfl⟩
  · exact ⟨fun M => by unfold FVR; rfl, rfl⟩
  · exact ⟨fun M => by unfold FVR; rfl, rfl⟩
  · exact ⟨fun M => by unfold FVR; rfl, rfl⟩
  · exact ⟨fun M => by unfold FVR; trivial, rfl⟩
  · cases h
theorem fvsAre_ok : ∀ {xs : List FV} {vs : List Value}, fvsAre xs vs = true → (∀ M, FVRs M xs vs) ∧ (∀ u ∈ vs, u.oneCell' = true) ∧ vs.length = xs.length
  | [], [], _ => ⟨fun M => (by unfold FVRs; rfl), fun u hu => (by cases hu), rfl⟩
  | x :: r, v :: s, h => by
    simp only [fvsAre, Bool.and_eq_true] at h
    obtain ⟨h1, h2⟩ := fvIs_ok h.1
    obtain ⟨h3, h4, h5⟩ := fvsAre_ok h.2
    refine ⟨fun M => by unfold FVRs; exact ⟨v, s, rfl, h1 M, h3 M⟩, fun u hu => ?_, by simp [h5]⟩
    rcases List.mem_cons.1 hu with rfl | hu
    · exact h2
    · exact h4 u hu
  | [], _ :: _, h => by simp [fvsAre] at h
  | _ :: _, [], h => by simp [fvsAre] at h

def chkDesc (P : Program) : TK → TypeDesc → Bool
  | .bool, .bool => true
  | .int k, .int l => k == l
  | .string, .string => true
  | .slice e, .slice f => Nat.beq e f
  | .struct fs, .struct az => (az.toList.map fun f => (f.offset, f.type)) == (fs.map fun f => (f.1, f.2.1)) && fs.all fun f => (P.info? f.2.1).map (·.size) == some f.2.2
  | .array n e, .array m f => Nat.beq n m && Nat.beq e f
  | .other, .struct _ => false
  | .other, .array _ _ => false
  | .other, _ => true
  | _, _ => false
def isAggV : Value → Bool
  | .agg _ => true
  | _ => false
def chkType (P : Program) (t : TypeId) (i : TI) : Bool :=
  (match P.info? t with
   | some f => Nat.beq f.size i.sz && Nat.beq f.bytes i.by_ && (match f.zero with
     | some z => fvsAre i.zero z.cells.toList && Nat.beq z.cells.size i.sz && (isAggV z == i.agg)
     | none => false)
   | none => false) &&
  (match P.underlying t with
   | some d => chkDesc P i.kind d
   | none => false)
theorem chkType_ok {P : Program} {t : TypeId} {i : TI} (h : chkType P t i = true) : TypeOk P t i := by
  unfold chkType at h
  rw [Bool.and_eq_true] at h
  obtain ⟨h1, h2⟩ := h
  constructor
  · split at h1
    · rename_i f hf
      simp only [Bool.and_eq_true, Nat.beq_eq] at h1
      obtain ⟨⟨h3, h4⟩, h5⟩ := h1
      split at h5
      · rename_i z hz
        simp only [Bool.and_eq_true, Nat.beq_eq, beq_iff_eq] at h5
        obtain ⟨⟨h6, h7⟩, h8⟩ := h5
        obtain ⟨h9, h10, h11⟩ := fvsAre_ok h6
        refine ⟨f, hf, h3, h4, z, hz, h11, h7, h10, h9, fun ha => ?_, fun ha => ?_⟩
        · rw [ha] at h8
          cases z <;> simp [isAggV] at h8
          rfl
        · rw [ha] at h8
          cases z <;> simp [isAggV] at h8 <;> first | rfl | exact h10 _ (by simp [Value.cells])
      · cases h5
    · cases h1
  · split at h2
    · rename_i d hd
      refine ⟨d, hd, ?_⟩
      revert h2
      cases i.kind <;> cases d <;> simp only [chkDesc] <;> intro h2 <;> first | (cases h2; done) | rfl | skip
      case int.int k l => simp only [beq_iff_eq] at h2; rw [h2]
      case slice.slice e f => rw [Nat.beq_eq] at h2; rw [h2]
      case struct.struct fs az =>
        simp only [Bool.and_eq_true, beq_iff_eq, List.all_eq_true] at h2
        exact ⟨az, rfl, h2.1, h2.2⟩
      case array.array n e m f => simp only [Bool.and_eq_true, Nat.beq_eq] at h2; rw [h2.1, h2.2]
      all_goals first | trivial | exact ⟨fun az h => (by cases h), fun n e h => (by cases h)⟩
    · cases h2
def ttOf (l : List (TypeId × TI)) : TypeId → Option TI := fun t => l.lookup t
theorem ttOf_ok {P : Program} {l : List (TypeId × TI)} (h : l.all (fun p => chkType P p.1 p.2) = true) : TTok P (ttOf l) := fun _ _ ht => chkType_ok ((List.all_eq_true.1 h) _ (lookup_mem ht))
end Go.Pav
namespace Go.Proofs.Ytcdfbkpdemhcpaa
open Go.Pav
def ttl : List (TypeId × TI) := [
  (1, ⟨.other, 1, 8, [.nilfn]⟩),
  (2, ⟨.int .i64, 1, 8, [.int .i64 0]⟩),
  (3, ⟨.int .i64, 1, 8, [.int .i64 0]⟩),
  (4, ⟨.bool, 1, 1, [.bool false]⟩),
  (5, ⟨.int .u8, 1, 1, [.int .u8 0]⟩),
  (7, ⟨.struct [(0, 2, 1), (1, 3, 1), (2, 4, 1), (3, 6, 1)], 4, 24, [.int .i64 0, .int .i64 0, .bool false, .int .u8 0]⟩),
  (9, ⟨.string, 1, 16, [.str ⟨#[]⟩]⟩),
  (12, ⟨.int .u64, 1, 8, [.int .u64 0]⟩),
  (13, ⟨.struct [(0, 9, 1), (1, 12, 1)], 2, 24, [.str ⟨#[]⟩, .int .u64 0]⟩),
  (15, ⟨.other, 1, 8, [.nilp]⟩),
  (16, ⟨.other, 1, 8, [.nilp]⟩),
  (17, ⟨.other, 1, 8, [.nilp]⟩),
  (18, ⟨.struct [(0, 17, 1)], 1, 8, [.nilp]⟩),
  (20, ⟨.other, 1, 16, [.nilif]⟩),
  (21, ⟨.int .i32, 1, 4, [.int .i32 0]⟩),
  (22, ⟨.slice 60, 1, 24, [.sl .nil []]⟩),
  (23, ⟨.struct [(0, 4, 1), (1, 22, 1)], 2, 32, [.bool false, .sl .nil []]⟩),
  (24, ⟨.struct [(0, 4, 1), (1, 22, 1)], 2, 32, [.bool false, .sl .nil []]⟩),
  (25, ⟨.slice 27, 1, 24, [.sl .nil []]⟩),
  (26, ⟨.struct [(0, 3, 1), (1, 24, 2), (3, 4, 1), (4, 9, 1), (5, 25, 1), (6, 25, 1)], 7, 112, [.int .i64 0, .bool false, .sl .nil [], .bool false, .str ⟨#[]⟩, .sl .nil [], .sl .nil []]⟩),
  (27, ⟨.struct [(0, 3, 1), (1, 24, 2), (3, 4, 1), (4, 9, 1), (5, 25, 1), (6, 25, 1)], 7, 112, [.int .i64 0, .bool false, .sl .nil [], .bool false, .str ⟨#[]⟩, .sl .nil [], .sl .nil []]⟩),
  (28, ⟨.other, 1, 8, [.nilfn]⟩),
  (29, ⟨.other, 1, 8, [.nilfn]⟩),
  (30, ⟨.other, 1, 8, [.nilfn]⟩),
  (31, ⟨.other, 1, 8, [.nilfn]⟩),
  (33, ⟨.other, 1, 8, [.nilfn]⟩),
  (34, ⟨.other, 1, 8, [.nilfn]⟩),
  (35, ⟨.slice 71, 1, 24, [.sl .nil []]⟩),
  (36, ⟨.other, 1, 8, [.nilfn]⟩),
  (37, ⟨.slice 66, 1, 24, [.sl .nil []]⟩),
  (39, ⟨.other, 1, 8, [.nilfn]⟩),
  (40, ⟨.slice 50, 1, 24, [.sl .nil []]⟩),
  (42, ⟨.other, 1, 8, [.nilfn]⟩),
  (43, ⟨.slice 87, 1, 24, [.sl .nil []]⟩),
  (44, ⟨.other, 1, 8, [.nilfn]⟩),
  (45, ⟨.other, 1, 8, [.nilfn]⟩),
  (46, ⟨.slice 48, 1, 24, [.sl .nil []]⟩),
  (47, ⟨.struct [(0, 27, 7), (7, 4, 1), (8, 46, 1)], 9, 144, [.int .i64 0, .bool false, .sl .nil [], .bool false, .str ⟨#[]⟩, .sl .nil [], .sl .nil [], .bool false, .sl .nil []]⟩),
  (48, ⟨.struct [(0, 27, 7), (7, 4, 1), (8, 46, 1)], 9, 144, [.int .i64 0, .bool false, .sl .nil [], .bool false, .str ⟨#[]⟩, .sl .nil [], .sl .nil [], .bool false, .sl .nil []]⟩),
  (49, ⟨.struct [(0, 9, 1), (1, 48, 9)], 10, 160, [.str ⟨#[]⟩, .int .i64 0, .bool false, .sl .nil [], .bool false, .str ⟨#[]⟩, .sl .nil [], .sl .nil [], .bool false, .sl .nil []]⟩),
  (50, ⟨.struct [(0, 9, 1), (1, 48, 9)], 10, 160, [.str ⟨#[]⟩, .int .i64 0, .bool false, .sl .nil [], .bool false, .str ⟨#[]⟩, .sl .nil [], .sl .nil [], .bool false, .sl .nil []]⟩),
  (51, ⟨.other, 1, 8, [.nilfn]⟩),
  (52, ⟨.other, 1, 8, [.nilfn]⟩),
  (53, ⟨.other, 1, 8, [.nilfn]⟩),
  (54, ⟨.int .i64, 1, 8, [.int .i64 0]⟩),
  (56, ⟨.other, 1, 8, [.nilfn]⟩),
  (57, ⟨.other, 1, 8, [.nilfn]⟩),
  (58, ⟨.other, 1, 8, [.nilfn]⟩),
  (59, ⟨.other, 1, 8, [.nilfn]⟩),
  (60, ⟨.int .u32, 1, 4, [.int .u32 0]⟩),
  (61, ⟨.other, 1, 8, [.nilfn]⟩),
  (62, ⟨.slice 64, 1, 24, [.sl .nil []]⟩),
  (63, ⟨.struct [(0, 27, 7), (7, 4, 1), (8, 62, 1)], 9, 144, [.int .i64 0, .bool false, .sl .nil [], .bool false, .str ⟨#[]⟩, .sl .nil [], .sl .nil [], .bool false, .sl .nil []]⟩),
  (64, ⟨.struct [(0, 27, 7), (7, 4, 1), (8, 62, 1)], 9, 144, [.int .i64 0, .bool false, .sl .nil [], .bool false, .str ⟨#[]⟩, .sl .nil [], .sl .nil [], .bool false, .sl .nil []]⟩),
  (65, ⟨.struct [(0, 9, 1), (1, 64, 9)], 10, 160, [.str ⟨#[]⟩, .int .i64 0, .bool false, .sl .nil [], .bool false, .str ⟨#[]⟩, .sl .nil [], .sl .nil [], .bool false, .sl .nil []]⟩),
  (66, ⟨.struct [(0, 9, 1), (1, 64, 9)], 10, 160, [.str ⟨#[]⟩, .int .i64 0, .bool false, .sl .nil [], .bool false, .str ⟨#[]⟩, .sl .nil [], .sl .nil [], .bool false, .sl .nil []]⟩),
  (67, ⟨.other, 1, 8, [.nilfn]⟩),
  (68, ⟨.slice 9, 1, 24, [.sl .nil []]⟩),
  (69, ⟨.int .u64, 1, 8, [.int .u64 0]⟩),
  (70, ⟨.struct [(0, 9, 1), (1, 68, 1)], 2, 40, [.str ⟨#[]⟩, .sl .nil []]⟩),
  (71, ⟨.struct [(0, 9, 1), (1, 68, 1)], 2, 40, [.str ⟨#[]⟩, .sl .nil []]⟩),
  (72, ⟨.other, 1, 8, [.nilfn]⟩),
  (73, ⟨.other, 1, 8, [.nilfn]⟩),
  (74, ⟨.other, 1, 8, [.nilfn]⟩),
  (75, ⟨.other, 1, 8, [.nilfn]⟩),
  (76, ⟨.other, 1, 8, [.nilfn]⟩),
  (77, ⟨.other, 1, 8, [.nilfn]⟩),
  (78, ⟨.other, 1, 8, [.nilfn]⟩),
  (79, ⟨.other, 1, 8, [.nilfn]⟩),
  (80, ⟨.other, 1, 8, [.nilfn]⟩),
  (81, ⟨.other, 1, 8, [.nilfn]⟩),
  (82, ⟨.other, 1, 8, [.nilfn]⟩),
  (83, ⟨.other, 1, 8, [.nilfn]⟩),
  (84, ⟨.struct [(0, 35, 1), (1, 37, 1)], 2, 48, [.sl .nil [], .sl .nil []]⟩),
  (85, ⟨.struct [(0, 35, 1), (1, 37, 1)], 2, 48, [.sl .nil [], .sl .nil []]⟩),
  (86, ⟨.other, 1, 8, [.nilfn]⟩),
  (87, ⟨.struct [(0, 9, 1), (1, 68, 1)], 2, 40, [.str ⟨#[]⟩, .sl .nil []]⟩),
  (88, ⟨.other, 1, 8, [.nilfn]⟩),
  (89, ⟨.array 2 25, 2, 48, [.sl .nil [], .sl .nil []]⟩),
  (90, ⟨.other, 1, 8, [.nilfn]⟩),
  (91, ⟨.other, 1, 8, [.nilp]⟩),
  (92, ⟨.struct [(0, 3, 1), (1, 54, 1)], 2, 16, [.int .i64 0, .int .i64 0]⟩),
  (93, ⟨.struct [(0, 3, 1), (1, 54, 1)], 2, 16, [.int .i64 0, .int .i64 0]⟩),
  (94, ⟨.other, 1, 8, [.nilfn]⟩),
  (95, ⟨.other, 1, 8, [.nilfn]⟩),
  (96, ⟨.slice 99, 1, 24, [.sl .nil []]⟩),
  (97, ⟨.other, 1, 8, [.nilfn]⟩),
  (98, ⟨.struct [(0, 9, 1), (1, 3, 1)], 2, 24, [.str ⟨#[]⟩, .int .i64 0]⟩),
  (99, ⟨.struct [(0, 9, 1), (1, 3, 1)], 2, 24, [.str ⟨#[]⟩, .int .i64 0]⟩),
  (100, ⟨.other, 1, 8, [.nilfn]⟩),
  (101, ⟨.other, 1, 8, [.any]⟩),
  (102, ⟨.other, 1, 8, [.nilfn]⟩),
  (103, ⟨.other, 1, 8, [.nilfn]⟩),
  (104, ⟨.other, 1, 8, [.nilfn]⟩),
  (105, ⟨.other, 1, 8, [.nilfn]⟩),
  (106, ⟨.other, 1, 8, [.nilfn]⟩),
  (107, ⟨.other, 1, 8, [.nilfn]⟩),
  (108, ⟨.other, 1, 8, [.nilfn]⟩),
  (109, ⟨.other, 1, 8, [.nilfn]⟩),
  (110, ⟨.other, 1, 8, [.nilp]⟩),
  (111, ⟨.other, 1, 8, [.nilfn]⟩),
  (112, ⟨.slice 115, 1, 24, [.sl .nil []]⟩),
  (113, ⟨.other, 1, 8, [.nilfn]⟩),
  (114, ⟨.struct [(0, 9, 1), (1, 3, 1)], 2, 24, [.str ⟨#[]⟩, .int .i64 0]⟩),
  (115, ⟨.struct [(0, 9, 1), (1, 3, 1)], 2, 24, [.str ⟨#[]⟩, .int .i64 0]⟩),
  (116, ⟨.other, 1, 8, [.nilfn]⟩),
  (118, ⟨.other, 1, 8, [.nilfn]⟩),
  (119, ⟨.other, 1, 8, [.nilfn]⟩),
  (120, ⟨.other, 1, 8, [.nilfn]⟩),
  (121, ⟨.other, 1, 8, [.nilfn]⟩),
  (122, ⟨.slice 66, 1, 24, [.sl .nil []]⟩),
  (123, ⟨.other, 1, 8, [.nilfn]⟩),
  (124, ⟨.other, 1, 8, [.nilfn]⟩),
  (125, ⟨.other, 1, 8, [.nilfn]⟩),
  (126, ⟨.other, 1, 8, [.nilfn]⟩),
  (127, ⟨.other, 1, 8, [.nilfn]⟩),
  (128, ⟨.other, 1, 8, [.nilfn]⟩),
  (129, ⟨.int .u64, 1, 8, [.int .u64 0]⟩),
  (130, ⟨.other, 1, 8, [.nilfn]⟩),
  (131, ⟨.other, 1, 8, [.nilfn]⟩),
  (132, ⟨.other, 1, 8, [.nilfn]⟩),
  (133, ⟨.other, 1, 8, [.nilfn]⟩),
  (134, ⟨.other, 1, 8, [.nilfn]⟩),
  (135, ⟨.other, 1, 8, [.nilfn]⟩),
  (136, ⟨.slice 40, 1, 24, [.sl .nil []]⟩),
  (138, ⟨.other, 1, 8, [.nilfn]⟩),
  (139, ⟨.other, 1, 8, [.nilfn]⟩),
  (140, ⟨.other, 1, 8, [.nilfn]⟩),
  (141, ⟨.other, 1, 8, [.nilfn]⟩),
  (142, ⟨.other, 1, 8, [.nilfn]⟩),
  (143, ⟨.slice 25, 1, 24, [.sl .nil []]⟩),
  (144, ⟨.other, 1, 8, [.nilfn]⟩),
  (145, ⟨.other, 1, 8, [.nilfn]⟩),
  (146, ⟨.other, 1, 8, [.nilfn]⟩),
  (147, ⟨.other, 1, 8, [.nilfn]⟩),
  (148, ⟨.other, 1, 8, [.nilfn]⟩),
  (149, ⟨.other, 1, 8, [.nilfn]⟩),
  (150, ⟨.other, 1, 8, [.nilfn]⟩),
  (151, ⟨.struct [(0, 17, 1), (1, 17, 1), (2, 17, 1), (3, 9, 1)], 4, 40, [.nilp, .nilp, .nilp, .str ⟨#[]⟩]⟩),
  (153, ⟨.array 0 16, 0, 0, []⟩),
  (154, ⟨.struct [(0, 153, 0)], 0, 0, []⟩),
  (156, ⟨.other, 1, 8, [.nilfn]⟩),
  (159, ⟨.other, 1, 8, [.nilfn]⟩),
  (160, ⟨.other, 1, 8, [.nilp]⟩),
  (163, ⟨.struct [(0, 12, 1), (1, 12, 1), (2, 60, 1), (3, 157, 1), (4, 5, 1), (5, 5, 1), (6, 158, 1), (7, 159, 1), (8, 160, 1), (9, 161, 1), (10, 162, 1)], 11, 48, [.int .u64 0, .int .u64 0, .int .u32 0, .int .u8 0, .int .u8 0, .int .u8 0, .int .u8 0, .nilfn, .nilp, .int .i32 0, .int .i32 0]⟩),
  (165, ⟨.other, 1, 8, [.nilp]⟩)]
theorem ttl_ok : ttl.all (fun p => chkType Try.prog p.1 p.2) = true := by kernel_rfl
def TT : TypeId → Option TI := ttOf ttl
theorem TT_ok : TTok Try.prog TT := ttOf_ok ttl_ok
theorem mixed : Try.prog.follows .mixedOrders = true := by kernel_rfl
end Go.Proofs.Ytcdfbkpdemhcpaa
namespace Go.Pav
inductive Dat where
  | mk (kind : Int) (neg : Bool) (limbs : List Int) (b : Bool) (s : ByteArray) (items tail : List Dat)
def u32s (l : List Int) : FV := .sl .some (l.map fun n => [.int .u32 n])
mutual
def cellsD : Dat → List FV
  | .mk k n l b s i t => [.int .i64 k, .bool n, u32s l, .bool b, .str s, .sl .some (rowsD i), .sl .some (rowsD t)]
def rowsD : List Dat → List (List FV)
  | [] => []
  | d :: r => cellsD d :: rowsD r
end
def encD (d : Dat) : FV := .agg (cellsD d)
theorem rowsD_eq : ∀ l, rowsD l = l.map cellsD
  | [] => by unfold rowsD; rfl
  | d :: r => by unfold rowsD; rw [rowsD_eq r]; rfl
theorem rowsD_len (l : List Dat) : (rowsD l).length = l.length := by rw [rowsD_eq]; simp
theorem rowsD_get (l : List Dat) (i : Nat) (d : Dat) (h : l[i]? = some d) : (rowsD l)[i]? = some (cellsD d) := by rw [rowsD_eq]; simp [h]
theorem cellsD_len (d : Dat) : (cellsD d).length = 7 := by cases d; unfold cellsD; rfl
mutual
theorem Dat.ind_ {p : Dat → Prop} (h : ∀ k n l b s i t, (∀ d ∈ i, p d) → (∀ d ∈ t, p d) → p (.mk k n l b s i t)) : ∀ d, p d
  | .mk k n l b s i t => h k n l b s i t (Dat.inds h i) (Dat.inds h t)
theorem Dat.inds {p : Dat → Prop} (h : ∀ k n l b s i t, (∀ d ∈ i, p d) → (∀ d ∈ t, p d) → p (.mk k n l b s i t)) : ∀ l : List Dat, ∀ d ∈ l, p d
  | [] => fun d hd => by cases hd
  | e :: r => fun d hd => (List.mem_cons.1 hd).elim (fun h1 => h1 ▸ Dat.ind_ h e) (fun h1 => Dat.inds h r d h1)
end
def BdD (d : Dat) : Prop := Bd (encD d)
theorem BdD_mk {k n l b s i t} (h : BdD (.mk k n l b s i t)) : l.length ≤ 140737488355328 ∧ i.length ≤ 140737488355328 ∧ t.length ≤ 140737488355328 ∧ (∀ d ∈ i, BdD d) ∧ ∀ d ∈ t, BdD d := by
  have key : ∀ l : List Dat, BdR (rowsD l) → ∀ d ∈ l, BdD d := by
    intro l
    induction l with
    | nil => intro _ d hd; cases hd
    | cons e r ih =>
      intro h d hd
      unfold rowsD BdR at h
      rcases List.mem_cons.1 hd with rfl | hd
      · unfold BdD encD Bd; exact h.1
      · exact ih h.2 d hd
  unfold BdD encD Bd cellsD u32s at h
  simp only [Bds, Bd, List.length_map, rowsD_len] at h
  exact ⟨h.2.2.1.1, h.2.2.2.2.2.1.1, h.2.2.2.2.2.2.1.1, key _ h.2.2.2.2.2.1.2, key _ h.2.2.2.2.2.2.1.2⟩
/-- The loops of code, outer ones first. -/
def loopsOf : Code → List Code
  | .seq x y => loopsOf x ++ loopsOf y
  | .cond _ x y => loopsOf x ++ loopsOf y
  | .block _ c => loopsOf c
  | .loop c => c :: loopsOf c
  | .scope c => loopsOf c
  | _ => []
def nthLoop (f : Func) (n : Nat) : Code := ((loopsOf (f.body.getD .skip))[n]?).getD .skip
theorem wrap_i64 {n : Int} (h : -9223372036854775808 ≤ n) (k : n ≤ 9223372036854775807) : IntKind.i64.wrap n = n := IntWalk.i64_in n ⟨h, by omega⟩

/-! ### how many of left data are left behind one -/
mutual
def withinD : Dat → Int → Int → Int
  | .mk _ _ _ _ _ i t, left, deep => if left - 1 < 0 ∨ deep < 1 then -1 else if withinL i (left - 1) (deep - 1) < 0 then -1 else withinL t (withinL i (left - 1) (deep - 1)) (deep - 1)
def withinL : List Dat → Int → Int → Int
  | [], left, _ => left
  | d :: r, left, deep => if withinD d left deep < 0 then -1 else withinL r (withinD d left deep) deep
end
theorem withinD_mk (k n l b s i t) (left deep : Int) : withinD (.mk k n l b s i t) left deep = if left - 1 < 0 ∨ deep < 1 then -1 else if withinL i (left - 1) (deep - 1) < 0 then -1 else withinL t (withinL i (left - 1) (deep - 1)) (deep - 1) := by rw [withinD]
theorem withinL_nil (left deep : Int) : withinL [] left deep = left := by rw [withinL]
theorem withinL_cons (d r) (left deep : Int) : withinL (d :: r) left deep = if withinD d left deep < 0 then -1 else withinL r (withinD d left deep) deep := by rw [withinL]
theorem within_bd : ∀ d, ∀ left deep : Int, -1 ≤ withinD d left deep ∧ (0 ≤ left → withinD d left deep ≤ left) := by
  refine Dat.ind_ fun k n l b s i t hi ht => ?_
  have key : ∀ l : List Dat, (∀ d ∈ l, ∀ left deep : Int, -1 ≤ withinD d left deep ∧ (0 ≤ left → withinD d left deep ≤ left)) → ∀ left deep : Int, 0 ≤ left → -1 ≤ withinL l left deep ∧ withinL l left deep ≤ left := by
    intro l
    induction l with
    | nil => intro _ left deep h; rw [withinL_nil]; omega
    | cons d r ih =>
      intro h left deep h0
      rw [withinL_cons]
      have h1 := h d (by simp) left deep
      split
      · omega
      · have := ih (fun e he => h e (by simp [he])) (withinD d left deep) deep (by omega)
        omega
  intro left deep
  rw [withinD_mk]
  split
  · omega
  · rename_i hc
    have h1 := key i hi (left - 1) (deep - 1) (by omega)
    split
    · omega
    · have h2 := key t ht (withinL i (left - 1) (deep - 1)) (deep - 1) (by omega)
      omega
theorem withinL_bd (l : List Dat) : ∀ left deep : Int, 0 ≤ left → -1 ≤ withinL l left deep ∧ withinL l left deep ≤ left := by
  induction l with
  | nil => intro left deep h; rw [withinL_nil]; omega
  | cons d r ih =>
    intro left deep h0
    rw [withinL_cons]
    have h1 := within_bd d left deep
    split
    · omega
    · have := ih (withinD d left deep) deep (by omega)
      omega
end Go.Pav
namespace Go.Proofs.Ytcdfbkpdemhcpaa
open Go.Pav
set_option maxRecDepth 10000
abbrev Γ0 : Glo := fun _ => none
def Pw (d : Dat) : Prop := ∀ left deep : Int, 0 ≤ left → left ≤ 4611686018427387904 → -4611686018427387904 ≤ deep → deep ≤ 4611686018427387904 → PFn Try.prog Γ0 61 [encD d, .int .i64 left, .int .i64 deep] (.int .i64 (withinD d left deep))
theorem within_in (xs : List Dat) (hP : ∀ d ∈ xs, Pw d) (deep : Int) (hd0 : -4611686018427387903 ≤ deep) (hd1 : deep ≤ 4611686018427387904) (arr iv : FV) (hlen : xs.length ≤ 4611686018427387904) (Q : Go.Exit → Env → ASt → Prop) :
    ∀ (rem : List Dat) (i : Nat) (left : Int), xs.drop i = rem → i ≤ xs.length → 0 ≤ left → left ≤ 4611686018427387904 →
      (∀ x, 0 ≤ withinL rem left (deep - 1) → Q (.exit 2) ((Env.of [(1, .v (.int .i64 (withinL rem left (deep - 1)))), (2, .v (.int .i64 deep)), (8, .v (.sl .some (rowsD xs))), (22, .v arr), (23, .v iv), (27, .v (.int .i64 xs.length)), (28, .v (.int .i64 xs.length))]).put (some 29) x) ASt.nil) →
      (∀ A S, withinL rem left (deep - 1) < 0 → A.get 6 = some (.v (.int .i64 (-1))) → Q .ret A S) →
      CdL Try.prog Γ0 Try.f61.ntmps (fun _ => False) (nthLoop Try.f61 1) (Env.of [(1, .v (.int .i64 left)), (2, .v (.int .i64 deep)), (8, .v (.sl .some (rowsD xs))), (22, .v arr), (23, .v iv), (27, .v (.int .i64 xs.length)), (28, .v (.int .i64 i))]) ASt.nil Q := by
  intro rem
  induction rem with
  | nil =>
    intro i left hr hi h0 h1 hex hret
    have hil : i = xs.length := by have := List.drop_eq_nil_iff.1 hr; omega
    refine CdL.round TT_ok mixed ?_
    refine cnd_f (by simp; omega) ?_
    rw [withinL_nil] at hex
    subst hil
    exact hex _ h0
  | cons d rem ih =>
    intro i left hr hi h0 h1 hex hret
    have hil : i < xs.length := by
      refine Nat.lt_of_not_le fun h => ?_
      rw [List.drop_eq_nil_of_le h] at hr; cases hr
    have hget : xs[i]? = some d := by rw [← List.head?_drop, hr]; rfl
    have hrest : xs.drop (i + 1) = rem := by rw [← List.tail_drop, hr]; rfl
    have hmem : d ∈ xs := List.mem_of_getElem? hget
    have e1 : IntKind.i64.wrap (deep - 1) = deep - 1 := wrap_i64 (by omega) (by omega)
    have hb := within_bd d left (deep - 1)
    refine CdL.round TT_ok mixed ?_
    refine cnd_t (by simp; omega) ?_
    refine ⟨by omega, cellsD d, rowsD_get xs _ d hget, cellsD_len d, ?_⟩
    obtain ⟨k, n, l, b, s, it, tl⟩ := d
    refine .pure (.int .i64 (withinD (.mk k n l b s it tl) left (deep - 1))) rfl ?_ ?_
    · have e2 : PFn Try.prog Γ0 61 [encD (.mk k n l b s it tl), .int .i64 left, .int .i64 (IntKind.i64.wrap (deep - 1))] (.int .i64 (withinD (.mk k n l b s it tl) left (deep - 1))) := by
        rw [e1]; exact hP _ hmem left (deep - 1) h0 h1 (by omega) (by omega)
      exact e2
    · rw [withinL_cons] at hex hret
      refine cnd_mk (fun hc => ?_) (fun hc => ?_)
      · simp only [decide_eq_true_eq] at hc
        rw [if_pos hc] at hret
        exact hret _ _ (by omega) rfl
      · simp only [decide_eq_false_iff_not] at hc
        rw [if_neg hc] at hex hret
        refine CdL.forget _ ASt.nil ⟨?_, trivial, trivial, rfl, rfl, rfl, rfl⟩ (fun _ h => h.elim) (ih (i + 1) _ hrest (by omega) (by omega) (by omega) hex hret)
        refine ⟨⟨_, rfl, Wk.refl _⟩, ⟨_, rfl, Wk.refl _⟩, ⟨_, rfl, Wk.refl _⟩, ⟨_, rfl, Wk.refl _⟩, ⟨_, rfl, Wk.refl _⟩, ⟨_, rfl, Wk.refl _⟩, ⟨_, rfl, Wk.of_eq ?_⟩, trivial⟩
        rw [wrap_i64 (by omega) (by omega)]; rfl
theorem res1 {t : Nat} {A : Env} {S : ASt} {x : AV} {r : FV} (h : A.get t = some x) (hr : frz S.view.H 8 x = r) : ∃ xs, resAll TT A S [.tmp t] = some xs ∧ resF S xs = r := ⟨[x], by simp [resAll, resOne, h], hr⟩
theorem within_fn : ∀ d, Pw d := by
  intro d
  refine Dat.ind_ (p := Pw) ?_ d
  intro k n l b s it tl hi ht left deep h0 h1 hd0 hd1
  have e1 : IntKind.i64.wrap (left - 1) = left - 1 := wrap_i64 (by omega) (by omega)
  rw [withinD_mk]
  refine PFn.intro TT_ok mixed Try.func61 rfl rfl (by rw [Try.ntmps61]; simp) fun hB => ?_
  obtain ⟨_, hlen, hlen2, _, _⟩ := BdD_mk hB.1
  refine cnd_mk (fun h => ?_) (fun h => ?_)
  · rw [e1] at h
    simp only [decide_eq_true_eq] at h
    rw [if_pos (.inl h)]
    exact ⟨.inr rfl, res1 rfl rfl⟩
  · rw [e1] at h
    simp only [decide_eq_false_iff_not] at h
    refine cnd_mk (fun h2 => ?_) (fun h2 => ?_)
    · simp only [decide_eq_true_eq] at h2
      rw [if_pos (.inr h2)]
      exact ⟨.inr rfl, res1 rfl rfl⟩
    · simp only [decide_eq_false_iff_not] at h2
      rw [if_neg (by omega)]
      have hb1 := withinL_bd it (left - 1) (deep - 1) (by omega)
      refine CdL.round TT_ok mixed ?_
      refine CdL.forget _ ASt.nil ⟨?_, trivial, trivial, rfl, rfl, rfl, rfl⟩ (fun _ h => h.elim) (within_in it hi deep (by omega) hd1 (.agg [.sl .some (rowsD it), .sl .some (rowsD tl)]) (.int .i64 0) (by omega) _ it 0 (left - 1) rfl (by omega) (by omega) (by omega) ?_ ?_)
      · refine ⟨⟨_, rfl, Wk.of_eq (by rw [e1])⟩, ⟨_, rfl, Wk.refl _⟩, ⟨_, rfl, Wk.refl _⟩, ⟨_, rfl, Wk.refl _⟩, ⟨_, rfl, Wk.refl _⟩, ⟨_, rfl, Wk.of_eq (by rw [rowsD_len])⟩, ⟨_, rfl, Wk.refl _⟩, trivial⟩
      · intro x h3
        rw [if_neg (by omega)]
        have hb2 := withinL_bd tl (withinL it (left - 1) (deep - 1)) (deep - 1) (by omega)
        refine CdL.round TT_ok mixed ?_
        refine CdL.forget _ ASt.nil ⟨?_, trivial, trivial, rfl, rfl, rfl, rfl⟩ (fun _ h => h.elim) (within_in tl ht deep (by omega) hd1 (.agg [.sl .some (rowsD it), .sl .some (rowsD tl)]) (.int .i64 1) (by omega) _ tl 0 (withinL it (left - 1) (deep - 1)) rfl (by omega) (by omega) (by omega) ?_ ?_)
        · refine ⟨⟨_, rfl, Wk.refl _⟩, ⟨_, rfl, Wk.refl _⟩, ⟨_, rfl, Wk.refl _⟩, ⟨_, rfl, Wk.refl _⟩, ⟨_, rfl, Wk.refl _⟩, ⟨_, rfl, Wk.of_eq (by rw [rowsD_len])⟩, ⟨_, rfl, Wk.refl _⟩, trivial⟩
        · intro x h4
          refine CdL.round TT_ok mixed ?_
          exact ⟨.inr rfl, res1 rfl rfl⟩
        · intro A S hA h5
          have e : withinL tl (withinL it (left - 1) (deep - 1)) (deep - 1) = -1 := by omega
          rw [e]
          exact ⟨.inr rfl, res1 h5 rfl⟩
      · intro A S hA h3
        rw [if_pos hA]
        exact ⟨.inr rfl, res1 h3 rfl⟩
end Go.Proofs.Ytcdfbkpdemhcpaa
namespace Go.Pav
def u32r (l : List Int) : List (List FV) := l.map fun n => [.int .u32 n]
theorem u32s_eq (l : List Int) : u32s l = .sl .some (u32r l) := rfl
theorem u32r_len (l : List Int) : (u32r l).length = l.length := by simp [u32r]
theorem u32r_get (l : List Int) (i : Nat) (n : Int) (h : l[i]? = some n) : (u32r l)[i]? = some [.int .u32 n] := by simp [u32r, h]
theorem u32r_one (l : List Int) : ∀ c ∈ u32r l, c.length = 1 := by
  intro c hc
  simp only [u32r, List.mem_map] at hc
  obtain ⟨n, _, rfl⟩ := hc
  rfl
theorem opt_mk {α : Type} {x : Option α} {y : α} {k : α → Prop} (h : x = some y) (hk : k y) : opt x k := by subst h; exact hk
/-- Without the noughts at the end. -/
def trimR : List Int → List Int
  | [] => []
  | x :: r => if x == 0 then trimR r else x :: r
def trimL (l : List Int) : List Int := (trimR l.reverse).reverse
theorem trimL_nil : trimL [] = [] := rfl
theorem trimL_snoc (l : List Int) (x : Int) : trimL (l ++ [x]) = if x == 0 then trimL l else l ++ [x] := by
  simp only [trimL, List.reverse_append, List.reverse_cons, List.reverse_nil, List.nil_append, List.singleton_append, trimR]
  split <;> simp
theorem trimL_len (l : List Int) : (trimL l).length ≤ l.length := by
  have key : ∀ r : List Int, (trimR r).length ≤ r.length := by
    intro r
    induction r with
    | nil => simp [trimR]
    | cons x r ih => unfold trimR; split <;> simp <;> omega
  simp only [trimL, List.length_reverse]
  have := key l.reverse
  simpa using this
def cmpI (a b : Int) : Int := if a < b then -1 else if a > b then 1 else 0
def cmpHi : List Int → List Int → Int
  | x :: r, y :: s => if x ≠ y then cmpI x y else cmpHi r s
  | _, _ => 0
def cmpN (a b : List Int) : Int := if (trimL a).length ≠ (trimL b).length then cmpI (trimL a).length (trimL b).length else cmpHi (trimL a).reverse (trimL b).reverse
theorem cmpI_zero {a b : Int} : cmpI a b = 0 ↔ a = b := by unfold cmpI; split <;> (try split) <;> omega
theorem cmpHi_zero : ∀ {a b : List Int}, a.length = b.length → (cmpHi a b = 0 ↔ a = b)
  | [], [], _ => by simp [cmpHi]
  | [], y :: s, h => by simp at h
  | x :: r, [], h => by simp at h
  | x :: r, y :: s, h => by
    unfold cmpHi
    split
    · rename_i hn
      rw [cmpI_zero]
      simp [hn]
    · rename_i hn
      rw [cmpHi_zero (by simpa using h)]
      simp only [ne_eq, Classical.not_not] at hn
      simp [hn]
theorem cmpN_zero {a b : List Int} : cmpN a b = 0 ↔ trimL a = trimL b := by
  unfold cmpN
  split
  · rename_i h
    rw [cmpI_zero]
    constructor
    · intro e; omega
    · intro e; rw [e]
  · rename_i h
    rw [cmpHi_zero (by simp; omega)]
    exact List.reverse_inj
end Go.Pav
namespace Go.Proofs.Ytcdfbkpdemhcpaa
open Go.Pav
set_option maxRecDepth 10000
theorem isNaNI_fn (a : Int) : PFn Try.prog Γ0 114 [.int .i64 a] (.bool false) := by
  refine PFn.intro TT_ok mixed Try.func114 rfl rfl (by rw [Try.ntmps114]; simp) fun hB => ?_
  refine ⟨.inr rfl, res1 rfl ?_⟩
  simp [frz]
theorem isNaNU_fn (a : Int) : PFn Try.prog Γ0 115 [.int .u32 a] (.bool false) := by
  refine PFn.intro TT_ok mixed Try.func115 rfl rfl (by rw [Try.ntmps115]; simp) fun hB => ?_
  refine ⟨.inr rfl, res1 rfl ?_⟩
  simp [frz]
theorem compareI_fn (a b : Int) : PFn Try.prog Γ0 112 [.int .i64 a, .int .i64 b] (.int .i64 (cmpI a b)) := by
  refine PFn.intro TT_ok mixed Try.func112 rfl rfl (by rw [Try.ntmps112]; simp) fun hB => ?_
  refine .pure (.bool false) rfl (isNaNI_fn a) ?_
  refine .pure (.bool false) rfl (isNaNI_fn b) ?_
  unfold cmpI
  refine cnd_mk (fun h => ?_) (fun h => ?_) <;> simp only [decide_eq_true_eq, decide_eq_false_iff_not] at h
  · rw [if_pos h]
    exact ⟨.inr rfl, res1 rfl rfl⟩
  · rw [if_neg h]
    refine cnd_mk (fun h => ?_) (fun h => ?_) <;> simp only [decide_eq_true_eq, decide_eq_false_iff_not] at h
    · rw [if_pos h]
      exact ⟨.inr rfl, res1 rfl rfl⟩
    · rw [if_neg h]
      exact ⟨.inr rfl, res1 rfl rfl⟩
theorem compareU_fn (a b : Int) : PFn Try.prog Γ0 113 [.int .u32 a, .int .u32 b] (.int .i64 (cmpI a b)) := by
  refine PFn.intro TT_ok mixed Try.func113 rfl rfl (by rw [Try.ntmps113]; simp) fun hB => ?_
  refine .pure (.bool false) rfl (isNaNU_fn a) ?_
  refine .pure (.bool false) rfl (isNaNU_fn b) ?_
  unfold cmpI
  refine cnd_mk (fun h => ?_) (fun h => ?_) <;> simp only [decide_eq_true_eq, decide_eq_false_iff_not] at h
  · rw [if_pos h]
    exact ⟨.inr rfl, res1 rfl rfl⟩
  · rw [if_neg h]
    refine cnd_mk (fun h => ?_) (fun h => ?_) <;> simp only [decide_eq_true_eq, decide_eq_false_iff_not] at h
    · rw [if_pos h]
      exact ⟨.inr rfl, res1 rfl rfl⟩
    · rw [if_neg h]
      exact ⟨.inr rfl, res1 rfl rfl⟩
theorem trim_loop : ∀ (n : Nat) (l : List Int), l.length = n → n ≤ 140737488355328 →
    CdL Try.prog Γ0 Try.f110.ntmps (fun _ => False) (nthLoop Try.f110 0) (Env.of [(0, .v (u32s l))]) ASt.nil (fun e A S => e = .exit 0 ∧ S = ASt.nil ∧ A.get 0 = some (.v (u32s (trimL l)))) := by
  intro n
  induction n with
  | zero =>
    intro l hl hn
    obtain rfl := List.length_eq_zero_iff.1 hl
    refine CdL.round TT_ok mixed ?_
    exact ⟨rfl, rfl, rfl⟩
  | succ n ih =>
    intro l hl hn
    obtain ⟨l', x, rfl⟩ : ∃ l' x, l = l' ++ [x] := by
      rcases List.eq_nil_or_concat l with rfl | ⟨l', x, rfl⟩
      · simp at hl
      · exact ⟨l', x, by simp⟩
    have hl' : l'.length = n := by simpa using hl
    have hlen : ((u32r (l' ++ [x])).length : Int) - 1 = n := by rw [u32r_len, hl]; omega
    have e1 : IntKind.i64.wrap (((u32r (l' ++ [x])).length : Int) - 1) = n := by rw [hlen]; exact wrap_i64 (by omega) (by omega)
    rw [trimL_snoc]
    refine CdL.round TT_ok mixed ?_
    refine cnd_t (by rw [decide_eq_true_eq]; have := u32r_len (l' ++ [x]); rw [hl] at this; unfold u32r at this; rw [this]; omega) ?_
    refine ⟨?_, [.int .u32 x], ?_, rfl, ?_⟩
    · show 0 ≤ IntKind.i64.wrap (((u32r (l' ++ [x])).length : Int) - 1)
      rw [e1]; omega
    · show (u32r (l' ++ [x]))[(IntKind.i64.wrap (((u32r (l' ++ [x])).length : Int) - 1)).toNat]? = _
      rw [e1]
      exact u32r_get _ _ x (by rw [Int.toNat_natCast, ← hl']; simp)
    · refine cnd_mk (fun h => ?_) (fun h => ?_)
      · rw [if_pos h]
        refine ⟨by decide, ?_, ?_, ?_, ?_⟩
        · show 0 ≤ IntKind.i64.wrap (((u32r (l' ++ [x])).length : Int) - 1)
          rw [e1]; omega
        · show IntKind.i64.wrap (((u32r (l' ++ [x])).length : Int) - 1) ≤ ((u32r (l' ++ [x])).length : Int)
          rw [e1, u32r_len, hl]; omega
        · exact u32r_one _
        · refine CdL.forget _ ASt.nil ⟨?_, trivial, trivial, rfl, rfl, rfl, rfl⟩ (fun _ h => h.elim) (ih l' hl' (by omega))
          refine ⟨⟨_, rfl, Wk.of_eq ?_⟩, trivial⟩
          show AV.v (.sl .some (((u32r (l' ++ [x])).take (IntKind.i64.wrap (((u32r (l' ++ [x])).length : Int) - 1)).toNat).drop 0)) = _
          rw [e1, u32s_eq, Int.toNat_natCast, ← hl']
          simp [u32r]
      · rw [if_neg (by rw [h]; simp)]
        exact ⟨rfl, rfl, rfl⟩
theorem trim_fn (l : List Int) : PFn Try.prog Γ0 110 [u32s l] (u32s (trimL l)) := by
  refine PFn.intro TT_ok mixed Try.func110 rfl rfl (by rw [Try.ntmps110]; simp) fun hB => ?_
  have hl : l.length ≤ 140737488355328 := by
    have := hB.1
    rw [u32s_eq] at this
    have := this.1
    rwa [u32r_len] at this
  refine CdL.forget [(0, .v (u32s l))] ASt.nil ⟨⟨⟨_, rfl, Wk.refl _⟩, trivial⟩, trivial, trivial, rfl, rfl, rfl, rfl⟩ (fun _ h => h.elim) ((trim_loop _ l rfl hl).mono ?_)
  rintro e A S ⟨rfl, rfl, h⟩
  refine opt_mk h ?_
  exact ⟨.inr rfl, res1 rfl rfl⟩
end Go.Proofs.Ytcdfbkpdemhcpaa
namespace Go.Proofs.Ytcdfbkpdemhcpaa
open Go.Pav
set_option maxRecDepth 10000
theorem u32_flat (l : List Int) : (u32r l).flatten = l.map (fun n => .int .u32 n) := by
  induction l with
  | nil => rfl
  | cons x r ih => simp only [u32r, List.map_cons, List.flatten_cons, List.singleton_append] at ih ⊢; rw [ih]
theorem u32_chunk (l : List Int) : chunk 1 (l.map (fun n => FV.int .u32 n)) l.length = u32r l := by
  unfold chunk u32r
  apply List.ext_getElem
  · simp
  · intro i h1 h2
    simp only [List.getElem_map, List.getElem_range, Nat.mul_one]
    have hi : i < l.length := by simpa using h2
    rw [List.drop_eq_getElem_cons (by simpa using hi)]
    simp
theorem splice_all {cs zs : List AV} (h : cs.length = zs.length) : splice cs zs 0 = zs := by simp [splice, h]
theorem frz_v (H : Nat → Option (List AV)) (k : Nat) : ∀ xs : List FV, (xs.map AV.v).map (frz H (k + 1)) = xs
  | [] => rfl
  | x :: r => by rw [List.map_cons, List.map_cons, frz_v H k r]; rfl
theorem frz_made {H : Nat → Option (List AV)} {l n sz : Nat} {cells : List FV} (h : H l = some (cells.map .v)) (hlen : cells.length = n * sz) : frz H 8 (.bsl l 0 n n sz) = .sl .full (chunk sz cells n) := by
  unfold frz
  simp only [h, List.drop_zero, Nat.zero_add, List.length_map, hlen]
  rw [frz_v H 6 cells]
  have e1 : Nat.ble (n * sz) (n * sz) = true := by rw [Nat.ble_eq]; exact Nat.le_refl _
  have e2 : Nat.beq n n = true := by rw [Nat.beq_eq]
  rw [e1, e2]
  rfl
theorem natNorm_fn (l : List Int) (hl : l.length ≤ 4294967296) : PFn Try.prog Γ0 106 [u32s l] (.sl .full (u32r (trimL l))) := by
  refine PFn.intro TT_ok mixed Try.func106 rfl rfl (by rw [Try.ntmps106]; simp) fun hB => ?_
  have h1 := trimL_len l
  refine .pure (u32s (trimL l)) rfl (trim_fn l) ?_
  have e1 := u32r_len (trimL l)
  have e2 : (((u32r (trimL l)).length : Int)).toNat = (trimL l).length := by rw [e1]; simp
  refine ⟨rfl, ?_, ?_, ?_, ?_⟩
  · exact Int.natCast_nonneg _
  · show ((u32r (trimL l)).length : Int) ≤ 140737488355328
    omega
  · show (((u32r (trimL l)).length : Int)).toNat * 4 ≤ 140737488355328
    omega
  · refine ⟨u32r_one _, ?_, ?_⟩
    · show 0 + (((u32r (trimL l)).length : Int)).toNat * 1 ≤ _
      rw [e2]
      simp
    · refine ⟨.inr rfl, res1 rfl ?_⟩
      show frz _ 8 (.bsl 8 0 (((u32r (trimL l)).length : Int)).toNat (((u32r (trimL l)).length : Int)).toNat 1) = _
      rw [e2]
      refine (frz_made (cells := (trimL l).map fun n => .int .u32 n) ?_ (by simp)).trans (by rw [u32_chunk])
      show some (splice (List.replicate (((u32r (trimL l)).length : Int)).toNat [AV.v (.int .u32 0)]).flatten (((u32r (trimL l)).take (Nat.min (u32r (trimL l)).length (((u32r (trimL l)).length : Int)).toNat)).flatten.map .v) 0) = _
      rw [e2, e1, show Nat.min (trimL l).length (trimL l).length = (trimL l).length from Nat.min_self _, List.take_of_length_le (by rw [e1]; exact Nat.le_refl _), u32_flat, splice_all (by simp)]
end Go.Proofs.Ytcdfbkpdemhcpaa
namespace Go.Proofs.Ytcdfbkpdemhcpaa
open Go.Pav
set_option maxRecDepth 10000
theorem cmpHi_snoc (a b : List Int) (x y : Int) : cmpHi (a ++ [x]).reverse (b ++ [y]).reverse = if x ≠ y then cmpI x y else cmpHi a.reverse b.reverse := by
  simp only [List.reverse_append, List.reverse_cons, List.reverse_nil, List.nil_append, List.singleton_append, cmpHi]
theorem cmp_loop (a b : List Int) (hl : a.length = b.length) (hb : a.length ≤ 140737488355328) : ∀ (n : Nat), n ≤ a.length →
    CdL Try.prog Γ0 Try.f111.ntmps (fun _ => False) (nthLoop Try.f111 0) (Env.of [(0, .v (u32s a)), (1, .v (u32s b)), (5, .v (.int .i64 ((n : Int) - 1)))]) ASt.nil
      (fun e A S => (e = .exit 0 ∧ S = ASt.nil ∧ cmpHi (a.take n).reverse (b.take n).reverse = 0) ∨ (e = .ret ∧ A.get 4 = some (.v (.int .i64 (cmpHi (a.take n).reverse (b.take n).reverse))))) := by
  intro n
  induction n with
  | zero =>
    intro hn
    refine CdL.round TT_ok mixed ?_
    exact .inl ⟨rfl, rfl, by simp [cmpHi]⟩
  | succ n ih =>
    intro hn
    have hx : a[n]? = some a[n] := List.getElem?_eq_getElem (by omega)
    have hy : b[n]? = some b[n] := List.getElem?_eq_getElem (by omega)
    have e1 : ((n + 1 : Nat) : Int) - 1 = (n : Int) := by omega
    rw [e1]
    have ht : a.take (n + 1) = a.take n ++ [a[n]] := by rw [List.take_add_one, hx]; rfl
    have ht2 : b.take (n + 1) = b.take n ++ [b[n]] := by rw [List.take_add_one, hy]; rfl
    rw [ht, ht2, cmpHi_snoc]
    refine CdL.round TT_ok mixed ?_
    refine ⟨by omega, [.int .u32 a[n]], u32r_get a n _ hx, rfl, ?_⟩
    refine ⟨by omega, [.int .u32 b[n]], u32r_get b n _ hy, rfl, ?_⟩
    refine .mk (by decide +kernel) ?_
    refine cnd_mk (fun h => ?_) (fun h => ?_)
    · have h' : a[n] ≠ b[n] := by simpa using h
      rw [if_pos h']
      refine ⟨by omega, [.int .u32 a[n]], u32r_get a n _ hx, rfl, ?_⟩
      refine ⟨by omega, [.int .u32 b[n]], u32r_get b n _ hy, rfl, ?_⟩
      refine .pure (.int .i64 (cmpI a[n] b[n])) rfl (compareU_fn _ _) ?_
      refine .mk (by decide +kernel) ?_
      exact .inr ⟨rfl, rfl⟩
    · have h' : ¬ a[n] ≠ b[n] := by simpa using h
      rw [if_neg h']
      refine CdL.forget _ ASt.nil ⟨?_, trivial, trivial, rfl, rfl, rfl, rfl⟩ (fun _ h => h.elim) (ih (by omega))
      refine ⟨⟨_, rfl, Wk.refl _⟩, ⟨_, rfl, Wk.refl _⟩, ⟨_, rfl, Wk.of_eq ?_⟩, trivial⟩
      rw [wrap_i64 (by omega) (by omega)]
theorem cmpN_fn (a b : List Int) : PFn Try.prog Γ0 111 [u32s a, u32s b] (.int .i64 (cmpN a b)) := by
  refine PFn.intro TT_ok mixed Try.func111 rfl rfl (by rw [Try.ntmps111]; simp) fun hB => ?_
  have hla : a.length ≤ 140737488355328 := by have := hB.1; rw [u32s_eq] at this; have := this.1; rwa [u32r_len] at this
  have h1 := trimL_len a
  refine .pure (u32s (trimL a)) rfl (trim_fn a) ?_
  refine .pure (u32s (trimL b)) rfl (trim_fn b) ?_
  have ea := u32r_len (trimL a)
  have eb := u32r_len (trimL b)
  unfold cmpN
  refine cnd_mk (fun h => ?_) (fun h => ?_)
  · have h' : (trimL a).length ≠ (trimL b).length := by
      have h2 : ((trimL a).length : Int) ≠ ((trimL b).length : Int) := by simpa using h
      omega
    rw [if_pos h', ← ea, ← eb]
    refine .pure (.int .i64 (cmpI ((u32r (trimL a)).length : Int) ((u32r (trimL b)).length : Int))) rfl (compareI_fn _ _) ?_
    exact ⟨.inr rfl, res1 rfl rfl⟩
  · have h' : (trimL a).length = (trimL b).length := by
      have h2 : ((trimL a).length : Int) = ((trimL b).length : Int) := by simpa using h
      omega
    rw [if_neg (by simp [h'])]
    refine CdL.forget [(0, .v (u32s (trimL a))), (1, .v (u32s (trimL b))), (5, .v (.int .i64 (((trimL a).length : Int) - 1)))] ASt.nil ⟨?_, trivial, trivial, rfl, rfl, rfl, rfl⟩ (fun _ h => h.elim) ((cmp_loop (trimL a) (trimL b) h' (by omega) _ (Nat.le_refl _)).mono ?_)
    · refine ⟨⟨_, rfl, Wk.refl _⟩, ⟨_, rfl, Wk.refl _⟩, ⟨_, rfl, Wk.of_eq ?_⟩, trivial⟩
      show AV.v (.int .i64 (IntKind.i64.wrap (((u32r (trimL a)).length : Int) - 1))) = _
      rw [ea, wrap_i64 (by omega) (by omega)]
    · rw [List.take_of_length_le (Nat.le_refl _), h', List.take_of_length_le (Nat.le_refl _)]
      rintro e A S (⟨rfl, rfl, h5⟩ | ⟨rfl, h5⟩)
      · rw [h5]
        exact ⟨.inr rfl, res1 rfl rfl⟩
      · exact ⟨.inr rfl, res1 h5 rfl⟩
end Go.Proofs.Ytcdfbkpdemhcpaa
namespace Go.Proofs.Ytcdfbkpdemhcpaa
open Go.Pav
set_option maxRecDepth 10000
theorem PFn.res {P : Program} {Γ : Glo} {f : FuncId} {args : List FV} {r r' : FV} (h : PFn P Γ f args r) (hw : ∀ M v, FVR M r v → FVR M r' v) : PFn P Γ f args r' :=
  ⟨h.1, fun M w vals hM hG hv => (h.2 M w vals hM hG hv).mono fun _ _ ⟨M', v, h1, h2, h3⟩ => ⟨M', v, h1, hw M' v h2, h3⟩⟩
theorem FVR.some {M : Mem} {k : SK} {xs : List (List FV)} {v : Value} (h : FVR M (.sl k xs) v) : FVR M (.sl .some xs) v := by
  unfold FVR at h ⊢
  obtain ⟨a, n, c, h1, h2, h3, _, h5⟩ := h
  exact ⟨a, n, c, h1, h2, h3, trivial, h5⟩
theorem natNorm_some (l : List Int) (hl : l.length ≤ 4294967296) : PFn Try.prog Γ0 106 [u32s l] (u32s (trimL l)) := PFn.res (natNorm_fn l hl) fun _ _ h => FVR.some h
/-- A whole number: sign and limbs. -/
def encI (neg : Bool) (l : List Int) : FV := .agg [.bool neg, u32s l]
def normNeg (neg : Bool) (l : List Int) : Bool := neg && decide (0 < (trimL l).length)
theorem wholeOf_fn (neg : Bool) (l : List Int) (hl : l.length ≤ 4294967296) : PFn Try.prog Γ0 90 [.bool neg, u32s l] (encI (normNeg neg l) (trimL l)) := by
  refine PFn.intro TT_ok mixed Try.func90 rfl rfl (by rw [Try.ntmps90]; simp) fun hB => ?_
  refine .pure (u32s (trimL l)) rfl (natNorm_some l hl) ?_
  unfold normNeg
  refine cnd_mk (fun h => ?_) (fun h => ?_)
  · subst h
    refine ⟨.inr rfl, _, rfl, ?_⟩
    show FV.agg [.bool (decide (((u32r (trimL l)).length : Int) > 0)), u32s (trimL l)] = _
    rw [u32r_len]
    simp [encI]
  · subst h
    refine ⟨.inr rfl, _, rfl, ?_⟩
    simp [encI]
    rfl
theorem wholeNorm_fn (neg : Bool) (l : List Int) (hl : l.length ≤ 4294967296) : PFn Try.prog Γ0 63 [encI neg l] (encI (normNeg neg l) (trimL l)) := by
  refine PFn.intro TT_ok mixed Try.func63 rfl rfl (by rw [Try.ntmps63]; simp) fun hB => ?_
  refine .pure (encI (normNeg neg l) (trimL l)) rfl (wholeOf_fn neg l hl) ?_
  exact ⟨.inr rfl, _, rfl, rfl⟩
end Go.Proofs.Ytcdfbkpdemhcpaa
namespace Go.Proofs.Ytcdfbkpdemhcpaa
open Go.Pav
set_option maxRecDepth 10000
def cmpZ (na : Bool) (la : List Int) (nb : Bool) (lb : List Int) : Int :=
  if normNeg na la && !normNeg nb lb then -1 else if normNeg nb lb && !normNeg na la then 1 else if normNeg na la then cmpN (trimL lb) (trimL la) else cmpN (trimL la) (trimL lb)
theorem cmpZ_fn (na nb : Bool) (la lb : List Int) (hla : la.length ≤ 4294967296) (hlb : lb.length ≤ 4294967296) : PFn Try.prog Γ0 107 [encI na la, encI nb lb] (.int .i64 (cmpZ na la nb lb)) := by
  refine PFn.intro TT_ok mixed Try.func107 rfl rfl (by rw [Try.ntmps107]; simp) fun hB => ?_
  refine .pure (encI (normNeg na la) (trimL la)) rfl (wholeNorm_fn na la hla) ?_
  refine .pure (encI (normNeg nb lb) (trimL lb)) rfl (wholeNorm_fn nb lb hlb) ?_
  refine .mk (by decide +kernel) ?_
  unfold cmpZ
  generalize normNeg na la = x
  generalize normNeg nb lb = y
  cases x <;> cases y
  · refine .pure (.int .i64 (cmpN (trimL la) (trimL lb))) rfl (cmpN_fn _ _) ?_
    exact ⟨.inr rfl, res1 rfl rfl⟩
  · exact ⟨.inr rfl, res1 rfl rfl⟩
  · exact ⟨.inr rfl, res1 rfl rfl⟩
  · refine .pure (.int .i64 (cmpN (trimL lb) (trimL la))) rfl (cmpN_fn _ _) ?_
    exact ⟨.inr rfl, res1 rfl rfl⟩
end Go.Proofs.Ytcdfbkpdemhcpaa
namespace Go.Proofs.Ytcdfbkpdemhcpaa
open Go.Pav
set_option maxRecDepth 10000
def eqL (g : Dat → Dat → Bool) : List Dat → List Dat → Bool
  | [], [] => true
  | x :: xs, y :: ys => g x y && eqL g xs ys
  | _, _ => false
theorem eqL_len (g : Dat → Dat → Bool) : ∀ (a b : List Dat), a.length ≠ b.length → eqL g a b = false
  | [], [], h => by simp at h
  | [], y :: ys, _ => rfl
  | x :: xs, [], _ => rfl
  | x :: xs, y :: ys, h => by unfold eqL; rw [eqL_len g xs ys (by simpa using h)]; simp
theorem equalFunc_loop (f : FuncId) (g : Dat → Dat → Bool) (a b : List Dat) (hl : a.length = b.length) (hb : a.length ≤ 140737488355328) (hP : ∀ x ∈ a, ∀ y ∈ b, PFn Try.prog Γ0 f [encD x, encD y] (.bool (g x y))) :
    ∀ (ra rb : List Dat) (i : Nat), a.drop i = ra → b.drop i = rb → i ≤ a.length →
    CdL Try.prog Γ0 Try.f108.ntmps (fun _ => False) (nthLoop Try.f108 0) (Env.of [(1, .v (.sl .some (rowsD b))), (2, .v (.fn f [] [])), (15, .v (.sl .some (rowsD a))), (16, .v (.int .i64 a.length)), (17, .v (.int .i64 i))]) ASt.nil
      (fun e A S => (e = .exit 0 ∧ eqL g ra rb = true) ∨ (e = .ret ∧ eqL g ra rb = false ∧ A.get 6 = some (.v (.bool false)))) := by
  intro ra
  induction ra with
  | nil =>
    intro rb i hra hrb hi
    have hil : i = a.length := by have := List.drop_eq_nil_iff.1 hra; omega
    have hrb' : rb = [] := by rw [← hrb]; exact List.drop_eq_nil_of_le (by omega)
    subst hrb'
    refine CdL.round TT_ok mixed ?_
    refine cnd_f (by simp; omega) ?_
    exact .inl ⟨rfl, rfl⟩
  | cons x ra ih =>
    intro rb i hra hrb hi
    have hil : i < a.length := by
      refine Nat.lt_of_not_le fun h => ?_
      rw [List.drop_eq_nil_of_le h] at hra; cases hra
    have hx : a[i]? = some x := by rw [← List.head?_drop, hra]; rfl
    obtain ⟨y, hy⟩ : ∃ y, b[i]? = some y := ⟨b[i], List.getElem?_eq_getElem (by omega)⟩
    have hra' : a.drop (i + 1) = ra := by rw [← List.tail_drop, hra]; rfl
    obtain ⟨rb', hrb'⟩ : ∃ rb', rb = y :: rb' := by
      rw [← hrb, List.drop_eq_getElem_cons (by omega)]
      rw [List.getElem?_eq_getElem (by omega)] at hy
      rw [Option.some.inj hy]
      exact ⟨_, rfl⟩
    subst hrb'
    have hrb2 : b.drop (i + 1) = rb' := by rw [← List.tail_drop, hrb]; rfl
    have hf := hP x (List.mem_of_getElem? hx) y (List.mem_of_getElem? hy)
    have hgx := rowsD_get a i x hx
    have hgy := rowsD_get b i y hy
    have hcx := cellsD_len x
    have hcy := cellsD_len y
    obtain ⟨k1, n1, l1, b1, s1, i1, t1⟩ := x
    obtain ⟨k2, n2, l2, b2, s2, i2, t2⟩ := y
    generalize hxx : Dat.mk k1 n1 l1 b1 s1 i1 t1 = x at *
    generalize hyy : Dat.mk k2 n2 l2 b2 s2 i2 t2 = y at *
    refine CdL.round TT_ok mixed ?_
    refine cnd_t (by simp; omega) ?_
    refine ⟨by omega, cellsD x, hgx, hcx, ?_⟩
    subst hxx
    refine ⟨by omega, cellsD y, hgy, hcy, ?_⟩
    subst hyy
    refine .pure (.bool (g (.mk k1 n1 l1 b1 s1 i1 t1) (.mk k2 n2 l2 b2 s2 i2 t2))) rfl hf ?_
    unfold eqL
    refine cnd_mk (fun h => ?_) (fun h => ?_)
    · rw [Bool.not_eq_true'] at h
      rw [h]
      exact .inr ⟨rfl, rfl, rfl⟩
    · rw [Bool.not_eq_false'] at h
      rw [h, Bool.true_and]
      refine CdL.forget _ ASt.nil ⟨?_, trivial, trivial, rfl, rfl, rfl, rfl⟩ (fun _ h => h.elim) (ih rb' (i + 1) hra' hrb2 (by omega))
      refine ⟨⟨_, rfl, Wk.refl _⟩, ⟨_, rfl, Wk.refl _⟩, ⟨_, rfl, Wk.refl _⟩, ⟨_, rfl, Wk.refl _⟩, ⟨_, rfl, Wk.of_eq ?_⟩, trivial⟩
      rw [wrap_i64 (by omega) (by omega)]; rfl
theorem equalFunc_fn (f : FuncId) (g : Dat → Dat → Bool) (a b : List Dat) (hP : ∀ x ∈ a, ∀ y ∈ b, PFn Try.prog Γ0 f [encD x, encD y] (.bool (g x y))) :
    PFn Try.prog Γ0 108 [.sl .some (rowsD a), .sl .some (rowsD b), .fn f [] []] (.bool (eqL g a b)) := by
  refine PFn.intro TT_ok mixed Try.func108 rfl rfl (by rw [Try.ntmps108]; simp) fun hB => ?_
  have hla : a.length ≤ 140737488355328 := by have := hB.1; have := this.1; rwa [rowsD_len] at this
  have ea := rowsD_len a
  have eb := rowsD_len b
  refine cnd_mk (fun h => ?_) (fun h => ?_)
  · have h2 : ((rowsD a).length : Int) ≠ ((rowsD b).length : Int) := by simpa using h
    rw [eqL_len g a b (by omega)]
    exact ⟨.inr rfl, res1 rfl rfl⟩
  · have h2 : ((rowsD a).length : Int) = ((rowsD b).length : Int) := by simpa using h
    have h3 : a.length = b.length := by omega
    refine CdL.forget [(1, .v (.sl .some (rowsD b))), (2, .v (.fn f [] [])), (15, .v (.sl .some (rowsD a))), (16, .v (.int .i64 a.length)), (17, .v (.int .i64 (0 : Nat)))] ASt.nil ⟨?_, trivial, trivial, rfl, rfl, rfl, rfl⟩ (fun _ h => h.elim) ((equalFunc_loop f g a b h3 hla hP a b 0 rfl rfl (by omega)).mono ?_)
    · refine ⟨⟨_, rfl, Wk.refl _⟩, ⟨_, rfl, Wk.refl _⟩, ⟨_, rfl, Wk.refl _⟩, ⟨_, rfl, Wk.of_eq ?_⟩, ⟨_, rfl, Wk.refl _⟩, trivial⟩
      rw [rowsD_len]
    · rintro e A S (⟨rfl, h5⟩ | ⟨rfl, h5, h6⟩)
      · rw [h5]
        exact ⟨.inr rfl, res1 rfl rfl⟩
      · rw [h5]
        exact ⟨.inr rfl, res1 h6 rfl⟩
end Go.Proofs.Ytcdfbkpdemhcpaa
namespace Go.Proofs.Ytcdfbkpdemhcpaa
open Go.Pav
set_option maxRecDepth 10000
-- No list of limbs is longer than numbers may be made.
mutual
def limbsOk : Dat → Prop
  | .mk _ _ l _ _ i t => l.length ≤ 4294967296 ∧ limbsOkL i ∧ limbsOkL t
def limbsOkL : List Dat → Prop
  | [] => True
  | d :: r => limbsOk d ∧ limbsOkL r
end
theorem limbsOkL_mem : ∀ {l : List Dat}, limbsOkL l → ∀ d ∈ l, limbsOk d
  | [], _, d, h => by cases h
  | e :: r, hl, d, h => by
    unfold limbsOkL at hl
    rcases List.mem_cons.1 h with rfl | h
    · exact hl.1
    · exact limbsOkL_mem hl.2 d h
mutual
def sameD : Dat → Dat → Bool
  | .mk k n l b s i t, .mk k' n' l' b' s' i' t' => k == k' && b == b' && (s.toList == s'.toList) && (cmpZ n l n' l' == 0) && sameLs i i' && sameLs t t'
def sameLs : List Dat → List Dat → Bool
  | [], [] => true
  | x :: xs, y :: ys => sameD x y && sameLs xs ys
  | _, _ => false
end
theorem sameLs_eq : ∀ a b : List Dat, sameLs a b = eqL sameD a b
  | [], [] => by unfold sameLs eqL; rfl
  | x :: xs, y :: ys => by unfold sameLs eqL; rw [sameLs_eq xs ys]
  | [], _ :: _ => by unfold sameLs eqL; rfl
  | _ :: _, [] => by unfold sameLs eqL; rfl
theorem same_fn : ∀ d, limbsOk d → ∀ d', limbsOk d' → PFn Try.prog Γ0 101 [encD d, encD d'] (.bool (sameD d d')) := by
  refine Dat.ind_ fun k n l b s it tl hi ht hok d' hok' => ?_
  obtain ⟨k', n', l', b', s', it', tl'⟩ := d'
  unfold limbsOk at hok hok'
  refine PFn.intro TT_ok mixed Try.func101 rfl rfl (by rw [Try.ntmps101]; simp) fun hB => ?_
  unfold sameD
  rw [sameLs_eq, sameLs_eq]
  refine cnd_mk (fun h => ?_) (fun h => ?_)
  · rw [h, Bool.true_and]
    refine cnd_mk (fun h => ?_) (fun h => ?_)
    · rw [h, Bool.true_and]
      refine cnd_mk (fun h => ?_) (fun h => ?_)
      · rw [h, Bool.true_and]
        refine .pure (.int .i64 (cmpZ n l n' l')) rfl (cmpZ_fn n n' l l' hok.1 hok'.1) ?_
        refine cnd_mk (fun h => ?_) (fun h => ?_)
        · rw [h, Bool.true_and]
          refine .pure (.bool (eqL sameD it it')) rfl (equalFunc_fn 101 sameD it it' fun x hx y hy => hi x hx (limbsOkL_mem hok.2.1 x hx) y (limbsOkL_mem hok'.2.1 y hy)) ?_
          refine cnd_mk (fun h => ?_) (fun h => ?_)
          · rw [h, Bool.true_and]
            refine .pure (.bool (eqL sameD tl tl')) rfl (equalFunc_fn 101 sameD tl tl' fun x hx y hy => ht x hx (limbsOkL_mem hok.2.2 x hx) y (limbsOkL_mem hok'.2.2 y hy)) ?_
            exact ⟨.inr rfl, res1 rfl rfl⟩
          · rw [h, Bool.false_and]
            exact ⟨.inr rfl, res1 rfl rfl⟩
        · rw [h, Bool.false_and, Bool.false_and]
          exact ⟨.inr rfl, res1 rfl rfl⟩
      · rw [h, Bool.false_and, Bool.false_and, Bool.false_and]
        exact ⟨.inr rfl, res1 rfl rfl⟩
    · rw [h, Bool.false_and, Bool.false_and, Bool.false_and, Bool.false_and]
      exact ⟨.inr rfl, res1 rfl rfl⟩
  · rw [h, Bool.false_and, Bool.false_and, Bool.false_and, Bool.false_and, Bool.false_and]
    exact ⟨.inr rfl, res1 rfl rfl⟩
end Go.Proofs.Ytcdfbkpdemhcpaa
namespace Go.Proofs.Ytcdfbkpdemhcpaa
open Go.Pav
set_option maxRecDepth 10000
def fewD (d : Dat) : Bool := decide (0 ≤ withinD d 100000 10000)
theorem few_fn (d : Dat) : PFn Try.prog Γ0 41 [encD d] (.bool (fewD d)) := by
  obtain ⟨k, n, l, b, s, it, tl⟩ := d
  refine PFn.intro TT_ok mixed Try.func41 rfl rfl (by rw [Try.ntmps41]; simp) fun hB => ?_
  refine .pure (.int .i64 (withinD (.mk k n l b s it tl) 100000 10000)) rfl (within_fn (.mk k n l b s it tl) 100000 10000 (by omega) (by omega) (by omega) (by omega)) ?_
  exact ⟨.inr rfl, res1 rfl rfl⟩
def SameD (d d' : Dat) : Bool := fewD d && fewD d' && sameD d d'
theorem Same_fn (d d' : Dat) (h : limbsOk d) (h' : limbsOk d') : PFn Try.prog Γ0 70 [encD d, encD d'] (.bool (SameD d d')) := by
  have f1 := few_fn d
  have f2 := few_fn d'
  have f3 := same_fn d h d' h'
  unfold SameD
  generalize fewD d = x at *
  generalize fewD d' = y at *
  generalize sameD d d' = z at *
  obtain ⟨k, n, l, b, s, it, tl⟩ := d
  obtain ⟨k', n', l', b', s', it', tl'⟩ := d'
  refine PFn.intro TT_ok mixed Try.func70 rfl rfl (by rw [Try.ntmps70]; simp) fun hB => ?_
  refine .pure (.bool x) rfl f1 ?_
  cases x
  · exact ⟨.inr rfl, res1 rfl rfl⟩
  · refine .pure (.bool y) rfl f2 ?_
    cases y
    · exact ⟨.inr rfl, res1 rfl rfl⟩
    · refine .pure (.bool z) rfl f3 ?_
      exact ⟨.inr rfl, res1 rfl rfl⟩
end Go.Proofs.Ytcdfbkpdemhcpaa
namespace Go.Proofs.Ytcdfbkpdemhcpaa
open Go.Pav
set_option maxRecDepth 10000
def Pb (d : Dat) : Prop := ∀ left deep : Int, 0 ≤ left → left ≤ 4611686018427387904 → -4611686018427387904 ≤ deep → deep ≤ 4611686018427387904 → PFn Try.prog Γ0 55 [encD d, .int .i64 left, .int .i64 deep] (.int .i64 (withinD d left deep))
theorem budget_in (xs : List Dat) (hP : ∀ d ∈ xs, Pb d) (deep : Int) (hd0 : -4611686018427387903 ≤ deep) (hd1 : deep ≤ 4611686018427387904) (arr iv : FV) (hlen : xs.length ≤ 4611686018427387904) (Q : Go.Exit → Env → ASt → Prop) :
    ∀ (rem : List Dat) (i : Nat) (left : Int), xs.drop i = rem → i ≤ xs.length → 0 ≤ left → left ≤ 4611686018427387904 →
      (∀ x, 0 ≤ withinL rem left (deep - 1) → Q (.exit 2) ((Env.of [(1, .v (.int .i64 (withinL rem left (deep - 1)))), (2, .v (.int .i64 deep)), (23, .v arr), (24, .v iv), (27, .v (.sl .some (rowsD xs))), (28, .v (.int .i64 xs.length)), (29, .v (.int .i64 xs.length))]).put (some 30) x) ASt.nil) →
      (∀ A S, withinL rem left (deep - 1) < 0 → A.get 6 = some (.v (.int .i64 (-1))) → Q .ret A S) →
      CdL Try.prog Γ0 Try.f55.ntmps (fun _ => False) (nthLoop Try.f55 1) (Env.of [(1, .v (.int .i64 left)), (2, .v (.int .i64 deep)), (23, .v arr), (24, .v iv), (27, .v (.sl .some (rowsD xs))), (28, .v (.int .i64 xs.length)), (29, .v (.int .i64 i))]) ASt.nil Q := by
  intro rem
  induction rem with
  | nil =>
    intro i left hr hi h0 h1 hex hret
    have hil : i = xs.length := by have := List.drop_eq_nil_iff.1 hr; omega
    refine CdL.round TT_ok mixed ?_
    refine cnd_f (by simp; omega) ?_
    rw [withinL_nil] at hex
    subst hil
    exact hex _ h0
  | cons d rem ih =>
    intro i left hr hi h0 h1 hex hret
    have hil : i < xs.length := by
      refine Nat.lt_of_not_le fun h => ?_
      rw [List.drop_eq_nil_of_le h] at hr; cases hr
    have hget : xs[i]? = some d := by rw [← List.head?_drop, hr]; rfl
    have hrest : xs.drop (i + 1) = rem := by rw [← List.tail_drop, hr]; rfl
    have hmem : d ∈ xs := List.mem_of_getElem? hget
    have e1 : IntKind.i64.wrap (deep - 1) = deep - 1 := wrap_i64 (by omega) (by omega)
    have hb := within_bd d left (deep - 1)
    refine CdL.round TT_ok mixed ?_
    refine cnd_t (by simp; omega) ?_
    refine ⟨by omega, cellsD d, rowsD_get xs _ d hget, cellsD_len d, ?_⟩
    obtain ⟨k, n, l, b, s, it, tl⟩ := d
    refine .pure (.int .i64 (withinD (.mk k n l b s it tl) left (deep - 1))) rfl ?_ ?_
    · have e2 : PFn Try.prog Γ0 55 [encD (.mk k n l b s it tl), .int .i64 left, .int .i64 (IntKind.i64.wrap (deep - 1))] (.int .i64 (withinD (.mk k n l b s it tl) left (deep - 1))) := by
        rw [e1]; exact hP _ hmem left (deep - 1) h0 h1 (by omega) (by omega)
      exact e2
    · rw [withinL_cons] at hex hret
      refine cnd_mk (fun hc => ?_) (fun hc => ?_)
      · simp only [decide_eq_true_eq] at hc
        rw [if_pos hc] at hret
        exact hret _ _ (by omega) rfl
      · simp only [decide_eq_false_iff_not] at hc
        rw [if_neg hc] at hex hret
        refine CdL.forget _ ASt.nil ⟨?_, trivial, trivial, rfl, rfl, rfl, rfl⟩ (fun _ h => h.elim) (ih (i + 1) _ hrest (by omega) (by omega) (by omega) hex hret)
        refine ⟨⟨_, rfl, Wk.refl _⟩, ⟨_, rfl, Wk.refl _⟩, ⟨_, rfl, Wk.refl _⟩, ⟨_, rfl, Wk.refl _⟩, ⟨_, rfl, Wk.refl _⟩, ⟨_, rfl, Wk.refl _⟩, ⟨_, rfl, Wk.of_eq ?_⟩, trivial⟩
        rw [wrap_i64 (by omega) (by omega)]; rfl
theorem budget_fn : ∀ d, Pb d := by
  intro d
  refine Dat.ind_ (p := Pb) ?_ d
  intro k n l b s it tl hi ht left deep h0 h1 hd0 hd1
  have e1 : IntKind.i64.wrap (left - 1) = left - 1 := wrap_i64 (by omega) (by omega)
  rw [withinD_mk]
  refine PFn.intro TT_ok mixed Try.func55 rfl rfl (by rw [Try.ntmps55]; simp) fun hB => ?_
  obtain ⟨_, hlen, hlen2, _, _⟩ := BdD_mk hB.1
  refine cnd_mk (fun h => ?_) (fun h => ?_)
  · rw [e1] at h
    simp only [decide_eq_true_eq] at h
    rw [if_pos (.inl h)]
    exact ⟨.inr rfl, res1 rfl rfl⟩
  · rw [e1] at h
    simp only [decide_eq_false_iff_not] at h
    refine cnd_mk (fun h2 => ?_) (fun h2 => ?_)
    · simp only [decide_eq_true_eq] at h2
      rw [if_pos (.inr (by omega))]
      exact ⟨.inr rfl, res1 rfl rfl⟩
    · simp only [decide_eq_false_iff_not] at h2
      rw [if_neg (by omega)]
      have hb1 := withinL_bd it (left - 1) (deep - 1) (by omega)
      refine CdL.round TT_ok mixed ?_
      refine CdL.forget _ ASt.nil ⟨?_, trivial, trivial, rfl, rfl, rfl, rfl⟩ (fun _ h => h.elim) (budget_in it hi deep (by omega) hd1 (.agg [.sl .some (rowsD it), .sl .some (rowsD tl)]) (.int .i64 0) (by omega) _ it 0 (left - 1) rfl (by omega) (by omega) (by omega) ?_ ?_)
      · refine ⟨⟨_, rfl, Wk.of_eq (by rw [e1])⟩, ⟨_, rfl, Wk.refl _⟩, ⟨_, rfl, Wk.refl _⟩, ⟨_, rfl, Wk.refl _⟩, ⟨_, rfl, Wk.refl _⟩, ⟨_, rfl, Wk.of_eq (by rw [rowsD_len])⟩, ⟨_, rfl, Wk.refl _⟩, trivial⟩
      · intro x h3
        rw [if_neg (by omega)]
        have hb2 := withinL_bd tl (withinL it (left - 1) (deep - 1)) (deep - 1) (by omega)
        refine CdL.round TT_ok mixed ?_
        refine CdL.forget _ ASt.nil ⟨?_, trivial, trivial, rfl, rfl, rfl, rfl⟩ (fun _ h => h.elim) (budget_in tl ht deep (by omega) hd1 (.agg [.sl .some (rowsD it), .sl .some (rowsD tl)]) (.int .i64 1) (by omega) _ tl 0 (withinL it (left - 1) (deep - 1)) rfl (by omega) (by omega) (by omega) ?_ ?_)
        · refine ⟨⟨_, rfl, Wk.refl _⟩, ⟨_, rfl, Wk.refl _⟩, ⟨_, rfl, Wk.refl _⟩, ⟨_, rfl, Wk.refl _⟩, ⟨_, rfl, Wk.refl _⟩, ⟨_, rfl, Wk.of_eq (by rw [rowsD_len])⟩, ⟨_, rfl, Wk.refl _⟩, trivial⟩
        · intro x h4
          refine CdL.round TT_ok mixed ?_
          exact ⟨.inr rfl, res1 rfl rfl⟩
        · intro A S hA h5
          have e : withinL tl (withinL it (left - 1) (deep - 1)) (deep - 1) = -1 := by omega
          rw [e]
          exact ⟨.inr rfl, res1 h5 rfl⟩
      · intro A S hA h3
        rw [if_pos hA]
        exact ⟨.inr rfl, res1 h3 rfl⟩
end Go.Proofs.Ytcdfbkpdemhcpaa
namespace Go.Proofs.Ytcdfbkpdemhcpaa
open Go.Pav
set_option maxRecDepth 10000
theorem small_fn (d : Dat) (most deep : Int) (h0 : 0 ≤ most) (h1 : most ≤ 4611686018427387904) (h2 : -4611686018427387904 ≤ deep) (h3 : deep ≤ 4611686018427387904) : PFn Try.prog Γ0 28 [encD d, .int .i64 most, .int .i64 deep] (.bool (decide (0 ≤ withinD d most deep))) := by
  obtain ⟨k, n, l, b, s, it, tl⟩ := d
  refine PFn.intro TT_ok mixed Try.func28 rfl rfl (by rw [Try.ntmps28]; simp) fun hB => ?_
  refine .pure (.int .i64 (withinD (.mk k n l b s it tl) most deep)) rfl (budget_fn (.mk k n l b s it tl) most deep h0 h1 h2 h3) ?_
  exact ⟨.inr rfl, res1 rfl rfl⟩
end Go.Proofs.Ytcdfbkpdemhcpaa
namespace Go.Proofs.Ytcdfbkpdemhcpaa
open Go.Pav
set_option maxRecDepth 10000
theorem rnorm_loop (l : List Int) (hb : l.length ≤ 140737488355328) : ∀ (n : Nat), n ≤ l.length →
    CdL Try.prog Γ0 Try.f40.ntmps (fun _ => False) (nthLoop Try.f40 0) (Env.of [(0, .v (u32s l)), (3, .v (.int .i64 n))]) ASt.nil
      (fun e A S => e = .exit 0 ∧ S = ASt.nil ∧ A.get 0 = some (.v (u32s l)) ∧ A.get 3 = some (.v (.int .i64 (trimL (l.take n)).length)) ∧ trimL (l.take n) = l.take (trimL (l.take n)).length) := by
  intro n
  induction n with
  | zero =>
    intro hn
    refine CdL.round TT_ok mixed ?_
    exact ⟨rfl, rfl, rfl, rfl, rfl⟩
  | succ n ih =>
    intro hn
    have hx : l[n]? = some l[n] := List.getElem?_eq_getElem (by omega)
    have ht : l.take (n + 1) = l.take n ++ [l[n]] := by rw [List.take_add_one, hx]; rfl
    have e1 : IntKind.i64.wrap (((n + 1 : Nat) : Int) - 1) = n := by rw [wrap_i64 (by omega) (by omega)]; omega
    rw [ht, trimL_snoc]
    refine CdL.round TT_ok mixed ?_
    refine cnd_t (by simp) ?_
    refine ⟨?_, [.int .u32 l[n]], ?_, rfl, ?_⟩
    · show 0 ≤ IntKind.i64.wrap (((n + 1 : Nat) : Int) - 1)
      rw [e1]; omega
    · show (u32r l)[(IntKind.i64.wrap (((n + 1 : Nat) : Int) - 1)).toNat]? = _
      rw [e1]
      exact u32r_get l n _ hx
    · refine cnd_mk (fun h => ?_) (fun h => ?_)
      · rw [if_pos h]
        refine CdL.forget _ ASt.nil ⟨?_, trivial, trivial, rfl, rfl, rfl, rfl⟩ (fun _ h => h.elim) (ih (by omega))
        exact ⟨⟨_, rfl, Wk.refl _⟩, ⟨_, rfl, Wk.of_eq (by rw [e1])⟩, trivial⟩
      · rw [if_neg (by rw [h]; simp)]
        have e2 : (l.take n ++ [l[n]]).length = n + 1 := by simp; omega
        rw [e2, ht]
        exact ⟨rfl, rfl, rfl, rfl, rfl⟩
theorem rnorm_fn (l : List Int) (hl : l.length ≤ 4294967296) : PFn Try.prog Γ0 40 [u32s l] (u32s (trimL l)) := by
  refine PFn.intro TT_ok mixed Try.func40 rfl rfl (by rw [Try.ntmps40]; simp) fun hB => ?_
  have el := u32r_len l
  refine CdL.forget [(0, .v (u32s l)), (3, .v (.int .i64 (l.length : Int)))] ASt.nil ⟨?_, trivial, trivial, rfl, rfl, rfl, rfl⟩ (fun _ h => h.elim) ((rnorm_loop l (by omega) _ (Nat.le_refl _)).mono ?_)
  · refine ⟨⟨_, rfl, Wk.refl _⟩, ⟨_, rfl, Wk.of_eq ?_⟩, trivial⟩
    show AV.v (.int .i64 ((u32r l).length : Int)) = _
    rw [el]
  · rw [List.take_of_length_le (Nat.le_refl _)]
    have h6 := trimL_len l
    rintro e A S ⟨rfl, rfl, h2, h3, h4⟩
    refine opt_mk h2 ?_
    refine opt_mk h3 ?_
    refine ⟨by decide, ?_, ?_, ?_, ?_⟩
    · show (0 : Int) ≤ ((trimL l).length : Int)
      omega
    · show ((trimL l).length : Int) ≤ ((u32r l).length : Int)
      omega
    · exact u32r_one _
    · have hs : (((u32r l).take ((trimL l).length : Int).toNat).drop 0) = u32r (trimL l) := by
        rw [Int.toNat_natCast, List.drop_zero]
        conv => rhs; rw [h4]
        simp [u32r]
      refine ⟨?_, ?_, ?_, ?_, ?_⟩
      · intro c hc; cases hc
      · show ∀ c ∈ (((u32r l).take ((trimL l).length : Int).toNat).drop 0), c.length = 1
        rw [hs]; exact u32r_one _
      · show ([] : List (List FV)).length + (((u32r l).take ((trimL l).length : Int).toNat).drop 0).length ≤ _
        rw [hs, u32r_len]; simp; omega
      · show (([] : List (List FV)).length + (((u32r l).take ((trimL l).length : Int).toNat).drop 0).length) * 4 ≤ _
        rw [hs, u32r_len]; simp; omega
      · refine ⟨.inr rfl, res1 rfl ?_⟩
        show FV.sl .some ([] ++ (((u32r l).take ((trimL l).length : Int).toNat).drop 0)) = _
        rw [hs]; rfl
end Go.Proofs.Ytcdfbkpdemhcpaa
namespace Go.Proofs.Ytcdfbkpdemhcpaa
open Go.Pav
set_option maxRecDepth 10000
theorem same1_loop (a b : List Int) (hl : a.length = b.length) (hb : a.length ≤ 140737488355328) : ∀ (ra rb : List Int) (i : Nat), a.drop i = ra → b.drop i = rb → i ≤ a.length →
    CdL Try.prog Γ0 Try.f66.ntmps (fun _ => False) (nthLoop Try.f66 0) (Env.of [(0, .v (u32s a)), (1, .v (u32s b)), (12, .v (.int .i64 a.length)), (13, .v (.int .i64 i))]) ASt.nil
      (fun e A _ => (e = .exit 0 ∧ ra = rb) ∨ (e = .ret ∧ ra ≠ rb ∧ A.get 4 = some (.v (.bool false)))) := by
  intro ra
  induction ra with
  | nil =>
    intro rb i hra hrb hi
    have hil : i = a.length := by have := List.drop_eq_nil_iff.1 hra; omega
    have hrb' : rb = [] := by rw [← hrb]; exact List.drop_eq_nil_of_le (by omega)
    subst hrb'
    refine CdL.round TT_ok mixed ?_
    refine cnd_f (by simp; omega) ?_
    exact .inl ⟨rfl, rfl⟩
  | cons x ra ih =>
    intro rb i hra hrb hi
    have hil : i < a.length := by
      refine Nat.lt_of_not_le fun h => ?_
      rw [List.drop_eq_nil_of_le h] at hra; cases hra
    have hx : a[i]? = some x := by rw [← List.head?_drop, hra]; rfl
    obtain ⟨y, hy⟩ : ∃ y, b[i]? = some y := ⟨b[i], List.getElem?_eq_getElem (by omega)⟩
    have hra' : a.drop (i + 1) = ra := by rw [← List.tail_drop, hra]; rfl
    obtain ⟨rb', hrb'⟩ : ∃ rb', rb = y :: rb' := by
      rw [← hrb, List.drop_eq_getElem_cons (by omega)]
      rw [List.getElem?_eq_getElem (by omega)] at hy
      rw [Option.some.inj hy]
      exact ⟨_, rfl⟩
    subst hrb'
    have hrb2 : b.drop (i + 1) = rb' := by rw [← List.tail_drop, hrb]; rfl
    refine CdL.round TT_ok mixed ?_
    refine cnd_t (by simp; omega) ?_
    refine ⟨by omega, [.int .u32 x], u32r_get a i x hx, rfl, ?_⟩
    refine ⟨by omega, [.int .u32 y], u32r_get b i y hy, rfl, ?_⟩
    refine .mk (by decide +kernel) ?_
    refine cnd_mk (fun h => ?_) (fun h => ?_)
    · have h' : x ≠ y := by simpa using h
      exact .inr ⟨rfl, by simp [h'], rfl⟩
    · have h' : x = y := by simpa using h
      subst h'
      refine CdL.forget _ ASt.nil ⟨?_, trivial, trivial, rfl, rfl, rfl, rfl⟩ (fun _ h => h.elim) ((ih rb' (i + 1) hra' hrb2 (by omega)).mono ?_)
      · refine ⟨⟨_, rfl, Wk.refl _⟩, ⟨_, rfl, Wk.refl _⟩, ⟨_, rfl, Wk.refl _⟩, ⟨_, rfl, Wk.of_eq ?_⟩, trivial⟩
        rw [wrap_i64 (by omega) (by omega)]; rfl
      · rintro e A S (⟨h1, h2⟩ | ⟨h1, h2, h3⟩)
        · exact .inl ⟨h1, by rw [h2]⟩
        · exact .inr ⟨h1, by simpa using h2, h3⟩
theorem same1_fn (a b : List Int) : PFn Try.prog Γ0 66 [u32s a, u32s b] (.bool (decide (a = b))) := by
  refine PFn.intro TT_ok mixed Try.func66 rfl rfl (by rw [Try.ntmps66]; simp) fun hB => ?_
  have hla : a.length ≤ 140737488355328 := by have := hB.1; rw [u32s_eq] at this; have := this.1; rwa [u32r_len] at this
  have ea := u32r_len a
  have eb := u32r_len b
  refine cnd_mk (fun h => ?_) (fun h => ?_)
  · have h2 : (a.length : Int) ≠ (b.length : Int) := by simpa using h
    rw [decide_eq_false (fun e => h2 (by rw [e]))]
    exact ⟨.inr rfl, res1 rfl rfl⟩
  · have h2 : (a.length : Int) = (b.length : Int) := by simpa using h
    have h3 : a.length = b.length := by omega
    refine CdL.forget [(0, .v (u32s a)), (1, .v (u32s b)), (12, .v (.int .i64 a.length)), (13, .v (.int .i64 (0 : Nat)))] ASt.nil ⟨?_, trivial, trivial, rfl, rfl, rfl, rfl⟩ (fun _ h => h.elim) ((same1_loop a b h3 hla a b 0 rfl rfl (by omega)).mono ?_)
    · refine ⟨⟨_, rfl, Wk.refl _⟩, ⟨_, rfl, Wk.refl _⟩, ⟨_, rfl, Wk.of_eq ?_⟩, ⟨_, rfl, Wk.refl _⟩, trivial⟩
      show AV.v (.int .i64 ((u32r a).length : Int)) = _
      rw [ea]
    · rintro e A S (⟨rfl, h5⟩ | ⟨rfl, h5, h6⟩)
      · rw [decide_eq_true h5]
        exact ⟨.inr rfl, res1 rfl rfl⟩
      · rw [decide_eq_false h5]
        exact ⟨.inr rfl, res1 h6 rfl⟩
theorem rnormI_fn (neg : Bool) (l : List Int) (hl : l.length ≤ 4294967296) : PFn Try.prog Γ0 45 [encI neg l] (encI (normNeg neg l) (trimL l)) := by
  refine PFn.intro TT_ok mixed Try.func45 rfl rfl (by rw [Try.ntmps45]; simp) fun hB => ?_
  refine .pure (u32s (trimL l)) rfl (rnorm_fn l hl) ?_
  unfold normNeg
  cases neg
  · exact ⟨.inr rfl, _, rfl, rfl⟩
  · refine ⟨.inr rfl, _, rfl, ?_⟩
    show FV.agg [.bool (decide (((u32r (trimL l)).length : Int) > 0)), u32s (trimL l)] = _
    rw [u32r_len]
    simp [encI]
theorem sameI_fn (n n' : Bool) (l l' : List Int) : PFn Try.prog Γ0 44 [encI n l, encI n' l'] (.bool (n == n' && decide (l = l'))) := by
  refine PFn.intro TT_ok mixed Try.func44 rfl rfl (by rw [Try.ntmps44]; simp) fun hB => ?_
  refine cnd_mk (fun h => ?_) (fun h => ?_)
  · rw [h, Bool.true_and]
    refine .pure (.bool (decide (l = l'))) rfl (same1_fn l l') ?_
    exact ⟨.inr rfl, res1 rfl rfl⟩
  · rw [h, Bool.false_and]
    exact ⟨.inr rfl, res1 rfl rfl⟩
end Go.Proofs.Ytcdfbkpdemhcpaa
namespace Go.Proofs.Ytcdfbkpdemhcpaa
open Go.Pav
set_option maxRecDepth 10000
theorem trimL_idem (l : List Int) : trimL (trimL l) = trimL l := by
  have key : ∀ r : List Int, trimR (trimR r) = trimR r := by
    intro r
    induction r with
    | nil => rfl
    | cons x r ih =>
      have e : trimR (x :: r) = if x == 0 then trimR r else x :: r := by rw [trimR]
      rw [e]
      by_cases h : (x == 0) = true
      · rw [if_pos h]; exact ih
      · rw [if_neg h, e, if_neg h]
  simp only [trimL, List.reverse_reverse, key]
theorem cmpZ_zero (n n' : Bool) (l l' : List Int) : (cmpZ n l n' l' == 0) = (normNeg n l == normNeg n' l' && decide (trimL l = trimL l')) := by
  unfold cmpZ
  generalize normNeg n l = x
  generalize normNeg n' l' = y
  have e : ∀ a b : List Int, (cmpN (trimL a) (trimL b) == 0) = decide (trimL a = trimL b) := fun a b => by
    rw [Bool.eq_iff_iff, beq_iff_eq, cmpN_zero, trimL_idem, trimL_idem, decide_eq_true_eq]
  cases x <;> cases y <;> simp [e]
  exact eq_comm
end Go.Proofs.Ytcdfbkpdemhcpaa
namespace Go.Proofs.Ytcdfbkpdemhcpaa
open Go.Pav
set_option maxRecDepth 10000
def Ps (d d' : Dat) : Prop := PFn Try.prog Γ0 16 [encD d, encD d'] (.bool (sameD d d'))
/-- Its own two boxes. -/
def two (d d' : Dat) : ASt := ⟨[(2, (cellsD d).map .v), (3, (cellsD d').map .v)], [], [2, 3]⟩
theorem rsame_in (k n l b s it tl k' n' l' b' s' it' tl') (hlen : it.length = it'.length) (hb : it.length ≤ 140737488355328) (hP : ∀ x ∈ it, ∀ y ∈ it', Ps x y) : ∀ (ra rb : List Dat) (i : Nat), it.drop i = ra → it'.drop i = rb → i ≤ it.length →
    CdL Try.prog Γ0 Try.f16.ntmps (fun _ => False) (nthLoop Try.f16 0) (Env.of [(2, .ptr 2 0), (3, .ptr 3 0), (56, .v (.int .i64 it.length)), (57, .v (.int .i64 i))]) (two (.mk k n l b s it tl) (.mk k' n' l' b' s' it' tl'))
      (fun e A S => (e = .exit 0 ∧ eqL sameD ra rb = true ∧ A.get 2 = some (.ptr 2 0) ∧ A.get 3 = some (.ptr 3 0) ∧ S = two (.mk k n l b s it tl) (.mk k' n' l' b' s' it' tl')) ∨ (e = .ret ∧ eqL sameD ra rb = false ∧ A.get 4 = some (.v (.bool false)))) := by
  intro ra
  induction ra with
  | nil =>
    intro rb i hra hrb hi
    have hil : i = it.length := by have := List.drop_eq_nil_iff.1 hra; omega
    have hrb' : rb = [] := by rw [← hrb]; exact List.drop_eq_nil_of_le (by omega)
    subst hrb'
    refine CdL.round TT_ok mixed ?_
    refine cnd_f (by simp; omega) ?_
    exact .inl ⟨rfl, rfl, rfl, rfl, rfl⟩
  | cons x ra ih =>
    intro rb i hra hrb hi
    have hil : i < it.length := by
      refine Nat.lt_of_not_le fun h => ?_
      rw [List.drop_eq_nil_of_le h] at hra; cases hra
    have hx : it[i]? = some x := by rw [← List.head?_drop, hra]; rfl
    obtain ⟨y, hy⟩ : ∃ y, it'[i]? = some y := ⟨it'[i], List.getElem?_eq_getElem (by omega)⟩
    have hra' : it.drop (i + 1) = ra := by rw [← List.tail_drop, hra]; rfl
    obtain ⟨rb', hrb'⟩ : ∃ rb', rb = y :: rb' := by
      rw [← hrb, List.drop_eq_getElem_cons (by omega)]
      rw [List.getElem?_eq_getElem (by omega)] at hy
      rw [Option.some.inj hy]
      exact ⟨_, rfl⟩
    subst hrb'
    have hrb2 : it'.drop (i + 1) = rb' := by rw [← List.tail_drop, hrb]; rfl
    have hf := hP x (List.mem_of_getElem? hx) y (List.mem_of_getElem? hy)
    have hgx := rowsD_get it i x hx
    have hgy := rowsD_get it' i y hy
    have hcx := cellsD_len x
    have hcy := cellsD_len y
    refine CdL.round TT_ok mixed ?_
    refine cnd_t (by simp; omega) ?_
    refine ⟨by omega, cellsD x, hgx, hcx, ?_⟩
    obtain ⟨k1, n1, l1, b1, s1, i1, t1⟩ := x
    refine ⟨by omega, cellsD y, hgy, hcy, ?_⟩
    obtain ⟨k2, n2, l2, b2, s2, i2, t2⟩ := y
    refine .pure (.bool (sameD (.mk k1 n1 l1 b1 s1 i1 t1) (.mk k2 n2 l2 b2 s2 i2 t2))) rfl hf ?_
    refine .mk (by decide +kernel) ?_
    unfold eqL
    refine cnd_mk (fun h => ?_) (fun h => ?_)
    · rw [Bool.not_eq_true'] at h
      rw [h]
      exact .inr ⟨rfl, rfl, rfl⟩
    · rw [Bool.not_eq_false'] at h
      rw [h, Bool.true_and]
      refine CdL.forget _ (two (.mk k n l b s it tl) (.mk k' n' l' b' s' it' tl')) ⟨?_, ?_, trivial, rfl, rfl, rfl, rfl⟩ (fun _ h => h.elim) (ih rb' (i + 1) hra' hrb2 (by omega))
      · refine ⟨⟨_, rfl, Wk.refl _⟩, ⟨_, rfl, Wk.refl _⟩, ⟨_, rfl, Wk.refl _⟩, ⟨_, rfl, Wk.of_eq ?_⟩, trivial⟩
        rw [wrap_i64 (by omega) (by omega)]; rfl
      · exact ⟨⟨_, rfl, Wks.refl _⟩, ⟨_, rfl, Wks.refl _⟩, trivial⟩
theorem rsame_tl (k n l b s it tl k' n' l' b' s' it' tl') (hlen : tl.length = tl'.length) (hb : tl.length ≤ 140737488355328) (hP : ∀ x ∈ tl, ∀ y ∈ tl', Ps x y) : ∀ (ra rb : List Dat) (i : Nat), tl.drop i = ra → tl'.drop i = rb → i ≤ tl.length →
    CdL Try.prog Γ0 Try.f16.ntmps (fun _ => False) (nthLoop Try.f16 1) (Env.of [(2, .ptr 2 0), (3, .ptr 3 0), (75, .v (.int .i64 tl.length)), (76, .v (.int .i64 i))]) (two (.mk k n l b s it tl) (.mk k' n' l' b' s' it' tl'))
      (fun e A S => (e = .exit 2 ∧ eqL sameD ra rb = true ∧ A.get 2 = some (.ptr 2 0) ∧ A.get 3 = some (.ptr 3 0) ∧ S = two (.mk k n l b s it tl) (.mk k' n' l' b' s' it' tl')) ∨ (e = .ret ∧ eqL sameD ra rb = false ∧ A.get 4 = some (.v (.bool false)))) := by
  intro ra
  induction ra with
  | nil =>
    intro rb i hra hrb hi
    have hil : i = tl.length := by have := List.drop_eq_nil_iff.1 hra; omega
    have hrb' : rb = [] := by rw [← hrb]; exact List.drop_eq_nil_of_le (by omega)
    subst hrb'
    refine CdL.round TT_ok mixed ?_
    refine cnd_f (by simp; omega) ?_
    exact .inl ⟨rfl, rfl, rfl, rfl, rfl⟩
  | cons x ra ih =>
    intro rb i hra hrb hi
    have hil : i < tl.length := by
      refine Nat.lt_of_not_le fun h => ?_
      rw [List.drop_eq_nil_of_le h] at hra; cases hra
    have hx : tl[i]? = some x := by rw [← List.head?_drop, hra]; rfl
    obtain ⟨y, hy⟩ : ∃ y, tl'[i]? = some y := ⟨tl'[i], List.getElem?_eq_getElem (by omega)⟩
    have hra' : tl.drop (i + 1) = ra := by rw [← List.tail_drop, hra]; rfl
    obtain ⟨rb', hrb'⟩ : ∃ rb', rb = y :: rb' := by
      rw [← hrb, List.drop_eq_getElem_cons (by omega)]
      rw [List.getElem?_eq_getElem (by omega)] at hy
      rw [Option.some.inj hy]
      exact ⟨_, rfl⟩
    subst hrb'
    have hrb2 : tl'.drop (i + 1) = rb' := by rw [← List.tail_drop, hrb]; rfl
    have hf := hP x (List.mem_of_getElem? hx) y (List.mem_of_getElem? hy)
    have hgx := rowsD_get tl i x hx
    have hgy := rowsD_get tl' i y hy
    have hcx := cellsD_len x
    have hcy := cellsD_len y
    refine CdL.round TT_ok mixed ?_
    refine cnd_t (by simp; omega) ?_
    refine ⟨by omega, cellsD x, hgx, hcx, ?_⟩
    obtain ⟨k1, n1, l1, b1, s1, i1, t1⟩ := x
    refine ⟨by omega, cellsD y, hgy, hcy, ?_⟩
    obtain ⟨k2, n2, l2, b2, s2, i2, t2⟩ := y
    refine .pure (.bool (sameD (.mk k1 n1 l1 b1 s1 i1 t1) (.mk k2 n2 l2 b2 s2 i2 t2))) rfl hf ?_
    refine .mk (by decide +kernel) ?_
    unfold eqL
    refine cnd_mk (fun h => ?_) (fun h => ?_)
    · rw [Bool.not_eq_true'] at h
      rw [h]
      exact .inr ⟨rfl, rfl, rfl⟩
    · rw [Bool.not_eq_false'] at h
      rw [h, Bool.true_and]
      refine CdL.forget _ (two (.mk k n l b s it tl) (.mk k' n' l' b' s' it' tl')) ⟨?_, ?_, trivial, rfl, rfl, rfl, rfl⟩ (fun _ h => h.elim) (ih rb' (i + 1) hra' hrb2 (by omega))
      · refine ⟨⟨_, rfl, Wk.refl _⟩, ⟨_, rfl, Wk.refl _⟩, ⟨_, rfl, Wk.refl _⟩, ⟨_, rfl, Wk.of_eq ?_⟩, trivial⟩
        rw [wrap_i64 (by omega) (by omega)]; rfl
      · exact ⟨⟨_, rfl, Wks.refl _⟩, ⟨_, rfl, Wks.refl _⟩, trivial⟩
end Go.Proofs.Ytcdfbkpdemhcpaa
namespace Go.Pav
open Go.RowKit
section
variable {P : Program} {TT : TypeId → Option TI} {Γ : Glo} {N : Nat} {Kp : Nat → Prop}
theorem CdL.roundC {c : Code} {A : Env} {S : ASt} {Q : Exit → Env → ASt → Prop} (h : Cd P Γ N Kp c A S (seqK (CdL P Γ N Kp c) Q)) : CdL P Γ N Kp c A S Q := fun M ρ w a hTR hG hSt => by
  refine wpL_unroll (wp_mono (h M ρ w a hTR hG hSt) fun e a1 w1 hp => ?_)
  obtain ⟨A1, S1, M1, ρ1, h1, h2, h3, h4⟩ := hp
  cases e with
  | normal =>
    intro b k cs
    obtain ⟨e2, a2, w2, q2, r2⟩ := h1 M1 ρ1 w1 a1 h4 (hG.mono h2.fr.mem) h2.st b k cs
    exact ⟨e2, a2, w2, Post.trans h2 h3 q2, r2⟩
  | _ => exact ⟨A1, S1, M1, ρ1, h1, h2, h3, h4⟩
/-- A round's end: it goes on as y. -/
def Next {α : Type} (m : α → Nat) (I : α → Prop) (E : α → List (Nat × AV)) (S0 : α → ASt) (Q : α → CodeK) (x : α) (A : Env) (S : ASt) (Q' : CodeK) : Prop :=
  ∃ y, m y < m x ∧ I y ∧ Covers A S (E y) (S0 y) ∧ ∀ e A S, Q y e A S → Q' e A S
/-- A loop: I, E, S0 hold at its head, m falls; Q is what it leaves. -/
theorem CdL.wf (hT : TTok P TT) (hm : P.follows .mixedOrders = true) {c : Code} {α : Type} (m : α → Nat) (I : α → Prop) (E : α → List (Nat × AV)) (S0 : α → ASt) (Q : α → CodeK) (hK : ∀ x n, Kp n → (S0 x).U.contains n = true)
    (h : ∀ x, I x → awp P TT Γ N Kp c (Env.of (E x)) (S0 x) (seqK (Next m I E S0 Q x) (Q x))) : ∀ x, I x → CdL P Γ N Kp c (Env.of (E x)) (S0 x) (Q x) := by
  intro x hx
  generalize hn : m x = n
  induction n using Nat.strongRecOn generalizing x with
  | _ n ih =>
    refine CdL.roundC ((awp_ok hT hm _ _ _ _ (h x hx)).mono ?_)
    intro e A S hq
    cases e with
    | normal =>
      obtain ⟨y, hlt, hy, hc, hQ⟩ := hq
      exact CdL.forget (E y) (S0 y) hc (hK y) ((ih _ (by omega) y hy rfl).mono hQ)
    | _ => exact hq
/-- A loop, whose round's end is shown by hand. -/
theorem CdL.wf2 (hT : TTok P TT) (hm : P.follows .mixedOrders = true) {c : Code} {α : Type} (m : α → Nat) (I : α → Prop) (E : α → List (Nat × AV)) (S0 : α → ASt) (Q : α → CodeK)
    (h : ∀ x, I x → awp P TT Γ N Kp c (Env.of (E x)) (S0 x) (seqK (fun A S Q' => ∃ y, m y < m x ∧ I y ∧ (CdL P Γ N Kp c (Env.of (E y)) (S0 y) (Q y) → CdL P Γ N Kp c A S Q')) (Q x))) : ∀ x, I x → CdL P Γ N Kp c (Env.of (E x)) (S0 x) (Q x) := by
  intro x hx
  generalize hn : m x = n
  induction n using Nat.strongRecOn generalizing x with
  | _ n ih =>
    refine CdL.roundC ((awp_ok hT hm _ _ _ _ (h x hx)).mono ?_)
    intro e A S hq
    cases e with
    | normal =>
      obtain ⟨y, hlt, hy, hc⟩ := hq
      exact hc (ih _ (by omega) y hy rfl)
    | _ => exact hq
/-- Into a loop. -/
theorem CdL.enter {c : Code} {A : Env} {S : ASt} {Q Q' : CodeK} {L : List (Nat × AV)} {S0 : ASt} (hc : CdL P Γ N Kp c (Env.of L) S0 Q) (h : Covers A S L S0) (hK : ∀ n, Kp n → S0.U.contains n = true) (hq : ∀ e A S, Q e A S → Q' e A S) : CdL P Γ N Kp c A S Q' :=
  CdL.forget L S0 h hK (hc.mono hq)
end
/-- A function's end, by what is known of it. -/
theorem EndG.tmp {TT : TypeId → Option TI} {fn : Func} {r : AV} {S S' S1 : ASt} {A : Env} {e : Exit} {t : Nat} (he : e = .normal ∨ e = .ret) (hr : fn.results.toList = [.tmp t]) (hU : S.U.all (fun n => S'.U.contains n) = true) (hc : Covers A S1 [(t, r)] S') : EndG TT fn r S S' e A S1 := by
  obtain ⟨⟨x, hx, hw⟩, _⟩ := hc.env'
  exact ⟨he, hU, [x], by rw [hr]; simp [resAll, resOne, hx], ⟨⟨⟨x, rfl, hw⟩, trivial⟩, hc.box', hc.tok', hc.names', hc.inL, hc.inH, hc.inT⟩⟩
theorem Covers.put {A : Env} {S S0 : ASt} {t : Nat} {x : AV} (h : Covers A S [] S0) (hx : x.within S0.U = true) : Covers (A.put (some t) x) S [(t, x)] S0 :=
  ⟨⟨⟨x, by rw [Env.get_put]; exact if_pos rfl, Wk.refl _⟩, trivial⟩, h.box', h.tok', h.names', by simp [hx], h.inH, h.inT⟩
/-- The same, with the numbers' types. -/
theorem Wk.int {k : IntKind} {a b : Int} (h : a = b) : Wk (.v (.int k a)) (.v (.int k b)) := by subst h; exact Wk.refl _
/-- A call with more that is known. -/
theorem PFn.args {P : Program} {Γ : Glo} {f : FuncId} {args args' : List FV} {r : FV} (h : PFn P Γ f args r) (hw : FWs args' args) : PFn P Γ f args' r :=
  ⟨h.1, fun M w vals h1 h2 h3 => h.2 M w vals h1 h2 (FWs.ok hw h3)⟩
theorem allV_map : ∀ xs : List FV, allV (xs.map AV.v) = some xs
  | [] => rfl
  | x :: r => by simp only [List.map_cons, allV, allV_map r]; rfl
theorem drop_lt {α : Type} {l : List α} {i : Nat} {x : α} {r : List α} (h : l.drop i = x :: r) : i < l.length ∧ l[i]? = some x ∧ l.drop (i + 1) = r := by
  have hi : i < l.length := Nat.lt_of_not_le fun h' => by rw [List.drop_eq_nil_of_le h'] at h; cases h
  refine ⟨hi, ?_, ?_⟩
  · rw [← List.head?_drop, h]; rfl
  · rw [← List.tail_drop, h]; rfl
theorem drop_nil {α : Type} {l : List α} {i : Nat} (h : l.drop i = []) : l.length ≤ i := List.drop_eq_nil_iff.1 h
end Go.Pav
namespace Go.Pav
def Dat.kind : Dat → Int | .mk k _ _ _ _ _ _ => k
def Dat.neg : Dat → Bool | .mk _ n _ _ _ _ _ => n
def Dat.limbs : Dat → List Int | .mk _ _ l _ _ _ _ => l
def Dat.b : Dat → Bool | .mk _ _ _ b _ _ _ => b
def Dat.str : Dat → ByteArray | .mk _ _ _ _ s _ _ => s
def Dat.items : Dat → List Dat | .mk _ _ _ _ _ i _ => i
def Dat.tail : Dat → List Dat | .mk _ _ _ _ _ _ t => t
theorem kind_mk (k n l b s i t) : (Dat.mk k n l b s i t).kind = k := rfl
theorem str_mk (k n l b s i t) : (Dat.mk k n l b s i t).str = s := rfl
theorem items_mk (k n l b s i t) : (Dat.mk k n l b s i t).items = i := rfl
theorem tail_mk (k n l b s i t) : (Dat.mk k n l b s i t).tail = t := rfl
def Dat.zero : Dat := .mk 0 false [] false ⟨#[]⟩ [] []
def seqS (a b : ByteArray) : Bool := a.toList == b.toList
def sEmpty : ByteArray := ⟨#[]⟩
def sDots : ByteArray := ⟨#[46, 46, 46]⟩
def sAny : ByteArray := ⟨#[95]⟩

/-! ### may a datum be? -/
def goodI (n : Bool) (l : List Int) : Bool := match l.getLast? with | none => !n | some x => x != 0
mutual
def goodD : Dat → Bool
  | .mk k n l b s it tl =>
    bif k == 0 then !n && l.isEmpty && !b && seqS s sEmpty && it.isEmpty && tl.isEmpty
    else bif k == 1 then !b && seqS s sEmpty && it.isEmpty && tl.isEmpty && goodI n l && decide (l.length ≤ 64)
    else bif k == 2 then !n && l.isEmpty && seqS s sEmpty && it.isEmpty && tl.isEmpty
    else bif k == 3 then !n && l.isEmpty && !b && it.isEmpty && tl.isEmpty && !seqS s sEmpty && decide (s.size ≤ 64)
    else bif k == 4 then !n && l.isEmpty && !b && it.isEmpty && tl.isEmpty && decide (s.size ≤ 1024)
    else bif k == 5 then !n && l.isEmpty && !b && seqS s sEmpty && !(decide (1 < tl.length) || tl.length == 1 && (it.isEmpty || headK tl == 5)) && goodL it && goodL tl
    else false
def goodL : List Dat → Bool
  | [] => true
  | d :: r => goodD d && goodL r
def headK : List Dat → Int
  | [] => 0
  | .mk k _ _ _ _ _ _ :: _ => k
end
def GoodD (d : Dat) : Bool := decide (0 ≤ withinD d 5000 200) && goodD d

/-! ### patterns -/
structure LikeM where
  name : ByteArray
  all : List ByteArray
def isSym (d : Dat) (s : ByteArray) : Bool := d.kind == 3 && seqS d.str s
def findM (L : List LikeM) (s : ByteArray) : Option Nat := L.findIdx? fun l => seqS l.name s
def againM (L : List LikeM) (d : Dat) : Bool := isSym d sDots && (findM L sDots).isNone
def varM (L : List LikeM) (d : Dat) : Bool := d.kind == 3 && !seqS d.str sDots && !seqS d.str sAny && (findM L d.str).isNone
structure PlaceM where
  name : ByteArray
  deep : Int
def nextAgain (L : List LikeM) (r : List Dat) : Bool := match r with | [] => false | y :: _ => againM L y
mutual
def placesM (L : List LikeM) : Dat → Int → List PlaceM
  | .mk k n l b s it tl, deep => bif varM L (.mk k n l b s it tl) then [⟨s, deep⟩] else placesI L it deep ++ placesT L tl deep
def placesI (L : List LikeM) : List Dat → Int → List PlaceM
  | [], _ => []
  | x :: r, deep => placesM L x (bif nextAgain L r then deep + 1 else deep) ++ placesI L r deep
def placesT (L : List LikeM) : List Dat → Int → List PlaceM
  | [], _ => []
  | x :: r, deep => placesM L x deep ++ placesT L r deep
end
theorem placesM_mk (L k n l b s it tl deep) : placesM L (.mk k n l b s it tl) deep = bif varM L (.mk k n l b s it tl) then [⟨s, deep⟩] else placesI L it deep ++ placesT L tl deep := by rw [placesM]
mutual
def wrongM (L : List LikeM) : Dat → Bool
  | .mk k n l b s it tl => againM L (.mk k n l b s it tl) || wrongI L it true false || wrongT L tl
/-- first: nothing stands ahead; seen: a ... stood there. -/
def wrongI (L : List LikeM) : List Dat → Bool → Bool → Bool
  | [], _, _ => false
  | x :: r, first, seen => bif againM L x then (seen || first || wrongI L r false true) else wrongM L x || wrongI L r false seen
def wrongT (L : List LikeM) : List Dat → Bool
  | [] => false
  | x :: r => wrongM L x || wrongT L r
end
def dupM : List PlaceM → List ByteArray → Bool
  | [], _ => false
  | x :: r, seen => seen.any (fun s => seqS s x.name) || dupM r (seen ++ [x.name])
def checkM (L : List LikeM) (p : Dat) : Int := bif !GoodD p then 12 else bif dupM (placesM L p 0) [] then 5 else bif wrongM L p then 5 else 0
def addName (l : List ByteArray) (s : ByteArray) : List ByteArray := bif l.any (fun x => seqS x s) then l else l ++ [s]
def namesM (L : List LikeM) (p : Dat) : List ByteArray := bif GoodD p then (placesM L p 0).foldl (fun l x => addName l x.name) [] else []
def depthOf (l : List PlaceM) (s : ByteArray) : Int := match l with | [] => -1 | x :: r => bif seqS x.name s then x.deep else depthOf r s
def depthM (L : List LikeM) (p : Dat) (s : ByteArray) : Int := bif GoodD p then depthOf (placesM L p 0) s else -1

/-! ### what matches -/
inductive TreeM where
  | mk (d : Dat) (many : Bool) (kids : List TreeM)
structure BindM where
  name : ByteArray
  tree : TreeM
def firstOr {α : Type} (gs : List (Dat → α)) (z : α) (q : Dat) : α := match gs with | [] => z | g :: _ => g q
abbrev ResM := List BindM × Bool
def ResM.andThen (x : ResM) (y : List BindM × Bool) : ResM := bif x.2 then (x.1 ++ y.1, y.2) else (x.1, false)
/-- Patterns, data, one by one. -/
def allM : List (Dat → ResM) → List Dat → ResM
  | [], _ => ([], true)
  | _ :: _, [] => ([], false)
  | f :: fs, d :: ds => (f d).andThen (allM fs ds)
/-- What is left of a list behind n items. -/
def restM (d : Dat) (n : Nat) : Dat := bif n == d.items.length && !d.tail.isEmpty then d.tail.headD .zero else .mk 5 false [] false sEmpty (d.items.drop n) d.tail
def addKids : List TreeM → List BindM → List TreeM
  | .mk d m ks :: ts, b :: bs => .mk d m (ks ++ [b.tree]) :: addKids ts bs
  | ts, _ => ts
/-- An item that comes again, over data: the trees, and whether all matched. -/
def againsM (f : Dat → ResM) : List Dat → List TreeM → List TreeM × Bool
  | [], ts => (ts, true)
  | x :: xs, ts => bif (f x).2 then againsM f xs (addKids ts (f x).1) else (ts, false)
def bindsOf (ps : List PlaceM) (ts : List TreeM) : List BindM := (ps.zip ts).map fun q => ⟨q.1.name, q.2⟩
def rowM (L : List LikeM) (it tl : List Dat) (fs gs : List (Dat → ResM)) (at_ : Nat) (d : Dat) : ResM :=
  let ahead := at_ - 1
  let behind := fs.length - (at_ + 1)
  bif decide (d.items.length < ahead + behind) || (tl.isEmpty && !d.tail.isEmpty) then ([], false) else
  ResM.andThen (allM (fs.take ahead) d.items) (
    let ps := placesM L (it.getD (at_ - 1) .zero) 0
    let n := d.items.length - behind
    let r := againsM (fs.getD (at_ - 1) fun _ => ([], false)) ((d.items.take n).drop ahead) (ps.map fun _ => .mk .zero true [])
    bif r.2 then ResM.andThen (bindsOf ps r.1, true) (ResM.andThen (allM (fs.drop (at_ + 1)) (d.items.drop n))
      (firstOr gs ([], true) (d.tail.headD (.mk 5 false [] false sEmpty [] []))))
    else ([], false))
def listM (L : List LikeM) (it tl : List Dat) (fs gs : List (Dat → ResM)) (d : Dat) : ResM :=
  match it.findIdx? (againM L) with
  | some (i + 1) => rowM L it tl fs gs (i + 1) d
  | _ =>
    match gs with
    | [] => bif d.items.length == it.length && d.tail.isEmpty then allM fs d.items else ([], false)
    | g :: _ => bif decide (d.items.length < it.length) then ([], false) else ResM.andThen (allM fs d.items) (g (restM d it.length))
def likeAll (L : List LikeM) (i : Nat) : List ByteArray := match L[i]? with | some l => l.all | none => []
/-- Another one, alike: of few. -/
def copyD (d : Dat) : Dat := bif decide (0 ≤ withinD d 100000 10000) then d else .zero
def nodeM (S : Dat → Dat → Bool) (L : List LikeM) (p : Dat) (fs gs : List (Dat → ResM)) (d : Dat) : ResM :=
  bif p.kind == 3 then
    match findM L p.str with
    | some i => ([], d.kind == 3 && (likeAll L i).any fun s => seqS d.str s)
    | none => bif seqS p.str sAny then ([], true) else ([⟨p.str, .mk (copyD d) false []⟩], true)
  else bif p.kind == 5 then bif d.kind == 5 then listM L p.items p.tail fs gs d else ([], false)
  else ([], S p d)
mutual
def matchM (S : Dat → Dat → Bool) (L : List LikeM) : Dat → Dat → ResM
  | .mk k n l b s it tl => nodeM S L (.mk k n l b s it tl) (matchMs S L it) (matchMs S L tl)
def matchMs (S : Dat → Dat → Bool) (L : List LikeM) : List Dat → List (Dat → ResM)
  | [] => []
  | p :: r => matchM S L p :: matchMs S L r
end
theorem matchMs_eq (S L) : ∀ l, matchMs S L l = l.map (matchM S L)
  | [] => by unfold matchMs; rfl
  | p :: r => by unfold matchMs; rw [matchMs_eq S L r]; rfl
theorem matchM_mk (S L k n l b s it tl) : matchM S L (.mk k n l b s it tl) = nodeM S L (.mk k n l b s it tl) (matchMs S L it) (matchMs S L tl) := by rw [matchM]
/-- Match: the binds, or none. -/
def MatchM (S : Dat → Dat → Bool) (L : List LikeM) (p d : Dat) : Option (List BindM) :=
  bif checkM L p != 0 || !GoodD d then none else bif (matchM S L p d).2 then some (matchM S L p d).1 else none

/-! ### the document's -/
abbrev ResR := Option (List BindM)
def ResR.andThen (x y : ResR) : ResR := match x with | none => none | some a => match y with | none => none | some b => some (a ++ b)
def allR : List (Dat → ResR) → List Dat → ResR
  | [], _ => some []
  | _ :: _, [] => none
  | f :: fs, d :: ds => ResR.andThen (f d) (allR fs ds)
/-- The rows of an item that comes again. -/
def rowsR (f : Dat → ResR) : List Dat → Option (List (List BindM))
  | [] => some []
  | x :: xs => match f x with | none => none | some l => match rowsR f xs with | none => none | some r => some (l :: r)
def treeAt (k : Nat) (rows : List (List BindM)) : TreeM := .mk .zero true (rows.map fun r => match r[k]? with | some b => b.tree | none => .mk .zero false [])
def bindsR (ps : List PlaceM) (k : Nat) (rows : List (List BindM)) : List BindM := match ps with | [] => [] | x :: r => ⟨x.name, treeAt k rows⟩ :: bindsR r (k + 1) rows
def manyR (L : List LikeM) (it tl : List Dat) (fs gs : List (Dat → ResR)) (at_ : Nat) (d : Dat) : ResR :=
  let ahead := at_ - 1
  let behind := fs.length - (at_ + 1)
  bif d.kind != 5 || decide (d.items.length < ahead + behind) then none else
  bif tl.isEmpty && !d.tail.isEmpty then none else
  ResR.andThen (allR (fs.take ahead) d.items) (
    let ps := placesM L (it.getD (at_ - 1) .zero) 0
    let n := d.items.length - behind
    match rowsR (fs.getD (at_ - 1) fun _ => none) ((d.items.take n).drop ahead) with
    | none => none
    | some rows => ResR.andThen (some (bindsR ps 0 rows)) (ResR.andThen (allR (fs.drop (at_ + 1)) (d.items.drop n))
      (firstOr gs (some []) (d.tail.headD (.mk 5 false [] false sEmpty [] [])))))
/-- The last item that comes again. -/
def lastAt (L : List LikeM) : List Dat → Nat → Option Nat → Option Nat
  | [], _, a => a
  | x :: r, i, a => lastAt L r (i + 1) (bif againM L x then some i else a)
def nodeR (S : Dat → Dat → Bool) (L : List LikeM) (p : Dat) (fs gs : List (Dat → ResR)) (d : Dat) : ResR :=
  bif p.kind == 3 then
    match findM L p.str with
    | some i => bif (likeAll L i).any (fun s => isSym d s) then some [] else none
    | none => bif seqS p.str sAny then some [] else some [⟨p.str, .mk d false []⟩]
  else bif p.kind != 5 then (bif S p d then some [] else none)
  else match lastAt L p.items 0 none with
  | some at_ => manyR L p.items p.tail fs gs at_ d
  | none =>
    let n := p.items.length
    bif n == 0 && p.tail.isEmpty then (bif d.kind == 5 && d.items.isEmpty then some [] else none)
    else bif d.kind != 5 || decide (d.items.length < n) || (p.tail.isEmpty && (d.items.length != n || !d.tail.isEmpty)) then none
    else ResR.andThen (allR fs d.items) (firstOr gs (some []) (restM d n))
mutual
def matchR (S : Dat → Dat → Bool) (L : List LikeM) : Dat → Dat → ResR
  | .mk k n l b s it tl => nodeR S L (.mk k n l b s it tl) (matchRs S L it) (matchRs S L tl)
def matchRs (S : Dat → Dat → Bool) (L : List LikeM) : List Dat → List (Dat → ResR)
  | [] => []
  | p :: r => matchR S L p :: matchRs S L r
end
theorem matchRs_eq (S L) : ∀ l, matchRs S L l = l.map (matchR S L)
  | [] => by unfold matchRs; rfl
  | p :: r => by unfold matchRs; rw [matchRs_eq S L r]; rfl
theorem matchR_mk (S L k n l b s it tl) : matchR S L (.mk k n l b s it tl) = nodeR S L (.mk k n l b s it tl) (matchRs S L it) (matchRs S L tl) := by rw [matchR]
def MatchR (S : Dat → Dat → Bool) (L : List LikeM) (p d : Dat) : ResR := bif checkM L p != 0 || !GoodD d then none else matchR S L p d
end Go.Pav
namespace Go.Pav
theorem seqS_iff (a b : ByteArray) : seqS a b = true ↔ a.toList = b.toList := by unfold seqS; simp
theorem seqS_symm (a b : ByteArray) : seqS a b = seqS b a := by
  rw [Bool.eq_iff_iff, seqS_iff, seqS_iff]
  exact eq_comm
theorem seqS_refl (a : ByteArray) : seqS a a = true := by unfold seqS; simp
theorem seqS_trans {a b c : ByteArray} (h : seqS a b = true) (k : seqS b c = true) : seqS a c = true := by rw [seqS_iff] at *; exact h.trans k

/-! ### sizes and depths -/
mutual
def sizeD : Dat → Nat
  | .mk _ _ _ _ _ i t => sizeL i + sizeL t + 1
def sizeL : List Dat → Nat
  | [] => 0
  | d :: r => sizeD d + sizeL r
end
mutual
def depthD : Dat → Nat
  | .mk _ _ _ _ _ i t => max (depthL i) (depthL t) + 1
def depthL : List Dat → Nat
  | [] => 0
  | d :: r => max (depthD d) (depthL r)
end
theorem sizeD_pos (d : Dat) : 1 ≤ sizeD d := by cases d; unfold sizeD; omega
theorem sizeL_mem {l : List Dat} {d : Dat} (h : d ∈ l) : sizeD d ≤ sizeL l := by
  induction l with
  | nil => cases h
  | cons e r ih =>
    unfold sizeL
    rcases List.mem_cons.1 h with rfl | h
    · omega
    · have := ih h; omega
theorem depthL_mem {l : List Dat} {d : Dat} (h : d ∈ l) : depthD d ≤ depthL l := by
  induction l with
  | nil => cases h
  | cons e r ih =>
    unfold depthL
    rcases List.mem_cons.1 h with rfl | h
    · omega
    · have := ih h; omega
theorem sizeL_len (l : List Dat) : l.length ≤ sizeL l := by
  induction l with
  | nil => simp [sizeL]
  | cons e r ih => unfold sizeL; have := sizeD_pos e; simp; omega
theorem sizeL_append (a b : List Dat) : sizeL (a ++ b) = sizeL a + sizeL b := by
  induction a with
  | nil => simp [sizeL]
  | cons e r ih => simp only [List.cons_append, sizeL]; omega
theorem depthL_append (a b : List Dat) : depthL (a ++ b) = max (depthL a) (depthL b) := by
  induction a with
  | nil => simp [depthL]
  | cons e r ih => simp only [List.cons_append, depthL]; omega
theorem within_is : ∀ d, ∀ left deep : Int, 0 ≤ left → withinD d left deep = if (sizeD d : Int) ≤ left ∧ (depthD d : Int) ≤ deep then left - sizeD d else -1 := by
  refine Dat.ind_ fun k n l b s i t hi ht => ?_
  have key : ∀ l : List Dat, (∀ d ∈ l, ∀ left deep : Int, 0 ≤ left → withinD d left deep = if (sizeD d : Int) ≤ left ∧ (depthD d : Int) ≤ deep then left - sizeD d else -1) →
      ∀ left deep : Int, 0 ≤ left → 0 ≤ deep → withinL l left deep = if (sizeL l : Int) ≤ left ∧ (depthL l : Int) ≤ deep then left - sizeL l else -1 := by
    intro l
    induction l with
    | nil => intro _ left deep h hd; rw [withinL_nil]; simp [sizeL, depthL]; omega
    | cons d r ih =>
      intro h left deep h0 hd
      rw [withinL_cons, h d (by simp) left deep h0]
      have hp := sizeD_pos d
      unfold sizeL depthL
      by_cases hc : (sizeD d : Int) ≤ left ∧ (depthD d : Int) ≤ deep
      · rw [if_pos hc, if_neg (by omega), ih (fun e he => h e (by simp [he])) _ _ (by omega) hd]
        by_cases hc2 : (sizeL r : Int) ≤ left - sizeD d ∧ (depthL r : Int) ≤ deep
        · rw [if_pos hc2, if_pos (by omega)]; omega
        · rw [if_neg hc2, if_neg (by omega)]
      · rw [if_neg hc, if_pos (by omega), if_neg (by omega)]
  intro left deep h0
  rw [withinD_mk]
  unfold sizeD depthD
  by_cases hc : left - 1 < 0 ∨ deep < 1
  · rw [if_pos hc, if_neg (by omega)]
  · rw [if_neg hc, key i hi _ _ (by omega) (by omega)]
    by_cases h1 : (sizeL i : Int) ≤ left - 1 ∧ (depthL i : Int) ≤ deep - 1
    · rw [if_pos h1, if_neg (by omega), key t ht _ _ (by omega) (by omega)]
      by_cases h2 : (sizeL t : Int) ≤ left - 1 - sizeL i ∧ (depthL t : Int) ≤ deep - 1
      · rw [if_pos h2, if_pos (by omega)]; omega
      · rw [if_neg h2, if_neg (by omega)]
    · rw [if_neg h1, if_pos (by omega), if_neg (by omega)]
theorem within_nonneg (d : Dat) (left deep : Int) (h : 0 ≤ left) : 0 ≤ withinD d left deep ↔ (sizeD d : Int) ≤ left ∧ (depthD d : Int) ≤ deep := by
  rw [within_is d left deep h]
  split
  · rename_i hc; constructor
    · intro _; exact hc
    · intro _; omega
  · rename_i hc; constructor
    · intro hh; omega
    · intro hh; exact absurd hh hc
theorem GoodD_iff (d : Dat) : GoodD d = true ↔ sizeD d ≤ 5000 ∧ depthD d ≤ 200 ∧ goodD d = true := by
  unfold GoodD
  rw [Bool.and_eq_true, decide_eq_true_eq, within_nonneg d _ _ (by omega)]
  constructor
  · rintro ⟨⟨h1, h2⟩, h3⟩
    exact ⟨by omega, by omega, h3⟩
  · rintro ⟨h1, h2, h3⟩
    exact ⟨⟨by omega, by omega⟩, h3⟩
theorem copyD_few (d : Dat) (h : sizeD d ≤ 100000) (h2 : depthD d ≤ 10000) : copyD d = d := by
  unfold copyD
  rw [decide_eq_true ((within_nonneg d _ _ (by omega)).2 (by omega))]
  rfl

/-! ### what is good -/
theorem goodL_mem {l : List Dat} (h : goodL l = true) : ∀ d ∈ l, goodD d = true := by
  induction l with
  | nil => intro d hd; cases hd
  | cons e r ih =>
    unfold goodL at h
    rw [Bool.and_eq_true] at h
    intro d hd
    rcases List.mem_cons.1 hd with rfl | hd
    · exact h.1
    · exact ih h.2 d hd
theorem goodL_of {l : List Dat} (h : ∀ d ∈ l, goodD d = true) : goodL l = true := by
  induction l with
  | nil => unfold goodL; rfl
  | cons e r ih =>
    unfold goodL
    rw [h e (by simp), ih fun d hd => h d (by simp [hd])]
    rfl
/-- A good datum that is no list has nothing in it. -/
theorem good_leaf {k n l b s it tl} (h : goodD (.mk k n l b s it tl) = true) (hk : k ≠ 5) : it = [] ∧ tl = [] := by
  unfold goodD at h
  by_cases h0 : k = 0
  · subst h0; simp at h; exact ⟨h.1.2, h.2⟩
  by_cases h1 : k = 1
  · subst h1; simp at h; exact ⟨h.1.1.1.2, h.1.1.2⟩
  by_cases h2 : k = 2
  · subst h2; simp at h; exact ⟨h.1.2, h.2⟩
  by_cases h3 : k = 3
  · subst h3; simp at h; exact ⟨h.1.1.1.2, h.1.1.2⟩
  by_cases h4 : k = 4
  · subst h4; simp at h; exact ⟨h.1.1.2, h.1.2⟩
  simp [h0, h1, h2, h3, h4, hk] at h
theorem good_list {n l b s it tl} (h : goodD (.mk 5 n l b s it tl) = true) : n = false ∧ l = [] ∧ b = false ∧ seqS s sEmpty = true ∧ tl.length ≤ 1 ∧ (tl.length = 1 → it ≠ [] ∧ headK tl ≠ 5) ∧ goodL it = true ∧ goodL tl = true := by
  unfold goodD at h
  simp at h
  obtain ⟨⟨⟨⟨⟨⟨h1, h2⟩, h3⟩, h4⟩, h5, h6⟩, h7⟩, h8⟩ := h
  refine ⟨h1, h2, h3, h4, by omega, fun e => h6.resolve_left (fun k => k e), h7, h8⟩
theorem good_items {d : Dat} (h : goodD d = true) : goodL d.items = true ∧ goodL d.tail = true := by
  obtain ⟨k, n, l, b, s, it, tl⟩ := d
  by_cases hk : k = 5
  · subst hk; have := good_list h; exact ⟨this.2.2.2.2.2.2.1, this.2.2.2.2.2.2.2⟩
  · obtain ⟨rfl, rfl⟩ := good_leaf h hk
    exact ⟨by unfold goodL; rfl, by unfold goodL; rfl⟩
/-- Good, and few enough to be copied. -/
def Fine (d : Dat) : Prop := goodD d = true ∧ sizeD d ≤ 100000 ∧ depthD d ≤ 10000
theorem Fine.item {d x : Dat} (h : Fine d) (hx : x ∈ d.items) : Fine x := by
  obtain ⟨h1, h2, h3⟩ := h
  have := goodL_mem (good_items h1).1 x hx
  obtain ⟨k, n, l, b, s, it, tl⟩ := d
  unfold sizeD at h2
  unfold depthD at h3
  have a1 := sizeL_mem hx
  have a2 := depthL_mem hx
  simp only [Dat.items] at a1 a2
  exact ⟨this, by omega, by omega⟩
theorem Fine.tl {d x : Dat} (h : Fine d) (hx : x ∈ d.tail) : Fine x := by
  obtain ⟨h1, h2, h3⟩ := h
  have := goodL_mem (good_items h1).2 x hx
  obtain ⟨k, n, l, b, s, it, tl⟩ := d
  unfold sizeD at h2
  unfold depthD at h3
  have a1 := sizeL_mem hx
  have a2 := depthL_mem hx
  simp only [Dat.tail] at a1 a2
  exact ⟨this, by omega, by omega⟩
theorem Fine.of_good {d : Dat} (h : GoodD d = true) : Fine d := by
  rw [GoodD_iff] at h
  exact ⟨h.2.2, by omega, by omega⟩
theorem sizeL_drop (l : List Dat) (n : Nat) : sizeL (l.drop n) ≤ sizeL l := by
  have := sizeL_append (l.take n) (l.drop n)
  rw [List.take_append_drop] at this
  omega
theorem depthL_drop (l : List Dat) (n : Nat) : depthL (l.drop n) ≤ depthL l := by
  have := depthL_append (l.take n) (l.drop n)
  rw [List.take_append_drop] at this
  omega
theorem fine_nil : Fine (.mk 5 false [] false sEmpty [] []) := by
  refine ⟨by simp [goodD, goodL, seqS_refl], ?_, ?_⟩
  · simp [sizeD, sizeL]
  · simp [depthD, depthL]
theorem Fine.rest {d : Dat} (h : Fine d) (hk : d.kind = 5) {n : Nat} (hn : n ≤ d.items.length) : Fine (restM d n) := by
  unfold restM
  cases hc : (n == d.items.length && !d.tail.isEmpty)
  · rw [cond_false]
    obtain ⟨h1, h2, h3⟩ := h
    obtain ⟨k, ng, l, b, s, it, tl⟩ := d
    simp only [Dat.kind] at hk
    subst hk
    obtain ⟨g1, g2, g3, g4, g5, g6, g7, g8⟩ := good_list h1
    simp only [Dat.items, Dat.tail] at *
    have e1 := sizeL_drop it n
    have e2 := depthL_drop it n
    unfold sizeD at h2
    unfold depthD at h3
    refine ⟨?_, by unfold sizeD; omega, by unfold depthD; omega⟩
    unfold goodD
    have q1 : goodL (it.drop n) = true := goodL_of fun x hx => goodL_mem g7 x (List.mem_of_mem_drop hx)
    simp only [q1, g8]
    rcases Nat.lt_or_ge 0 tl.length with ht | ht
    · have ht1 : tl.length = 1 := by omega
      have hne : n ≠ it.length := by
        intro e
        rw [e] at hc
        cases tl with
        | nil => simp at ht
        | cons a r => simp at hc
      have hd : (it.drop n).isEmpty = false := by
        cases hq : it.drop n with
        | nil => have := List.drop_eq_nil_iff.1 hq; omega
        | cons a r => rfl
      rw [hd]
      have hk := (g6 ht1).2
      simp [ht1, hk, seqS_refl]
    · have ht0 : tl.length = 0 := by omega
      simp [ht0, seqS_refl]
  · rw [cond_true]
    cases ht : d.tail with
    | nil => rw [ht] at hc; simp at hc
    | cons a r => exact h.tl (by rw [ht]; simp)

/-! ### where a ... stands -/
theorem again_sym {L : List LikeM} {d : Dat} (h : againM L d = true) : d.kind = 3 ∧ seqS d.str sDots = true ∧ findM L sDots = none := by
  unfold againM isSym at h
  simp at h
  exact ⟨h.1.1, h.1.2, h.2⟩
theorem wrongI_split {L : List LikeM} : ∀ {it : List Dat} {first seen : Bool}, wrongI L it first seen = false →
    (∀ x ∈ it, againM L x = false ∧ wrongM L x = false) ∨
    (seen = false ∧ ∃ a y b, it = a ++ y :: b ∧ againM L y = true ∧ (first = true → a ≠ []) ∧ ∀ x ∈ a ++ b, againM L x = false ∧ wrongM L x = false)
  | [], _, _, _ => .inl fun x hx => by cases hx
  | x :: r, first, seen, h => by
    unfold wrongI at h
    cases hx : againM L x
    · rw [hx, cond_false, Bool.or_eq_false_iff] at h
      rcases wrongI_split h.2 with h1 | ⟨h1, a, y, b, rfl, h2, h3, h4⟩
      · exact .inl fun z hz => by
          rcases List.mem_cons.1 hz with rfl | hz
          · exact ⟨hx, h.1⟩
          · exact h1 z hz
      · refine .inr ⟨h1, x :: a, y, b, rfl, h2, fun _ => by simp, fun z hz => ?_⟩
        rcases List.mem_cons.1 hz with rfl | hz
        · exact ⟨hx, h.1⟩
        · exact h4 z hz
    · rw [hx, cond_true, Bool.or_eq_false_iff, Bool.or_eq_false_iff] at h
      rcases wrongI_split h.2 with h1 | ⟨h1, _⟩
      · exact .inr ⟨h.1.1, [], x, r, rfl, hx, fun hf => (by rw [h.1.2] at hf; cases hf), fun z hz => h1 z (by simpa using hz)⟩
      · cases h1
theorem wrongT_mem {L : List LikeM} : ∀ {tl : List Dat}, wrongT L tl = false → ∀ x ∈ tl, wrongM L x = false
  | [], _, x, hx => by cases hx
  | y :: r, h, x, hx => by
    unfold wrongT at h
    rw [Bool.or_eq_false_iff] at h
    rcases List.mem_cons.1 hx with rfl | hx
    · exact h.1
    · exact wrongT_mem h.2 x hx
/-- A pattern's items: none comes again, or one does. -/
theorem wrong_items {L : List LikeM} {it : List Dat} (h : wrongI L it true false = false) :
    (∀ x ∈ it, againM L x = false ∧ wrongM L x = false) ∨
    (∃ a o y b, it = a ++ o :: y :: b ∧ againM L y = true ∧ (∀ x ∈ a ++ o :: b, againM L x = false ∧ wrongM L x = false)) := by
  rcases wrongI_split h with h1 | ⟨_, a, y, b, rfl, h2, h3, h4⟩
  · exact .inl h1
  · right
    have hne := h3 rfl
    rcases List.eq_nil_or_concat a with rfl | ⟨a', o, rfl⟩
    · exact absurd rfl hne
    · refine ⟨a', o, y, b, by simp, h2, fun x hx => h4 x (by simpa [or_assoc] using hx)⟩
theorem findIdx_none {L : List LikeM} {it : List Dat} (h : ∀ x ∈ it, againM L x = false) : it.findIdx? (againM L) = none := by
  rw [List.findIdx?_eq_none_iff]
  exact h
theorem findIdx_at {L : List LikeM} (a : List Dat) (o y : Dat) (b : List Dat) (hy : againM L y = true) (h : ∀ x ∈ a ++ o :: b, againM L x = false) : (a ++ o :: y :: b).findIdx? (againM L) = some (a.length + 1) := by
  have e : a ++ o :: y :: b = (a ++ [o]) ++ y :: b := by simp
  rw [e, List.findIdx?_append, findIdx_none fun x hx => h x (by rcases List.mem_append.1 hx with hx | hx <;> simp_all)]
  simp [List.findIdx?_cons, hy]
theorem lastAt_none {L : List LikeM} : ∀ {it : List Dat} (i : Nat) (r : Option Nat), (∀ x ∈ it, againM L x = false) → lastAt L it i r = r
  | [], _, _, _ => rfl
  | x :: t, i, r, h => by
    unfold lastAt
    rw [h x (by simp), cond_false]
    exact lastAt_none (i + 1) r fun z hz => h z (by simp [hz])
theorem lastAt_app {L : List LikeM} : ∀ (a : List Dat) (b : List Dat) (i : Nat) (r : Option Nat), lastAt L (a ++ b) i r = lastAt L b (i + a.length) (lastAt L a i r)
  | [], b, i, r => rfl
  | x :: t, b, i, r => by
    simp only [List.cons_append, lastAt]
    rw [lastAt_app t b, show i + (x :: t).length = i + 1 + t.length by simp; omega]
theorem lastAt_at {L : List LikeM} (a : List Dat) (o y : Dat) (b : List Dat) (hy : againM L y = true) (h : ∀ x ∈ a ++ o :: b, againM L x = false) : lastAt L (a ++ o :: y :: b) 0 none = some (a.length + 1) := by
  have e : a ++ o :: y :: b = (a ++ [o]) ++ y :: b := by simp
  rw [e, lastAt_app, lastAt_none (it := a ++ [o]) _ _ fun x hx => h x (by rcases List.mem_append.1 hx with hx | hx <;> simp_all)]
  simp only [lastAt]
  rw [hy, cond_true, lastAt_none _ _ fun x hx => h x (by simp [hx])]
  simp
end Go.Pav
