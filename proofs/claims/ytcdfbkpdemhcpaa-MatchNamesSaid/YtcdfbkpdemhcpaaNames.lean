/- MatchNames returns true for every input, and each argument reads afterwards as it read before (no further condition). -/
import Derived.Test.YtcdfbkpdemhcpaaNames3
import Derived.ChangeReads
import Derived.ChangeArms
import Derived.ChangeSame
import GoSem.ClaimJoined
import Derived.Test.YtcdfbkpdemhcpaaRows
import Derived.WalkKit
import Derived.ProofKit
import Derived.OpenShut
namespace Go.Proofs.Ytcdfbkpdemhcpaa
open Go.Pav
set_option maxRecDepth 100000
def symD (s : ByteArray) : Dat := .mk 3 false [] false s [] []
def numD (n : Int) : Dat := .mk 1 false [n] false sEmpty [] []
def listD (l : List Dat) : Dat := .mk 5 false [] false sEmpty l []
theorem resC {t : Nat} {T : TypeId} {A : Env} {S : ASt} {x : FV} {r : FV} (h : resAll TT A S [.cell t T] = some [.v x]) (hr : frz S.view.H 8 (.v x) = r) : ∃ xs, resAll TT A S [.cell t T] = some xs ∧ resF S xs = r := ⟨[.v x], h, hr⟩
theorem list_fn (l : List Dat) : PFn Try.prog Γ0 29 [.sl .some (rowsD l)] (encD (listD l)) := by
  refine PFn.res (r := .agg [.int .i64 5, .bool false, .sl .nil [], .bool false, .str ⟨#[]⟩, .sl .some (rowsD l), .sl .nil []]) ?_ (FW.agg (.cons (.refl _) (.cons (.refl _) (.cons FW.nil (.cons (.refl _) (.cons (.refl _) (.cons (.refl _) (.cons FW.nil (.refl _)))))))))
  refine PFn.intro TT_ok mixed Try.func29 rfl rfl (by rw [Try.ntmps29]; simp) fun hB => ?_
  exact ⟨.inr rfl, _, rfl, rfl⟩
theorem num_fn (n : Int) : PFn Try.prog Γ0 30 [.int .u32 n] (encD (numD n)) := by
  refine PFn.res (r := .agg [.int .i64 1, .bool false, .sl .full [[.int .u32 n]], .bool false, .str ⟨#[]⟩, .sl .nil [], .sl .nil []]) ?_ (FW.agg (.cons (.refl _) (.cons (.refl _) (.cons (.some _ _) (.cons (.refl _) (.cons (.refl _) (.cons FW.nil (.cons FW.nil (.refl _)))))))))
  refine PFn.intro TT_ok mixed Try.func30 rfl rfl (by rw [Try.ntmps30]; simp) fun hB => ?_
  exact ⟨.inr rfl, _, rfl, rfl⟩
theorem sym_fn (s : ByteArray) : PFn Try.prog Γ0 31 [.str s] (encD (symD s)) := by
  refine PFn.res (r := .agg [.int .i64 3, .bool false, .sl .nil [], .bool false, .str s, .sl .nil [], .sl .nil []]) ?_ (FW.agg (.cons (.refl _) (.cons (.refl _) (.cons FW.nil (.cons (.refl _) (.cons (.refl _) (.cons FW.nil (.cons FW.nil (.refl _)))))))))
  refine PFn.intro TT_ok mixed Try.func31 rfl rfl (by rw [Try.ntmps31]; simp) fun hB => ?_
  exact ⟨.inr rfl, _, rfl, rfl⟩
mutual
theorem TreeM.ind_ {p : TreeM → Prop} (h : ∀ d m ks, (∀ t ∈ ks, p t) → p (.mk d m ks)) : ∀ t, p t
  | .mk d m ks => h d m ks (TreeM.inds h ks)
theorem TreeM.inds {p : TreeM → Prop} (h : ∀ d m ks, (∀ t ∈ ks, p t) → p (.mk d m ks)) : ∀ l : List TreeM, ∀ t ∈ l, p t
  | [] => fun t ht => by cases ht
  | e :: r => fun t ht => (List.mem_cons.1 ht).elim (fun h1 => h1 ▸ TreeM.ind_ h e) (fun h1 => TreeM.inds h r t h1)
end
theorem levelTs_mem {n : Int} : ∀ {l : List TreeM}, levelTs l n = true → ∀ t ∈ l, levelT t n = true
  | [], _, t, ht => by cases ht
  | e :: r, h, t, ht => by
    unfold levelTs at h
    rw [Bool.and_eq_true] at h
    rcases List.mem_cons.1 ht with rfl | ht
    · exact h.1
    · exact levelTs_mem h.2 t ht
theorem rowsT_get (l : List TreeM) (i : Nat) (t : TreeM) (h : l[i]? = some t) : (rowsT l)[i]? = some (cellsT t) := by rw [rowsT_eq]; exact map_get _ h
def Plv (t : TreeM) : Prop := ∀ n : Int, levelT t n = true → -4611686018427387904 ≤ n → n ≤ 4611686018427387904 → (n ≤ 0 → -1 ≤ n) → PFn Try.prog Γ0 34 [.agg (cellsT t), .int .i64 n] (.bool true)
theorem level_fn : ∀ t, Plv t := by
  refine TreeM.ind_ fun d m ks ih => ?_
  intro n hl h1 h2 h3
  unfold levelT at hl
  rw [Bool.and_eq_true, Bool.and_eq_true] at hl
  obtain ⟨⟨hm, hk⟩, he⟩ := hl
  have hm' : m = decide (n > 0) := eq_of_beq hm
  have el := rowsT_len ks
  obtain ⟨k, ng, l, b, s, it, tl⟩ := d
  refine PFn.intro TT_ok mixed Try.func34 rfl rfl (by rw [Try.ntmps34]; simp) fun hB => ?_
  have hlen : (rowsT ks).length ≤ 140737488355328 := by
    have := hB.1
    unfold cellsT cellsD at this
    simp only [List.cons_append, List.nil_append, Bd, Bds] at this
    exact this.2.2.2.2.2.2.2.2.1.1
  refine cnd_f (by subst hm'; show (decide (n > 0) != decide (n > 0)) = false; simp) ?_
  refine CdL.enter (CdL.wf TT_ok mixed (fun i : Nat => ks.length - i) (fun i => i ≤ ks.length)
    (fun i => [(1, .v (.int .i64 n)), (2, .ptr 2 0), (13, .v (.sl .some (rowsT ks))), (14, .v (.int .i64 ks.length)), (15, .v (.int .i64 i))])
    (fun i => ⟨[(2, (cellsT (.mk (.mk k ng l b s it tl) m ks)).map .v)], [], [2]⟩)
    (fun _ e A S => e = .exit 0 ∧ A.get 1 = some (.v (.int .i64 n)) ∧ A.get 2 = some (.ptr 2 0) ∧ S.H.lookup 2 = some ((cellsT (.mk (.mk k ng l b s it tl) m ks)).map .v)) (fun _ _ h => h.elim) ?_ 0 (Nat.zero_le _)) ⟨⟨⟨_, rfl, Wk.refl _⟩, ⟨_, rfl, Wk.refl _⟩, ⟨_, rfl, Wk.refl _⟩, ⟨_, rfl, Wk.int (by rw [el])⟩, ⟨_, rfl, Wk.refl _⟩, trivial⟩, ⟨⟨_, rfl, Wks.refl _⟩, trivial⟩, trivial, rfl, rfl, rfl, rfl⟩ (fun _ h => h.elim) ?_
  · intro i hi
    refine cnd_mk (fun h => ?_) (fun h => ?_)
    · have hi2 : i < ks.length := by simpa using h
      obtain ⟨x, hx⟩ : ∃ x, ks[i]? = some x := ⟨ks[i], List.getElem?_eq_getElem hi2⟩
      have hmem := List.mem_of_getElem? hx
      have hlx := levelTs_mem hk x hmem
      have hpos : n > 0 := by
        rw [Bool.or_eq_true] at he
        rcases he with he | he
        · simpa using he
        · rw [List.isEmpty_iff] at he; subst he; cases hmem
      have hP := ih x hmem (n - 1) hlx (by omega) (by omega) (by omega)
      have e1 : IntKind.i64.wrap (n - 1) = n - 1 := wrap_i64 (by omega) (by omega)
      rw [← e1] at hP
      refine ⟨by omega, cellsT x, rowsT_get ks i x hx, cellsT_len x, ?_⟩
      obtain ⟨⟨k2, n2, l2, b2, s2, i2, t2⟩, m2, k3⟩ := x
      refine .pure _ rfl hP ?_
      refine ⟨i + 1, by show ks.length - (i + 1) < ks.length - i; omega, hi2, ?_, fun _ _ _ h => h⟩
      exact ⟨⟨⟨_, rfl, Wk.refl _⟩, ⟨_, rfl, Wk.refl _⟩, ⟨_, rfl, Wk.refl _⟩, ⟨_, rfl, Wk.refl _⟩, ⟨_, rfl, Wk.int (wrap_i64 (by omega) (by omega))⟩, trivial⟩, ⟨⟨_, rfl, Wks.refl _⟩, trivial⟩, trivial, rfl, rfl, rfl, rfl⟩
    · have hi2 : i = ks.length := by simp at h; omega
      exact ⟨rfl, rfl, rfl, rfl⟩
  · rintro e A S ⟨rfl, g1, g2, g3⟩
    refine opt_mk g1 ?_
    by_cases hp : n > 0
    · have h : decide (n > 0) = true := by simpa using hp
      refine cnd_t h ?_
      exact ⟨.inr rfl, res1 rfl rfl⟩
    · have h : decide (n > 0) = false := by simpa using hp
      have hks : ks = [] := by
        rw [Bool.or_eq_true] at he
        rcases he with he | he
        · rw [h] at he; cases he
        · rwa [List.isEmpty_iff] at he
      subst hks
      refine cnd_f h ?_
      refine opt_mk g2 ?_
      refine opt_mk (rfl : ([(0, 27, 7), (7, 4, 1), (8, 62, 1)] : List (Nat × Nat × Nat))[2]? = some (8, 62, 1)) ?_
      refine opt_mk g3 ?_
      exact ⟨.inr rfl, res1 rfl rfl⟩
/-- light: few likes, small data. -/
def lightM (L : List LikeM) (ds : List Dat) : Bool := decide (L.length ≤ 20) && L.all (fun x => decide (x.all.length ≤ 20)) && ds.all (fun d => decide (0 ≤ withinD d 200 40))
theorem light_fn (L : List LikeM) (ds : List Dat) : PFn Try.prog Γ0 17 [encLikes L, .sl .some (rowsD ds)] (.bool (lightM L ds)) := by
  have hlL : (rowsLike L).length = L.length := by simp [rowsLike]
  have hlD := rowsD_len ds
  unfold lightM
  refine PFn.intro TT_ok mixed Try.func17 rfl rfl (by rw [Try.ntmps17]; simp) fun hB => ?_
  have hB1 : (rowsLike L).length ≤ 140737488355328 := hB.1.1
  have hB2 : (rowsD ds).length ≤ 140737488355328 := hB.2.1.1
  by_cases h20 : L.length ≤ 20
  case neg =>
    refine cnd_t (by show decide (((rowsLike L).length : Int) > 20) = true; rw [hlL, decide_eq_true_eq]; omega) ?_
    rw [show decide (L.length ≤ 20) = false by simpa using h20, Bool.false_and, Bool.false_and]
    exact ⟨.inr rfl, res1 rfl rfl⟩
  refine cnd_f (by show decide (((rowsLike L).length : Int) > 20) = false; rw [hlL, decide_eq_false_iff_not]; omega) ?_
  rw [show decide (L.length ≤ 20) = true by simpa using h20, Bool.true_and]
  refine CdL.enter (CdL.wf TT_ok mixed (fun i : Nat => L.length - i) (fun i => i ≤ L.length ∧ (L.drop i).all (fun x => decide (x.all.length ≤ 20)) = L.all (fun x => decide (x.all.length ≤ 20)))
    (fun i => [(1, .v (.sl .some (rowsD ds))), (12, .v (encLikes L)), (13, .v (.int .i64 L.length)), (14, .v (.int .i64 i))])
    (fun i => ASt.nil)
    (fun _ e A S => (e = .exit 0 ∧ L.all (fun x => decide (x.all.length ≤ 20)) = true ∧ A.get 1 = some (.v (.sl .some (rowsD ds)))) ∨ (e = .ret ∧ L.all (fun x => decide (x.all.length ≤ 20)) = false ∧ A.get 4 = some (.v (.bool false)))) (fun _ _ h => h.elim) ?_ 0 ⟨Nat.zero_le _, rfl⟩) ⟨⟨⟨_, rfl, Wk.refl _⟩, ⟨_, rfl, Wk.refl _⟩, ⟨_, rfl, Wk.int (by rw [hlL])⟩, ⟨_, rfl, Wk.refl _⟩, trivial⟩, trivial, trivial, rfl, rfl, rfl, rfl⟩ (fun _ h => h.elim) ?_
  · rintro i ⟨hi, hd⟩
    refine cnd_mk (fun h => ?_) (fun h => ?_)
    · have hi2 : i < L.length := by simpa using h
      obtain ⟨x, hx⟩ : ∃ x, L[i]? = some x := ⟨L[i], List.getElem?_eq_getElem hi2⟩
      have hdrop : L.drop i = x :: L.drop (i + 1) := by
        rw [List.drop_eq_getElem_cons hi2]
        rw [List.getElem?_eq_getElem hi2] at hx
        rw [Option.some.inj hx]
      rw [hdrop, List.all_cons] at hd
      have hxl := strs_len x.all
      refine ⟨by omega, cellsLike x, map_get _ hx, rfl, ?_⟩
      obtain ⟨xn, xa⟩ := x
      by_cases hx20 : xa.length ≤ 20
      · rw [show decide ((LikeM.mk xn xa).all.length ≤ 20) = true by simpa using hx20, Bool.true_and] at hd
        refine cnd_f (by show decide (((strs xa).length : Int) > 20) = false; rw [hxl, decide_eq_false_iff_not]; show ¬ ((xa.length : Int) > 20); omega) ?_
        refine ⟨i + 1, by show L.length - (i + 1) < L.length - i; omega, ⟨hi2, hd⟩, ?_, fun _ _ _ h => h⟩
        exact ⟨⟨⟨_, rfl, Wk.refl _⟩, ⟨_, rfl, Wk.refl _⟩, ⟨_, rfl, Wk.refl _⟩, ⟨_, rfl, Wk.int (wrap_i64 (by omega) (by omega))⟩, trivial⟩, trivial, trivial, rfl, rfl, rfl, rfl⟩
      · rw [show decide ((LikeM.mk xn xa).all.length ≤ 20) = false by simpa using hx20, Bool.false_and] at hd
        refine cnd_t (by show decide (((strs xa).length : Int) > 20) = true; rw [hxl, decide_eq_true_eq]; show (xa.length : Int) > 20; omega) ?_
        exact .inr ⟨rfl, hd.symm, rfl⟩
    · have hi2 : i = L.length := by simp at h; omega
      subst hi2
      rw [List.drop_length, List.all_nil] at hd
      exact .inl ⟨rfl, hd.symm, rfl⟩
  · rintro e A S (⟨rfl, hd, h1⟩ | ⟨rfl, hd, h4⟩)
    case inr =>
      rw [hd]
      exact ⟨.inr rfl, res1 h4 rfl⟩
    rw [hd, Bool.true_and]
    refine opt_mk h1 ?_
    refine CdL.enter (CdL.wf TT_ok mixed (fun i : Nat => ds.length - i) (fun i => i ≤ ds.length ∧ (ds.drop i).all (fun d => decide (0 ≤ withinD d 200 40)) = ds.all (fun d => decide (0 ≤ withinD d 200 40)))
      (fun i => [(23, .v (.sl .some (rowsD ds))), (24, .v (.int .i64 ds.length)), (25, .v (.int .i64 i))])
      (fun i => ASt.nil)
      (fun _ e A S => (e = .exit 2 ∧ ds.all (fun d => decide (0 ≤ withinD d 200 40)) = true) ∨ (e = .ret ∧ ds.all (fun d => decide (0 ≤ withinD d 200 40)) = false ∧ A.get 4 = some (.v (.bool false)))) (fun _ _ h => h.elim) ?_ 0 ⟨Nat.zero_le _, rfl⟩) ⟨⟨⟨_, rfl, Wk.refl _⟩, ⟨_, rfl, Wk.int (by rw [hlD])⟩, ⟨_, rfl, Wk.refl _⟩, trivial⟩, trivial, trivial, rfl, rfl, rfl, rfl⟩ (fun _ h => h.elim) ?_
    · rintro i ⟨hi, hd⟩
      refine cnd_mk (fun h => ?_) (fun h => ?_)
      · have hi2 : i < ds.length := by simpa using h
        obtain ⟨x, hx⟩ : ∃ x, ds[i]? = some x := ⟨ds[i], List.getElem?_eq_getElem hi2⟩
        have hdrop : ds.drop i = x :: ds.drop (i + 1) := by
          rw [List.drop_eq_getElem_cons hi2]
          rw [List.getElem?_eq_getElem hi2] at hx
          rw [Option.some.inj hx]
        rw [hdrop, List.all_cons] at hd
        have hS := small_fn x 200 40 (by omega) (by omega) (by omega) (by omega)
        refine ⟨by omega, cellsD x, rowsD_get ds i x hx, cellsD_len x, ?_⟩
        generalize decide (0 ≤ withinD x 200 40) = w at *
        obtain ⟨k1, n1, l1, b1, s1, i1, t1⟩ := x
        refine .pure _ rfl hS ?_
        cases w
        · exact .inr ⟨rfl, hd.symm, rfl⟩
        · rw [Bool.true_and] at hd
          refine ⟨i + 1, by show ds.length - (i + 1) < ds.length - i; omega, ⟨hi2, hd⟩, ?_, fun _ _ _ h => h⟩
          exact ⟨⟨⟨_, rfl, Wk.refl _⟩, ⟨_, rfl, Wk.refl _⟩, ⟨_, rfl, Wk.int (wrap_i64 (by omega) (by omega))⟩, trivial⟩, trivial, trivial, rfl, rfl, rfl, rfl⟩
      · have hi2 : i = ds.length := by simp at h; omega
        subst hi2
        rw [List.drop_length, List.all_nil] at hd
        exact .inl ⟨rfl, hd.symm⟩
    · rintro e A S (⟨rfl, hd⟩ | ⟨rfl, hd, h4⟩)
      · rw [hd]; exact ⟨.inr rfl, res1 rfl rfl⟩
      · rw [hd]
        exact ⟨.inr rfl, res1 h4 rfl⟩
end Go.Proofs.Ytcdfbkpdemhcpaa
namespace Go.Proofs.Ytcdfbkpdemhcpaa
open Go.Pav
set_option maxRecDepth 100000
theorem rowsB_get (l : List BindM) (i : Nat) (b : BindM) (h : l[i]? = some b) : (rowsB l)[i]? = some (cellsB b) := map_get _ h
theorem at_fn (B : List BindM) (s : ByteArray) (r : BindM) (hf : B.find? (fun x => seqS x.name s) = some r) : PFn Try.prog Γ0 103 [.sl .some (rowsB B), .str s] (.tup [.agg (cellsT r.tree), .bool true]) := by
  have el := rowsB_len B
  refine PFn.intro TT_ok mixed Try.func103 rfl rfl (by rw [Try.ntmps103]; simp) fun hB => ?_
  have hlen : (rowsB B).length ≤ 140737488355328 := hB.1.1
  refine CdL.enter (CdL.wf TT_ok mixed (fun i : Nat => B.length - i) (fun i => i ≤ B.length ∧ (B.drop i).find? (fun x => seqS x.name s) = some r)
    (fun i => [(1, .v (.str s)), (4, .ptr 4 0), (8, .v (.sl .some (rowsB B))), (9, .v (.int .i64 B.length)), (10, .v (.int .i64 i))])
    (fun i => ⟨[(4, (cellsT (.mk .zero false [])).map fun _ => AV.v .any)], [], [4]⟩)
    (fun _ e A S => e = .ret ∧ A.get 4 = some (.ptr 4 0) ∧ A.get 5 = some (.v (.bool true)) ∧ S.H.lookup 4 = some ((cellsT r.tree).map .v)) (fun _ _ h => h.elim) ?_ 0 ⟨Nat.zero_le _, hf⟩) ⟨⟨⟨_, rfl, Wk.refl _⟩, ⟨_, rfl, Wk.refl _⟩, ⟨_, rfl, Wk.refl _⟩, ⟨_, rfl, Wk.int (by rw [el])⟩, ⟨_, rfl, Wk.refl _⟩, trivial⟩, ⟨⟨_, rfl, ?_⟩, trivial⟩, trivial, rfl, rfl, rfl, rfl⟩ (fun _ h => h.elim) ?_
  · rintro i ⟨hi, hd⟩
    refine cnd_mk (fun h => ?_) (fun h => ?_)
    · have hi2 : i < B.length := by simpa using h
      obtain ⟨x, hx⟩ : ∃ x, B[i]? = some x := ⟨B[i], List.getElem?_eq_getElem hi2⟩
      have hdrop : B.drop i = x :: B.drop (i + 1) := by
        rw [List.drop_eq_getElem_cons hi2]
        rw [List.getElem?_eq_getElem hi2] at hx
        rw [Option.some.inj hx]
      rw [hdrop, List.find?_cons] at hd
      refine ⟨by omega, cellsB x, rowsB_get B i x hx, cellsB_len x, ?_⟩
      obtain ⟨xn, ⟨k, n, l, b, s2, it, tl⟩, m, ks⟩ := x
      refine cnd_mk (fun h => ?_) (fun h => ?_)
      · have hb : seqS xn s = true := h
        simp only [hb] at hd
        obtain rfl := Option.some.inj hd
        exact ⟨rfl, rfl, rfl, rfl⟩
      · have hb : seqS xn s = false := h
        simp only [hb] at hd
        refine ⟨i + 1, by show B.length - (i + 1) < B.length - i; omega, ⟨hi2, hd⟩, ?_, fun _ _ _ h => h⟩
        exact ⟨⟨⟨_, rfl, Wk.refl _⟩, ⟨_, rfl, Wk.refl _⟩, ⟨_, rfl, Wk.refl _⟩, ⟨_, rfl, Wk.refl _⟩, ⟨_, rfl, Wk.int (wrap_i64 (by omega) (by omega))⟩, trivial⟩, ⟨⟨_, rfl, Wks.refl _⟩, trivial⟩, trivial, rfl, rfl, rfl, rfl⟩
    · have hi2 : i = B.length := by simp at h; omega
      subst hi2
      rw [List.drop_length] at hd
      cases hd
  · exact ⟨_, _, rfl, Wk.any _, _, _, rfl, Wk.any _, _, _, rfl, Wk.any _, _, _, rfl, Wk.any _, _, _, rfl, Wk.any _, _, _, rfl, Wk.any _, _, _, rfl, Wk.any _, _, _, rfl, Wk.any _, _, _, rfl, Wk.any _, rfl⟩
  · rintro e A S ⟨rfl, h1, h2, h3⟩
    refine ⟨.inr rfl, [.v (.agg (cellsT r.tree)), .v (.bool true)], ?_, rfl⟩
    obtain ⟨xn, ⟨k, n, l, b, s2, it, tl⟩, m, ks⟩ := r
    have e1 : resOne TT A S (.cell 4 64) = some (.v (.agg (cellsT (.mk (.mk k n l b s2 it tl) m ks)))) := by
      simp only [resOne, h1]
      show (match S.H.lookup 4 with | some cs => partA _ cs 0 | none => none) = _
      rw [h3]
      rfl
    have e2 : resOne TT A S (.tmp 5) = some (.v (.bool true)) := h2
    show resAll TT A S [.cell 4 64, .tmp 5] = _
    simp only [resAll, e1, e2]
theorem total_num (n : Int) : PFn Try.prog Γ0 60 [encD (numD n), .int .i64 0] (.int .i64 1) := by
  refine PFn.intro TT_ok mixed Try.func60 rfl rfl (by rw [Try.ntmps60]; simp) fun hB => ?_
  refine CdL.round TT_ok mixed ?_
  refine CdL.round TT_ok mixed ?_
  refine CdL.round TT_ok mixed ?_
  refine CdL.round TT_ok mixed ?_
  refine CdL.round TT_ok mixed ?_
  exact ⟨.inr rfl, res1 rfl rfl⟩
theorem Size_num (n : Int) : PFn Try.prog Γ0 39 [encD (numD n)] (.int .i64 1) := by
  refine PFn.intro TT_ok mixed Try.func39 rfl rfl (by rw [Try.ntmps39]; simp) fun hB => ?_
  refine .pure _ rfl (total_num n) ?_
  exact ⟨.inr rfl, res1 rfl rfl⟩
/-- A filler's state: what may still be made, what went wrong. -/
def FS (l : Nat) (n e : Int) : ASt := ⟨[(l, [.v (.int .i64 n), .v (.int .i64 e)])], [], [l]⟩
def Limb (n : Int) : Prop := 0 ≤ n ∧ n < 4294967296
theorem copyD_num (n : Int) : copyD (numD n) = numD n := by
  unfold copyD
  have : decide (0 ≤ withinD (numD n) 100000 10000) = true := by
    rw [decide_eq_true_eq, within_nonneg _ _ _ (by omega)]
    simp [numD, sizeD, sizeL, depthD, depthL]
  rw [this]; rfl
theorem symbol_num (n : Int) (h0 : 0 ≤ n) (h1 : n ≤ 10000) (B : List BindM) (s : ByteArray) (c : Int) (hc : Limb c) (bn : ByteArray) (ks : List TreeM) (hf : B.find? (fun x => seqS x.name s) = some ⟨bn, .mk (numD c) false ks⟩) :
    GFn Try.prog Γ0 80 (FS 0 n 0) [.ptr 0 0, .v (encD (symD s)), .v (.sl .some (rowsB B))] (.v (encD (numD c))) (FS 0 n 0) := by
  have hA := at_fn B s _ hf
  have hS := Size_num c
  have hC := Copy_fn (numD c) (by unfold numD limbsOk; exact ⟨by simp, by unfold limbsOkL; trivial, by unfold limbsOkL; trivial⟩)
  rw [copyD_num] at hC
  refine GFn.intro TT_ok mixed Try.func80 rfl rfl (by rw [Try.ntmps80]; simp) ?_
  refine .pure _ rfl hA ?_
  refine .pure _ rfl hS ?_
  refine .mk (by decide +kernel) ?_
  refine .pure _ rfl hC ?_
  have ew : IntKind.i64.wrap (n - IntKind.i64.wrap (1 - 1)) = n := by
    rw [show IntKind.i64.wrap (1 - 1) = 0 from rfl, Int.sub_zero]
    exact wrap_i64 (by omega) (by omega)
  refine ⟨.inr rfl, rfl, _, rfl, ⟨⟨_, rfl, Wk.refl _⟩, trivial⟩, ⟨⟨_, rfl, ⟨_, _, rfl, Wk.int ew, _, _, rfl, Wk.refl _, rfl⟩⟩, trivial⟩, trivial, rfl, rfl, rfl, rfl⟩
theorem fitsF {l : Nat} {n e n' e' : Int} {S : ASt} {args args0 : List AV} {r : AV} (ha : Wks args args0) (hH : ∃ cs, S.H.lookup l = some cs ∧ Wks cs [.v (.int .i64 n), .v (.int .i64 e)]) (hw : withins [l] args0 = true) (hU : S.U.contains l = true) : FitsA S args (FS l n e) args0 r (FS l n' e') := by
  refine ⟨ha, fun p hp => ?_, fun p hp => ?_, hw, ?_, rfl, ?_, ?_, ?_⟩
  · rw [show (FS l n e).H = [(l, [.v (.int .i64 n), .v (.int .i64 e)])] from rfl, List.mem_singleton] at hp
    subst hp
    exact hH
  · cases hp
  · simp [FS, withins, AV.within]
  · simp [FS, hU]
    simpa using hU
  · simp [FS]
  · simp [ASt.closed, FS]
theorem Wks_fs {a b e : Int} (h : a = b) : Wks [.v (.int .i64 a), .v (.int .i64 e)] [.v (.int .i64 b), .v (.int .i64 e)] := by subst h; exact Wks.refl _
theorem fill_num (n : Int) (h0 : 1 ≤ n) (h1 : n ≤ 10000) (B : List BindM) (s : ByteArray) (hs : seqS s sDots = false) (c : Int) (hc : Limb c) (bn : ByteArray) (ks : List TreeM) (hf : B.find? (fun x => seqS x.name s) = some ⟨bn, .mk (numD c) false ks⟩) :
    GFn Try.prog Γ0 52 (FS 0 n 0) [.ptr 0 0, .v (encD (symD s)), .v (.sl .some (rowsB B)), .v (.bool false)] (.v (encD (numD c))) (FS 0 (n - 1) 0) := by
  have hS := symbol_num (n - 1) (by omega) (by omega) B s c hc bn ks hf
  have hI : PFn Try.prog Γ0 79 [encD (symD s), .str sDots] (.bool false) := by
    have := is_fn (symD s) sDots
    rwa [show isSym (symD s) sDots = false by unfold isSym; rw [show (symD s).str = s from rfl, hs, Bool.and_false]] at this
  have ew : IntKind.i64.wrap (n - 1) = n - 1 := wrap_i64 (by omega) (by omega)
  refine GFn.intro TT_ok mixed Try.func52 rfl rfl (by rw [Try.ntmps52]; simp) ?_
  refine cnd_f (by rw [ew]; simp; omega) ?_
  refine .pure _ rfl hI ?_
  refine .own (fitsF (n := n - 1) (e := 0) (n' := n - 1) (e' := 0) (Wks.refl _) ⟨[.v (.int .i64 (IntKind.i64.wrap (n - 1))), .v (.int .i64 0)], rfl, Wks_fs ew⟩ rfl rfl) hS ?_
  refine ⟨.inr rfl, rfl, _, rfl, ⟨⟨_, rfl, Wk.refl _⟩, trivial⟩, ⟨⟨_, rfl, Wks.refl _⟩, trivial⟩, trivial, rfl, rfl, rfl, rfl⟩
end Go.Proofs.Ytcdfbkpdemhcpaa
namespace Go.Proofs.Ytcdfbkpdemhcpaa
open Go.Pav
set_option maxRecDepth 100000
theorem row_zero (n : Int) (h0 : 1 ≤ n) (h1 : n ≤ 10000) (B : List BindM) (s : ByteArray) (hs : seqS s sDots = false) (c : Int) (hc : Limb c) (bn : ByteArray) (ks : List TreeM) (hf : B.find? (fun x => seqS x.name s) = some ⟨bn, .mk (numD c) false ks⟩) :
    GFn Try.prog Γ0 82 (FS 0 n 0) [.ptr 0 0, .v (encD (symD s)), .v (.sl .some (rowsB B)), .v (.int .i64 0), .v (.bool false)] (.v (.sl .some (rowsD [numD c]))) (FS 0 (n - 1) 0) := by
  have hF := fill_num n h0 h1 B s hs c hc bn ks hf
  refine GFn.intro TT_ok mixed Try.func82 rfl rfl (by rw [Try.ntmps82]; simp) ?_
  refine .own (fitsF (n := n) (e := 0) (n' := n - 1) (e' := 0) (Wks.refl _) ⟨_, rfl, Wks.refl _⟩ rfl rfl) hF ?_
  refine ⟨.inr rfl, rfl, _, rfl, ⟨⟨_, rfl, Wk.sl _ _⟩, trivial⟩, ⟨⟨_, rfl, Wks.refl _⟩, trivial⟩, trivial, rfl, rfl, rfl, rfl⟩
theorem many_sym (B : List BindM) (s : ByteArray) (hs : seqS s sDots = false) (bn : ByteArray) (d : Dat) (ks : List TreeM) (hf : B.find? (fun x => seqS x.name s) = some ⟨bn, .mk d true ks⟩) :
    PFn Try.prog Γ0 104 [.sl .some (rowsB B), encD (symD s), .bool false] (.sl .some (strs [s])) := by
  have hA := at_fn B s _ hf
  obtain ⟨k, n, l, b, s2, it, tl⟩ := d
  refine PFn.res (r := .sl .full (strs [s])) ?_ (FW.some _ _)
  refine PFn.intro TT_ok mixed Try.func104 rfl rfl (by rw [Try.ntmps104]; simp) fun hB => ?_
  refine .pure _ rfl hA ?_
  refine cnd_t (by show (!seqS s sDots) = true; rw [hs]; rfl) ?_
  exact ⟨.inr rfl, res1 rfl rfl⟩
theorem rowsD_append (a b : List Dat) : rowsD (a ++ b) = rowsD a ++ rowsD b := by rw [rowsD_eq, rowsD_eq, rowsD_eq, List.map_append]
def leafT (c : Int) : TreeM := .mk (numD c) false []
theorem row_many (n : Int) (cs : List Int) (hn : cs.length ≤ n) (h1 : n ≤ 10000) (B : List BindM) (hB : B.length ≤ 1000) (s : ByteArray) (hs : seqS s sDots = false) (hc : ∀ c ∈ cs, Limb c) (bn : ByteArray) (d : Dat) (hf : B.find? (fun x => seqS x.name s) = some ⟨bn, .mk d true (cs.map leafT)⟩) :
    GFn Try.prog Γ0 82 (FS 0 n 0) [.ptr 0 0, .v (encD (symD s)), .v (.sl .some (rowsB B)), .v (.int .i64 1), .v (.bool false)] (.v (.sl .some (rowsD (cs.map numD)))) (FS 0 (n - cs.length) 0) := by
  have hM := many_sym B s hs bn d _ hf
  have hA := at_fn B s _ hf
  have hF : ∀ (m : Int) c, 1 ≤ m → m ≤ 10000 → c ∈ cs → _ := fun m c h2 h3 h4 => row_zero m h2 h3 (⟨s, leafT c⟩ :: B) s hs c (hc c h4) s [] (by rw [List.find?_cons]; simp [seqS_refl, leafT])
  have ekl : (rowsT (cs.map leafT)).length = cs.length := by rw [rowsT_len, List.length_map]
  have eB : (rowsB B).length = B.length := rowsB_len B
  obtain ⟨k, g, l, b, s2, it, tl⟩ := d
  refine GFn.intro TT_ok mixed Try.func82 rfl rfl (by rw [Try.ntmps82]; simp) ?_
  refine .pure _ rfl hM ?_
  refine CdL.round TT_ok mixed ?_
  refine ⟨by decide, _, rfl, rfl, ?_⟩
  refine .pure _ rfl hA ?_
  refine cnd_f (by show ((((rowsT (cs.map leafT)).length : Nat) : Int) != ((rowsT (cs.map leafT)).length : Nat)) = false; simp) ?_
  refine ⟨(fun c hc => by cases hc), (fun c hc => by rw [List.mem_singleton.1 hc]; rfl), (show 0 + 1 ≤ 140737488355328 by decide), (show (0 + 1) * 144 ≤ 140737488355328 by decide), ?_⟩
  refine CdL.round TT_ok mixed ?_
  refine CdL.adopt 18 300 27 7 rfl (.inl rfl) rfl (fun c hc => by cases hc) ?_
  refine CdL.enter (CdL.wf TT_ok mixed (fun i : Nat => cs.length - i) (fun i => i ≤ cs.length)
    (fun i => [(0, .ptr 0 0), (2, .v (.sl .some (rowsB B))), (3, .v (.int .i64 1)), (4, .v (.bool false)), (6, .ptr 6 0), (11, .v (.sl .some (strs [s]))), (13, .v (.sl .some [cellsT (.mk (.mk k g l b s2 it tl) true (cs.map leafT))])), (18, .tsl 300 (rowsD ((cs.take i).map numD))), (71, .v (.int .i64 cs.length)), (72, .v (.int .i64 i))])
    (fun i => ⟨[(0, [.v (.int .i64 (n - i)), .v (.int .i64 0)]), (6, (cellsD (symD s)).map .v)], [(300, (rowsD ((cs.take i).map numD), 27, 7))], [0, 6, 300]⟩)
    (fun _ e A S => e = .exit 2 ∧ Covers A S [(18, .v (.sl .some (rowsD (cs.map numD))))] (FS 0 (n - cs.length) 0)) ?_ ?_ 0 (Nat.zero_le _)) ⟨⟨⟨_, rfl, Wk.refl _⟩, ⟨_, rfl, Wk.refl _⟩, ⟨_, rfl, Wk.refl _⟩, ⟨_, rfl, Wk.refl _⟩, ⟨_, rfl, Wk.refl _⟩, ⟨_, rfl, Wk.refl _⟩, ⟨_, rfl, Wk.tsl _ _⟩, ⟨_, rfl, Wk.refl _⟩, ⟨_, rfl, Wk.int (by rw [ekl])⟩, ⟨_, rfl, Wk.refl _⟩, trivial⟩, ⟨⟨_, rfl, Wks_fs (by simp)⟩, ⟨_, rfl, Wks.refl _⟩, trivial⟩, ⟨⟨_, rfl, RW.refl _⟩, trivial⟩, rfl, rfl, rfl, rfl⟩ ?_ ?_
  · intro x m hm
    simp only [FS, List.mem_singleton] at hm
    subst hm
    rfl
  · intro i hi
    refine cnd_mk (fun h => ?_) (fun h => ?_)
    · have hi2 : i < cs.length := by simpa using h
      obtain ⟨c, hcx⟩ : ∃ c, cs[i]? = some c := ⟨cs[i], List.getElem?_eq_getElem hi2⟩
      have hmem := List.mem_of_getElem? hcx
      have hR := hF (n - i) c (by omega) (by omega) hmem
      have hget : (rowsT (cs.map leafT))[i]? = some (cellsT (leafT c)) := rowsT_get _ _ _ (by rw [List.getElem?_map, hcx]; rfl)
      have htk : (cs.take (i + 1)).map numD = (cs.take i).map numD ++ [numD c] := by rw [List.take_add_one, hcx]; simp
      have etk : (rowsD ((cs.take i).map numD)).length = i := by rw [rowsD_len, List.length_map, List.length_take]; omega
      refine CdL.round TT_ok mixed ?_
      refine ⟨by decide, _, rfl, rfl, ?_⟩
      refine ⟨by decide, _, rfl, rfl, ?_⟩
      refine ⟨by omega, _, hget, rfl, ?_⟩
      refine ⟨(fun c hc => by cases hc), (fun c hc => by rw [List.mem_singleton.1 hc]; rfl), (show 0 + 1 ≤ 140737488355328 by decide), (show (0 + 1) * 160 ≤ 140737488355328 by decide), ?_⟩
      refine CdL.round TT_ok mixed ?_
      refine .inl ⟨_, rfl, rfl, rowsB_one B, ?_, ?_, ?_⟩
      · show 1 + (rowsB B).length ≤ _
        omega
      · show (1 + (rowsB B).length) * 160 ≤ _
        omega
      refine .own (fitsF (n := n - i) (e := 0) (n' := n - i - 1) (e' := 0) ⟨_, _, rfl, Wk.refl _, _, _, rfl, Wk.refl _, _, _, rfl, Wk.tsl _ _, _, _, rfl, Wk.refl _, _, _, rfl, Wk.refl _, rfl⟩ ⟨_, rfl, Wks.refl _⟩ rfl rfl) hR ?_
      refine .inl ⟨_, rfl, rfl, (fun c hc => by rw [List.mem_singleton.1 hc]; rfl), ?_, ?_, ?_⟩
      · show (rowsD ((cs.take i).map numD)).length + 1 ≤ _
        omega
      · show ((rowsD ((cs.take i).map numD)).length + 1) * 112 ≤ _
        omega
      refine .mk (by dsimp only [FS]; decide +kernel) ?_
      refine ⟨i + 1, by show cs.length - (i + 1) < cs.length - i; omega, hi2, ?_, fun _ _ _ h => h⟩
      show Covers _ _ [(0, .ptr 0 0), (2, .v (.sl .some (rowsB B))), (3, .v (.int .i64 1)), (4, .v (.bool false)), (6, .ptr 6 0), (11, .v (.sl .some (strs [s]))), (13, .v (.sl .some [cellsT (.mk (.mk k g l b s2 it tl) true (cs.map leafT))])), (18, .tsl 300 (rowsD ((cs.take (i + 1)).map numD))), (71, .v (.int .i64 cs.length)), (72, .v (.int .i64 ((i + 1 : Nat) : Int)))]
        ⟨[(0, [.v (.int .i64 (n - ((i + 1 : Nat) : Int))), .v (.int .i64 0)]), (6, (cellsD (symD s)).map .v)], [(300, (rowsD ((cs.take (i + 1)).map numD), 27, 7))], [0, 6, 300]⟩
      rw [htk, rowsD_append]
      exact ⟨⟨⟨_, rfl, Wk.refl _⟩, ⟨_, rfl, Wk.refl _⟩, ⟨_, rfl, Wk.refl _⟩, ⟨_, rfl, Wk.refl _⟩, ⟨_, rfl, Wk.refl _⟩, ⟨_, rfl, Wk.refl _⟩, ⟨_, rfl, Wk.refl _⟩, ⟨_, rfl, Wk.refl _⟩, ⟨_, rfl, Wk.refl _⟩, ⟨_, rfl, Wk.int (wrap_i64 (by omega) (by omega))⟩, trivial⟩, ⟨⟨_, rfl, Wks_fs (by omega)⟩, ⟨_, rfl, Wks.refl _⟩, trivial⟩, ⟨⟨_, rfl, RW.refl _⟩, trivial⟩, rfl, rfl, rfl, rfl⟩
    · have hi2 : i = cs.length := by simp at h; omega
      subst hi2
      rw [List.take_length]
      exact ⟨rfl, ⟨⟨_, rfl, Wk.tsl _ _⟩, trivial⟩, ⟨⟨_, rfl, Wks.refl _⟩, trivial⟩, trivial, rfl, rfl, rfl, rfl⟩
  · intro m hm
    simp only [FS, List.mem_singleton] at hm
    subst hm
    rfl
  · rintro e A S ⟨rfl, hcv⟩
    obtain ⟨⟨x, hx, hw⟩, _⟩ := hcv.env'
    refine opt_mk hx ?_
    refine ⟨.inr rfl, rfl, _, rfl, ⟨⟨x, rfl, hw⟩, trivial⟩, hcv.box', hcv.tok', hcv.names', hcv.inL, hcv.inH, hcv.inT⟩
end Go.Proofs.Ytcdfbkpdemhcpaa
namespace Go.Proofs.Ytcdfbkpdemhcpaa
open Go.Pav
set_option maxRecDepth 100000
theorem Wk.aggV {cs : List AV} {fs : List FV} (h : Wks cs (fs.map .v)) : Wk (.agg cs) (.v (.agg fs)) := fun M ρ v k => by
  unfold AVR at k
  obtain ⟨vs, h1, h2⟩ := k
  have := h.ok h2
  unfold AVR FVR
  exact ⟨vs, h1, AVRs_v.1 this⟩
def tplD (s s' : ByteArray) : Dat := listD [symD s, symD sDots, symD s']
theorem is_false {d : Dat} {s : ByteArray} (h : isSym d s = false) : PFn Try.prog Γ0 79 [encD d, .str s] (.bool false) := by
  have := is_fn d s
  rwa [h] at this
theorem is_true {d : Dat} {s : ByteArray} (h : isSym d s = true) : PFn Try.prog Γ0 79 [encD d, .str s] (.bool true) := by
  have := is_fn d s
  rwa [h] at this
theorem escaped_tpl (s s' : ByteArray) : PFn Try.prog Γ0 81 [encD (tplD s s')] (.bool false) := by
  refine PFn.intro TT_ok mixed Try.func81 rfl rfl (by rw [Try.ntmps81]; simp) fun hB => ?_
  exact ⟨.inr rfl, res1 rfl rfl⟩
theorem fill_tpl (n : Int) (cs : List Int) (c' : Int) (hn : (cs.length : Int) + 2 ≤ n) (h1 : n ≤ 10000) (B : List BindM) (hB : B.length ≤ 1000) (s s' : ByteArray) (hs : seqS s sDots = false) (hs' : seqS s' sDots = false) (hc : ∀ c ∈ cs, Limb c) (hc' : Limb c') (bn bn' : ByteArray) (d : Dat) (ks : List TreeM)
    (hf : B.find? (fun x => seqS x.name s) = some ⟨bn, .mk d true (cs.map leafT)⟩) (hf' : B.find? (fun x => seqS x.name s') = some ⟨bn', .mk (numD c') false ks⟩) :
    GFn Try.prog Γ0 52 (FS 0 n 0) [.ptr 0 0, .v (encD (tplD s s')), .v (.sl .some (rowsB B)), .v (.bool false)] (.v (encD (listD (cs.map numD ++ [numD c'])))) (FS 0 (n - cs.length - 2) 0) := by
  have hI := is_false (d := tplD s s') (s := sDots) rfl
  have hI1 := is_true (d := symD sDots) (s := sDots) (by unfold isSym; rw [show (symD sDots).str = sDots from rfl, seqS_refl]; rfl)
  have hI2 := is_false (d := symD s') (s := sDots) (by unfold isSym; rw [show (symD s').str = s' from rfl, hs', Bool.and_false])
  have hE := escaped_tpl s s'
  have hR1 := row_many (n - 1) cs (by omega) (by omega) B hB s hs hc bn d hf
  have hR2 := row_zero (n - 1 - cs.length) (by omega) (by omega) B s' hs' c' hc' bn' ks hf'
  have ew : IntKind.i64.wrap (n - 1) = n - 1 := wrap_i64 (by omega) (by omega)
  have ec : (rowsD (cs.map numD)).length = cs.length := by rw [rowsD_len, List.length_map]
  refine GFn.intro TT_ok mixed Try.func52 rfl rfl (by rw [Try.ntmps52]; simp) ?_
  refine cnd_f (by rw [ew]; simp; omega) ?_
  refine .pure _ rfl hI ?_
  refine .pure _ rfl hE ?_
  refine CdL.round TT_ok mixed ?_
  refine CdL.round TT_ok mixed ?_
  refine ⟨by decide, cellsD (symD sDots), rfl, rfl, ?_⟩
  refine .pure _ rfl hI1 ?_
  refine CdL.round TT_ok mixed ?_
  refine ⟨by decide, cellsD (symD s'), rfl, rfl, ?_⟩
  refine .pure _ rfl hI2 ?_
  refine ⟨by decide, cellsD (symD s), rfl, rfl, ?_⟩
  refine .own (fitsF (n := n - 1) (e := 0) (n' := n - 1 - cs.length) (e' := 0) (Wks.refl _) ⟨_, rfl, Wks_fs ew⟩ rfl rfl) hR1 ?_
  refine ⟨(fun c hc => by cases hc), rowsD_sz _, ?_, ?_, ?_⟩
  · show 0 + (rowsD (cs.map numD)).length ≤ _
    omega
  · show (0 + (rowsD (cs.map numD)).length) * 112 ≤ _
    omega
  refine .mk (by dsimp only [FS]; decide +kernel) ?_
  refine CdL.round TT_ok mixed ?_
  refine CdL.round TT_ok mixed ?_
  refine ⟨by decide, cellsD (symD s'), rfl, rfl, ?_⟩
  refine .own (fitsF (n := n - 1 - cs.length) (e := 0) (n' := n - 1 - cs.length - 1) (e' := 0) (Wks.refl _) ⟨_, rfl, Wks.refl _⟩ rfl rfl) hR2 ?_
  refine .inl ⟨_, rfl, rfl, rowsD_sz _, ?_, ?_, ?_⟩
  · show (rowsD (cs.map numD)).length + 1 ≤ _
    omega
  · show ((rowsD (cs.map numD)).length + 1) * 112 ≤ _
    omega
  refine .mk (by dsimp only [FS]; decide +kernel) ?_
  refine CdL.round TT_ok mixed ?_
  refine ⟨.inr rfl, rfl, _, rfl, ⟨⟨_, rfl, ?_⟩, trivial⟩, ⟨⟨_, rfl, Wks_fs (by omega)⟩, trivial⟩, trivial, rfl, rfl, rfl, rfl⟩
  refine Wk.aggV ⟨_, _, rfl, Wk.refl _, _, _, rfl, Wk.refl _, _, _, rfl, Wk.sl _ _, _, _, rfl, Wk.refl _, _, _, rfl, Wk.refl _, _, _, rfl, ?_, _, _, rfl, Wk.sl _ _, rfl⟩
  rw [rowsD_append]
  exact Wk.tsl _ _
end Go.Proofs.Ytcdfbkpdemhcpaa
namespace Go.Proofs.Ytcdfbkpdemhcpaa
open Go.Pav
set_option maxRecDepth 100000
theorem seqS_data (a b : ByteArray) : seqS a b = (a.data.toList == b.data.toList) := by unfold seqS; rw [toList_data, toList_data]
theorem total_at (n m : Int) (h0 : 0 ≤ m) (h1 : m ≤ 100000) : PFn Try.prog Γ0 60 [encD (numD n), .int .i64 m] (.int .i64 (m + 1)) := by
  have ew : IntKind.i64.wrap (m + 1) = m + 1 := wrap_i64 (by omega) (by omega)
  refine PFn.intro TT_ok mixed Try.func60 rfl rfl (by rw [Try.ntmps60]; simp) fun hB => ?_
  refine CdL.round TT_ok mixed ?_
  refine CdL.round TT_ok mixed ?_
  refine CdL.round TT_ok mixed ?_
  refine CdL.round TT_ok mixed ?_
  refine CdL.round TT_ok mixed ?_
  exact ⟨.inr rfl, res1 rfl (by show FV.int _ (IntKind.i64.wrap (m + 1)) = _; rw [ew])⟩
theorem total_three (a b c : Int) : PFn Try.prog Γ0 60 [encD (listD [numD a, numD b, numD c]), .int .i64 0] (.int .i64 4) := by
  have h1 := total_at a 1 (by omega) (by omega)
  have h2 := total_at b 2 (by omega) (by omega)
  have h3 := total_at c 3 (by omega) (by omega)
  refine PFn.intro TT_ok mixed Try.func60 rfl rfl (by rw [Try.ntmps60]; simp) fun hB => ?_
  refine CdL.round TT_ok mixed ?_
  refine CdL.round TT_ok mixed ?_
  refine ⟨by decide, cellsD (numD a), rfl, rfl, ?_⟩
  refine .pure _ rfl h1 ?_
  refine CdL.round TT_ok mixed ?_
  refine ⟨by decide, cellsD (numD b), rfl, rfl, ?_⟩
  refine .pure _ rfl h2 ?_
  refine CdL.round TT_ok mixed ?_
  refine ⟨by decide, cellsD (numD c), rfl, rfl, ?_⟩
  refine .pure _ rfl h3 ?_
  refine CdL.round TT_ok mixed ?_
  refine CdL.round TT_ok mixed ?_
  refine CdL.round TT_ok mixed ?_
  refine CdL.round TT_ok mixed ?_
  exact ⟨.inr rfl, res1 rfl rfl⟩
theorem Size_three (a b c : Int) : PFn Try.prog Γ0 39 [encD (listD [numD a, numD b, numD c])] (.int .i64 4) := by
  refine PFn.intro TT_ok mixed Try.func39 rfl rfl (by rw [Try.ntmps39]; simp) fun hB => ?_
  refine .pure _ rfl (total_three a b c) ?_
  exact ⟨.inr rfl, res1 rfl rfl⟩
theorem few_num (n : Int) : fewD (numD n) = true := by
  unfold fewD
  rw [decide_eq_true_eq, within_nonneg _ _ _ (by omega)]
  simp [numD, sizeD, sizeL, depthD, depthL]
theorem few_three (a b c : Int) : fewD (listD [numD a, numD b, numD c]) = true := by
  unfold fewD
  rw [decide_eq_true_eq, within_nonneg _ _ _ (by omega)]
  simp [listD, numD, sizeD, sizeL, depthD, depthL]
theorem Depth_num (n : Int) : PFn Try.prog Γ0 53 [encD (numD n)] (.int .i64 1) := by
  have h1 := few_fn (numD n)
  rw [few_num] at h1
  refine PFn.intro TT_ok mixed Try.func53 rfl rfl (by rw [Try.ntmps53]; simp) fun hB => ?_
  refine .pure _ rfl h1 ?_
  refine .pure _ rfl (parts_fn (numD n) (by simp [numD, Dat.items, Dat.tail])) ?_
  refine CdL.round TT_ok mixed ?_
  exact ⟨.inr rfl, res1 rfl rfl⟩
theorem Depth_three (a b c : Int) : PFn Try.prog Γ0 53 [encD (listD [numD a, numD b, numD c])] (.int .i64 2) := by
  have h1 := few_fn (listD [numD a, numD b, numD c])
  rw [few_three] at h1
  refine PFn.intro TT_ok mixed Try.func53 rfl rfl (by rw [Try.ntmps53]; simp) fun hB => ?_
  refine .pure _ rfl h1 ?_
  refine .pure _ rfl (parts_fn (listD [numD a, numD b, numD c]) (by simp [listD, Dat.items, Dat.tail])) ?_
  refine CdL.forget [(3, .v (.int .i64 0)), (10, .v (.sl .some (rowsD [numD a, numD b, numD c]))), (11, .v (.int .i64 3)), (12, .v (.int .i64 0))] ASt.nil ⟨⟨⟨_, rfl, Wk.refl _⟩, ⟨_, rfl, Wk.refl _⟩, ⟨_, rfl, Wk.refl _⟩, ⟨_, rfl, Wk.refl _⟩, trivial⟩, trivial, trivial, rfl, rfl, rfl, rfl⟩ (fun _ h => h.elim) ?_
  refine CdL.round TT_ok mixed ?_
  refine ⟨by decide, cellsD (numD a), rfl, rfl, ?_⟩
  refine .pure _ rfl (Depth_num a) ?_
  refine CdL.forget [(3, .v (.int .i64 1)), (10, .v (.sl .some (rowsD [numD a, numD b, numD c]))), (11, .v (.int .i64 3)), (12, .v (.int .i64 1))] ASt.nil ⟨⟨⟨_, rfl, Wk.refl _⟩, ⟨_, rfl, Wk.refl _⟩, ⟨_, rfl, Wk.refl _⟩, ⟨_, rfl, Wk.refl _⟩, trivial⟩, trivial, trivial, rfl, rfl, rfl, rfl⟩ (fun _ h => h.elim) ?_
  refine CdL.round TT_ok mixed ?_
  refine ⟨by decide, cellsD (numD b), rfl, rfl, ?_⟩
  refine .pure _ rfl (Depth_num b) ?_
  refine CdL.forget [(3, .v (.int .i64 1)), (10, .v (.sl .some (rowsD [numD a, numD b, numD c]))), (11, .v (.int .i64 3)), (12, .v (.int .i64 2))] ASt.nil ⟨⟨⟨_, rfl, Wk.refl _⟩, ⟨_, rfl, Wk.refl _⟩, ⟨_, rfl, Wk.refl _⟩, ⟨_, rfl, Wk.refl _⟩, trivial⟩, trivial, trivial, rfl, rfl, rfl, rfl⟩ (fun _ h => h.elim) ?_
  refine CdL.round TT_ok mixed ?_
  refine ⟨by decide, cellsD (numD c), rfl, rfl, ?_⟩
  refine .pure _ rfl (Depth_num c) ?_
  refine CdL.round TT_ok mixed ?_
  exact ⟨.inr rfl, res1 rfl rfl⟩
end Go.Proofs.Ytcdfbkpdemhcpaa
namespace Go.Proofs.Ytcdfbkpdemhcpaa
open Go.Pav
set_option maxRecDepth 100000
def sA : ByteArray := ⟨#[97]⟩
def sB : ByteArray := ⟨#[98]⟩
def bindsL : List BindM := [⟨sA, .mk (numD 1) false []⟩, ⟨sB, .mk .zero true [leafT 2, leafT 3]⟩]
theorem good_tpl : GoodD (tplD sB sA) = true := by
  unfold GoodD
  have h : decide (0 ≤ withinD (tplD sB sA) 5000 200) = true := by
    rw [decide_eq_true_eq, within_nonneg _ _ _ (by omega)]
    simp [tplD, listD, symD, sizeD, sizeL, depthD, depthL]
  rw [h, Bool.true_and]
  unfold tplD listD symD
  simp only [goodD, goodL, seqS_data]
  decide
theorem Fill_lives : PFn Try.prog Γ0 26 [encD (tplD sB sA), .sl .some (rowsB bindsL)] (.tup [encD (listD [numD 2, numD 3, numD 1]), .int .i64 0]) := by
  have hG := Good_fn (tplD sB sA)
  rw [good_tpl] at hG
  have hF := (fill_tpl 5000 [2, 3] 1 (by decide) (by decide) bindsL (by decide) sB sA (by rw [seqS_data]; rfl) (by rw [seqS_data]; rfl) (by intro c hc; simp at hc; unfold Limb; omega) (by unfold Limb; omega) sB sA .zero [] (by simp [bindsL, seqS_data, sA, sB, List.find?]) (by simp [bindsL, seqS_data, sA, sB, List.find?])).swap 0 13
  have hF' : GFn Try.prog Γ0 52 (FS 13 5000 0) [.ptr 13 0, .v (encD (tplD sB sA)), .v (.sl .some (rowsB bindsL)), .v (.bool false)] (.v (encD (listD [numD 2, numD 3, numD 1]))) (FS 13 4996 0) := hF
  have hS := Size_three 2 3 1
  have hD := Depth_three 2 3 1
  refine PFn.intro TT_ok mixed Try.func26 rfl rfl (by rw [Try.ntmps26]; simp) fun hB => ?_
  refine .pure _ rfl hG ?_
  refine .own (fitsF (n := 5000) (e := 0) (n' := 4996) (e' := 0) (Wks.refl _) ⟨_, rfl, Wks.refl _⟩ rfl rfl) hF' ?_
  refine .pure _ rfl hS ?_
  refine .pure _ rfl hD ?_
  exact ⟨.inr rfl, _, rfl, rfl⟩
end Go.Proofs.Ytcdfbkpdemhcpaa
namespace Go.Proofs.Ytcdfbkpdemhcpaa
open Go.Pav
set_option maxRecDepth 100000
theorem same_numG (n : Int) (s : ByteArray) : PFn Try.prog Γ0 16 [encD (.mk 1 false [n] false s [] []), encD (.mk 1 false [n] false s [] [])] (.bool true) := by
  have h1 := rnormI_fn false [n] (by simp)
  have h2 := sameI_fn (normNeg false [n]) (normNeg false [n]) (trimL [n]) (trimL [n])
  simp only [beq_self_eq_true, decide_true, Bool.and_self] at h2
  refine PFn.intro TT_ok mixed Try.func16 rfl rfl (by rw [Try.ntmps16]; simp) fun hB => ?_
  refine .pure _ rfl h1 ?_
  refine .pure _ rfl h1 ?_
  refine .pure _ rfl h2 ?_
  refine cnd_f (by show (!seqS s s) = false; rw [seqS_refl]; rfl) ?_
  refine .mk (by decide +kernel) ?_
  refine CdL.round TT_ok mixed ?_
  refine CdL.round TT_ok mixed ?_
  exact ⟨.inr rfl, res1 rfl rfl⟩
theorem same_num (n : Int) : PFn Try.prog Γ0 16 [encD (numD n), encD (numD n)] (.bool true) := same_numG n sEmpty
theorem same_listG (a b c : Int) (s : ByteArray) : PFn Try.prog Γ0 16 [encD (.mk 5 false [] false s [numD a, numD b, numD c] []), encD (.mk 5 false [] false s [numD a, numD b, numD c] [])] (.bool true) := by
  have h1 := rnormI_fn false [] (by simp)
  have h2 := sameI_fn (normNeg false []) (normNeg false []) (trimL []) (trimL [])
  simp only [beq_self_eq_true, decide_true, Bool.and_self] at h2
  have ha := same_num a
  have hb := same_num b
  have hc := same_num c
  refine PFn.intro TT_ok mixed Try.func16 rfl rfl (by rw [Try.ntmps16]; simp) fun hB => ?_
  refine .pure _ rfl h1 ?_
  refine .pure _ rfl h1 ?_
  refine .pure _ rfl h2 ?_
  refine cnd_f (by show (!seqS s s) = false; rw [seqS_refl]; rfl) ?_
  refine .mk (by decide +kernel) ?_
  refine CdL.forget [(2, .ptr 2 0), (3, .ptr 3 0), (56, .v (.int .i64 3)), (57, .v (.int .i64 0))] ⟨[(2, (cellsD (.mk 5 false [] false s [numD a, numD b, numD c] [])).map .v), (3, (cellsD (.mk 5 false [] false s [numD a, numD b, numD c] [])).map .v)], [], [2, 3]⟩ ⟨⟨⟨_, rfl, Wk.refl _⟩, ⟨_, rfl, Wk.refl _⟩, ⟨_, rfl, Wk.refl _⟩, ⟨_, rfl, Wk.refl _⟩, trivial⟩, ⟨⟨_, rfl, Wks.refl _⟩, ⟨_, rfl, Wks.refl _⟩, trivial⟩, trivial, rfl, rfl, rfl, rfl⟩ (fun _ h => h.elim) ?_
  refine CdL.round TT_ok mixed ?_
  refine ⟨by decide, cellsD (numD a), rfl, rfl, ?_⟩
  refine ⟨by decide, cellsD (numD a), rfl, rfl, ?_⟩
  refine .pure _ rfl ha ?_
  refine .mk (by decide +kernel) ?_
  refine CdL.round TT_ok mixed ?_
  refine ⟨by decide, cellsD (numD b), rfl, rfl, ?_⟩
  refine ⟨by decide, cellsD (numD b), rfl, rfl, ?_⟩
  refine .pure _ rfl hb ?_
  refine .mk (by decide +kernel) ?_
  refine CdL.round TT_ok mixed ?_
  refine ⟨by decide, cellsD (numD c), rfl, rfl, ?_⟩
  refine ⟨by decide, cellsD (numD c), rfl, rfl, ?_⟩
  refine .pure _ rfl hc ?_
  refine .mk (by decide +kernel) ?_
  refine CdL.round TT_ok mixed ?_
  refine CdL.round TT_ok mixed ?_
  exact ⟨.inr rfl, res1 rfl rfl⟩
theorem same_three (a b c : Int) : PFn Try.prog Γ0 16 [encD (listD [numD a, numD b, numD c]), encD (listD [numD a, numD b, numD c])] (.bool true) := same_listG a b c sEmpty
def pL : Dat := listD [symD sA, symD sB, symD sDots]
def dL : Dat := listD [numD 1, numD 2, numD 3]
theorem match_L : MatchM SameD [] pL dL = some bindsL := by kernel_rfl
theorem list_full (l : List Dat) : PFn Try.prog Γ0 29 [.sl .full (rowsD l)] (encD (listD l)) := (list_fn l).args (.cons (.some _ _) (.refl _))
theorem lives_fn : PFn Try.prog Γ0 18 [] (.bool true) := by
  have hM := Match_fn [] pL dL
  rw [match_L] at hM
  have hM' : PFn Try.prog Γ0 19 [encD pL, encD dL, .sl .nil []] (encM (some bindsL)) := hM.args (.cons (.refl _) (.cons (.refl _) (.cons FW.nil (.refl _))))
  have hF := Fill_lives
  have hS := same_three 2 3 1
  have hTp := list_full [symD sB, symD sDots, symD sA]
  have hTl := list_full [numD 2, numD 3, numD 1]
  have hP := list_full [symD sA, symD sB, symD sDots]
  have hD := list_full [numD 1, numD 2, numD 3]
  change PFn _ _ _ _ (encD (tplD sB sA)) at hTp
  change PFn _ _ _ _ (encD pL) at hP
  change PFn _ _ _ _ (encD dL) at hD
  generalize tplD sB sA = tp at *
  generalize pL = p at *
  generalize dL = d at *
  generalize listD [numD 2, numD 3, numD 1] = q at *
  obtain ⟨k1, n1, l1, b1, s1, i1, t1⟩ := tp
  obtain ⟨k2, n2, l2, b2, s2, i2, t2⟩ := p
  obtain ⟨k3, n3, l3, b3, s3, i3, t3⟩ := d
  obtain ⟨k4, n4, l4, b4, s4, i4, t4⟩ := q
  have ha := sym_fn sA
  have hb := sym_fn sB
  have hd := sym_fn sDots
  have g1 := num_fn 1
  have g2 := num_fn 2
  have g3 := num_fn 3
  refine PFn.intro TT_ok mixed Try.func18 rfl rfl (by rw [Try.ntmps18]; simp) fun hB => ?_
  refine .pure _ rfl ha ?_
  refine .pure _ rfl hb ?_
  refine .pure _ rfl hd ?_
  refine .pure _ rfl hP ?_
  refine .pure _ rfl g1 ?_
  refine .pure _ rfl g2 ?_
  refine .pure _ rfl g3 ?_
  refine .pure _ rfl hD ?_
  refine .pure _ rfl hM' ?_
  refine .mk (by decide +kernel) ?_
  refine .pure _ rfl hb ?_
  refine .pure _ rfl hd ?_
  refine .pure _ rfl ha ?_
  refine .pure _ rfl hTp ?_
  refine .pure _ rfl hF ?_
  refine .pure _ rfl g2 ?_
  refine .pure _ rfl g3 ?_
  refine .pure _ rfl g1 ?_
  refine .pure _ rfl hTl ?_
  refine .pure _ rfl hS ?_
  refine .mk (by decide +kernel) ?_
  exact ⟨.inr rfl, res1 rfl rfl⟩
end Go.Proofs.Ytcdfbkpdemhcpaa
namespace Go.Proofs.Ytcdfbkpdemhcpaa
open Go.Pav
set_option maxRecDepth 100000
theorem places_deep (L : List LikeM) : ∀ p : Dat, ∀ deep, ∀ q ∈ placesM L p deep, q.deep ≤ deep + sizeD p := by
  refine Dat.ind_ fun k n l b s it tl hi ht => ?_
  have key : ∀ l : List Dat, (∀ d ∈ l, ∀ deep, ∀ q ∈ placesM L d deep, q.deep ≤ deep + sizeD d) → ∀ deep, (∀ q ∈ placesI L l deep, q.deep ≤ deep + 1 + sizeL l) ∧ (∀ q ∈ placesT L l deep, q.deep ≤ deep + sizeL l) := by
    intro l
    induction l with
    | nil => intro _ deep; simp [placesI, placesT]
    | cons x r ih =>
      intro h deep
      obtain ⟨h1, h2⟩ := ih (fun d hd => h d (by simp [hd])) deep
      constructor
      · intro q hq
        rw [placesI, List.mem_append] at hq
        rw [sizeL]
        rcases hq with hq | hq
        · have a1 := h x (by simp) _ q hq
          have : (bif nextAgain L r then deep + 1 else deep) ≤ deep + 1 := by cases nextAgain L r <;> simp; omega
          omega
        · have := h1 q hq
          omega
      · intro q hq
        rw [placesT, List.mem_append] at hq
        rw [sizeL]
        rcases hq with hq | hq
        · have a1 := h x (by simp) _ q hq
          omega
        · have := h2 q hq
          omega
  intro deep q hq
  rw [placesM_mk] at hq
  unfold sizeD
  cases hv : varM L (.mk k n l b s it tl)
  · rw [hv, cond_false, List.mem_append] at hq
    rcases hq with hq | hq
    · have := (key it hi deep).1 q hq; omega
    · have := (key tl ht deep).2 q hq; omega
  · rw [hv, cond_true, List.mem_singleton] at hq
    subst hq
    simp only
    omega
theorem dup_mem : ∀ {ps : List PlaceM} {seen : List ByteArray}, dupM ps seen = false → ∀ x ∈ ps, seen.any (fun s => seqS s x.name) = false
  | [], _, _, x, hx => by cases hx
  | y :: r, seen, h, x, hx => by
    rw [dupM, Bool.or_eq_false_iff] at h
    rcases List.mem_cons.1 hx with rfl | hx
    · exact h.1
    · have := dup_mem h.2 x hx
      rw [List.any_append, Bool.or_eq_false_iff] at this
      exact this.1
theorem dup_names : ∀ {ps : List PlaceM} {seen : List ByteArray}, dupM ps seen = false → namesOf ps seen = seen ++ ps.map (·.name)
  | [], seen, _ => by simp [namesOf]
  | y :: r, seen, h => by
    rw [dupM, Bool.or_eq_false_iff] at h
    have e : addName seen y.name = seen ++ [y.name] := by unfold addName; rw [h.1]; rfl
    have := dup_names h.2
    unfold namesOf at this ⊢
    rw [List.foldl_cons, e, this]
    simp
theorem dup_depth : ∀ {ps : List PlaceM} {seen : List ByteArray}, dupM ps seen = false → ∀ (i : Nat) x, ps[i]? = some x → depthOf ps x.name = x.deep
  | [], _, _, i, x, hx => by simp at hx
  | y :: r, seen, h, 0, x, hx => by
    simp at hx
    subst hx
    rw [depthOf, seqS_refl]
    rfl
  | y :: r, seen, h, i + 1, x, hx => by
    have hx' : r[i]? = some x := by simpa using hx
    rw [dupM, Bool.or_eq_false_iff] at h
    have := dup_mem h.2 x (List.mem_of_getElem? hx')
    rw [List.any_append, Bool.or_eq_false_iff] at this
    have h2 : seqS y.name x.name = false := by simpa using this.2
    rw [depthOf, h2]
    exact dup_depth h.2 i x hx'
theorem MatchM_some {L : List LikeM} {p d : Dat} {r : List BindM} (h : MatchM SameD L p d = some r) : checkM L p = 0 ∧ GoodD p = true ∧ GoodD d = true ∧ wrongM L p = false ∧ dupM (placesM L p 0) [] = false ∧ (matchM SameD L p d).2 = true ∧ (matchM SameD L p d).1 = r := by
  unfold MatchM at h
  have hv := check_vals L p
  have hd : checkM L p = 0 → dupM (placesM L p 0) [] = false := by
    unfold checkM
    cases GoodD p <;> cases dupM (placesM L p 0) [] <;> simp
  rcases hv with ⟨hc, h1, h2⟩ | hc | hc
  · rw [hc] at h
    cases hg : GoodD d
    · rw [hg] at h; simp at h
    · rw [hg] at h
      simp only [bne_self_eq_false, Bool.not_true, Bool.or_false, cond_false] at h
      cases hm : (matchM SameD L p d).2
      · rw [hm] at h; simp at h
      · rw [hm] at h
        simp only [cond_true] at h
        exact ⟨hc, h1, rfl, h2, hd hc, rfl, Option.some.inj h⟩
  · rw [hc] at h; simp at h
  · rw [hc] at h; simp at h
theorem names_plain {L : List LikeM} {p d : Dat} {r : List BindM} (h : MatchM SameD L p d = some r) :
    checkM L p = 0 ∧ namesM L p = r.map (·.name) ∧ r.length ≤ 100000 ∧ ∀ (i : Nat) b, r[i]? = some b → levelT b.tree (depthM L p b.name) = true ∧ 0 ≤ depthM L p b.name ∧ depthM L p b.name ≤ 100000 := by
  obtain ⟨h1, h2, h3, h4, h5, h6, rfl⟩ := MatchM_some h
  have hf := Fine.of_good h2
  have hfd := Fine.of_good h3
  have hn := (pat_ok (S := SameD) (S' := SameD) (L := L) (fun _ _ _ _ => rfl) p hf h4).names d hfd h6 0
  have hl := pat_lv (S := SameD) (L := L) p hf h4 d hfd h6 0
  have hlen := places_len L p 0
  have hsz := hf.2.1
  have hdp := places_deep L p 0
  generalize matchM SameD L p d = m at *
  refine ⟨h1, ?_, ?_, ?_⟩
  · unfold namesM
    rw [h2, cond_true]
    have := dup_names h5
    rw [List.nil_append] at this
    rw [hn]
    exact this
  · have := congrArg List.length hn
    simp only [List.length_map] at this
    omega
  · intro i b hb
    have hi := congrArg (fun l => l[i]?) hn
    simp only [List.getElem?_map, hb, Option.map_some] at hi
    cases hq : (placesM L p 0)[i]? with
    | none => rw [hq] at hi; cases hi
    | some q =>
      rw [hq] at hi
      have hnm : b.name = q.name := Option.some.inj hi
      obtain ⟨b', h7, h8, h9⟩ := lvs_get hl i q hq
      rw [hb] at h7
      obtain rfl := Option.some.inj h7
      have hdd := dup_depth h5 i q hq
      have e : depthM L p b.name = q.deep := by
        unfold depthM
        rw [h2, cond_true, hnm]
        exact hdd
      rw [e]
      have h10 := hdp q (List.mem_of_getElem? hq)
      rw [Int.sub_zero] at h8
      exact ⟨h8, h9, by omega⟩
end Go.Proofs.Ytcdfbkpdemhcpaa
namespace Go.Proofs.Ytcdfbkpdemhcpaa
open Go.Pav
set_option maxRecDepth 100000
theorem encM_len {l : List BindM} : (rowsB l).length = l.length := rowsB_len l
theorem light_full (L : List LikeM) (ds : List Dat) : PFn Try.prog Γ0 17 [encLikes L, .sl .full (rowsD ds)] (.bool (lightM L ds)) := (light_fn L ds).args (.cons (.refl _) (.cons (.some _ _) (.refl _)))
theorem MatchNames_fn (L : List LikeM) (p d : Dat) : PFn Try.prog Γ0 8 [encD p, encD d, encLikes L] (.bool true) := by
  have hL := light_full L [p, d]
  have hV := lives_fn
  have hM := Match_fn L p d
  cases hl : lightM L [p, d]
  · rw [hl] at hL
    obtain ⟨k1, n1, l1, b1, s1, i1, t1⟩ := p
    obtain ⟨k2, n2, l2, b2, s2, i2, t2⟩ := d
    refine PFn.intro TT_ok mixed Try.func8 rfl rfl (by rw [Try.ntmps8]; simp) fun hB => ?_
    refine .pure _ rfl hL ?_
    refine .pure _ rfl hV ?_
    exact ⟨.inr rfl, res1 rfl rfl⟩
  rw [hl] at hL
  cases hm : MatchM SameD L p d with
  | none =>
    rw [hm] at hM
    obtain ⟨k1, n1, l1, b1, s1, i1, t1⟩ := p
    obtain ⟨k2, n2, l2, b2, s2, i2, t2⟩ := d
    refine PFn.intro TT_ok mixed Try.func8 rfl rfl (by rw [Try.ntmps8]; simp) fun hB => ?_
    refine .pure _ rfl hL ?_
    refine .pure _ rfl hM ?_
    refine .pure _ rfl hV ?_
    exact ⟨.inr rfl, res1 rfl rfl⟩
  | some r =>
    rw [hm] at hM
    obtain ⟨hc, hn, hrl, hr⟩ := names_plain hm
    have hC := Check_fn L p
    rw [hc] at hC
    have hN := Names_fn L p
    rw [hn] at hN
    have hD := Depth_fn L p
    have er := rowsB_len r
    have en : (strs (r.map (·.name))).length = r.length := by rw [strs_len, List.length_map]
    generalize depthM L p = dp at *
    obtain ⟨k1, n1, l1, b1, s1, i1, t1⟩ := p
    obtain ⟨k2, n2, l2, b2, s2, i2, t2⟩ := d
    refine PFn.intro TT_ok mixed Try.func8 rfl rfl (by rw [Try.ntmps8]; simp) fun hB => ?_
    refine .pure _ rfl hL ?_
    refine .pure _ rfl hM ?_
    refine .pure _ rfl hN ?_
    refine cnd_f (by show (((strs (r.map (·.name))).length : Int) != ((rowsB r).length : Int)) = false; rw [en, er]; simp) ?_
    refine .pure _ rfl hC ?_
    refine CdL.enter (CdL.wf TT_ok mixed (fun i : Nat => r.length - i) (fun i => i ≤ r.length)
      (fun i => [(2, .v (encLikes L)), (3, .ptr 3 0), (9, .v (.sl .some (strs (r.map (·.name))))), (48, .v (.sl .some (rowsB r))), (49, .v (.int .i64 r.length)), (50, .v (.int .i64 i))])
      (fun i => ⟨[(3, (cellsD (.mk k1 n1 l1 b1 s1 i1 t1)).map .v)], [], [3]⟩)
      (fun _ e A S => e = .exit 0) (fun _ _ h => h.elim) ?_ 0 (Nat.zero_le _)) ⟨⟨⟨_, rfl, Wk.refl _⟩, ⟨_, rfl, Wk.refl _⟩, ⟨_, rfl, Wk.refl _⟩, ⟨_, rfl, Wk.refl _⟩, ⟨_, rfl, Wk.int (by rw [er])⟩, ⟨_, rfl, Wk.refl _⟩, trivial⟩, ⟨⟨_, rfl, Wks.refl _⟩, trivial⟩, trivial, rfl, rfl, rfl, rfl⟩ (fun _ h => h.elim) ?_
    · intro i hi
      refine cnd_mk (fun h => ?_) (fun h => ?_)
      · have hi2 : i < r.length := by simpa using h
        obtain ⟨x, hx⟩ : ∃ x, r[i]? = some x := ⟨r[i], List.getElem?_eq_getElem hi2⟩
        obtain ⟨h1, h2, h3⟩ := hr i x hx
        have hv := level_fn x.tree (dp x.name) h1 (by omega) (by omega) (by omega)
        have hDx := hD x.name
        refine ⟨by omega, cellsB x, rowsB_get r i x hx, cellsB_len x, ?_⟩
        have hg : (strs (r.map (·.name)))[i]? = some [.str x.name] := by unfold strs; rw [List.map_map, List.getElem?_map, hx]; rfl
        obtain ⟨xn, ⟨⟨k3, n3, l3, b3, s3, i3, t3⟩, m3, ks⟩⟩ := x
        simp only at hv hDx hg
        refine ⟨by omega, _, hg, rfl, ?_⟩
        refine cnd_f (by show (!seqS xn xn) = false; rw [seqS_refl]; rfl) ?_
        refine .pure _ rfl hDx ?_
        refine .pure _ rfl hv ?_
        refine .mk (by decide +kernel) ?_
        refine ⟨i + 1, by show r.length - (i + 1) < r.length - i; omega, hi2, ?_, fun _ _ _ h => h⟩
        exact ⟨⟨⟨_, rfl, Wk.refl _⟩, ⟨_, rfl, Wk.refl _⟩, ⟨_, rfl, Wk.refl _⟩, ⟨_, rfl, Wk.refl _⟩, ⟨_, rfl, Wk.refl _⟩, ⟨_, rfl, Wk.int (wrap_i64 (by omega) (by omega))⟩, trivial⟩, ⟨⟨_, rfl, Wks.refl _⟩, trivial⟩, trivial, rfl, rfl, rfl, rfl⟩
      · rfl
    · rintro e A S rfl
      refine .pure _ rfl hV ?_
      exact ⟨.inr rfl, res1 rfl rfl⟩
end Go.Proofs.Ytcdfbkpdemhcpaa
namespace Go.Pav
open Go
section
variable {H : Type} {enc : TypeId × Value → H} {P : Program} {w w' : World} {base : Nat} {sp : Nat → Bool} {held : Bool}
/-- Plain types: slices of elements that have cells, structs, strings, integers, truths. -/
def PlainAt (P : Program) (G : TypeId → Prop) (t : TypeId) : Prop :=
  match P.underlying t with
  | some (.slice e) => 0 < P.cellsOf e ∧ G e
  | some (.struct fs) => ∀ f ∈ fs.toList, G f.type
  | some .bool | some .string | some (.int _) => True
  | _ => False
theorem trodStep_sp {G : TypeId → Prop} (hG : ∀ t, G t → PlainAt P G t) {r r' : TypeId → List Value → Option (DataW H × List MemPlace)}
    (hr : ∀ t cs x, G t → r t cs = some x → (∀ p ∈ x.2, sp p.block = true) → r' t cs = some x) {t : TypeId} (hg : G t) {cs : List Value} {x : DataW H × List MemPlace}
    (h : DataW.trodStep enc P w base (fun _ => true) held r t cs = some x) (hs : ∀ p ∈ x.2, sp p.block = true) : DataW.trodStep enc P w base sp held r' t cs = some x := by
  have hp := hG t hg
  unfold PlainAt at hp
  unfold DataW.trodStep at h ⊢
  split at h
  case h_1 => exact h
  case h_2 => exact h
  case h_3 => exact h
  case h_4 => exact h
  case h_5 => exact h
  case h_6 e a hu => rw [hu] at hp; exact hp.elim
  case h_7 => exact h
  case h_8 e a len cap ht =>
    rw [ht] at hp
    simp only at h hp ⊢
    split at h
    · rename_i hc
      rw [if_pos hc]
      simp only [Option.map_eq_some_iff, Option.bind_eq_some_iff, if_true] at h ⊢
      obtain ⟨elems, he, rest, hrest, rfl⟩ := h
      have one : ∀ (i : Nat) (y : DataW H × List MemPlace), y ∈ elems ++ rest →
          (w.cells? base (a.add (i * P.cellsOf e)) (P.cellsOf e)).bind (r e) = some y → (w.cells? base (a.add (i * P.cellsOf e)) (P.cellsOf e)).bind (r' e) = some y := by
        intro i y hy hv
        simp only [Option.bind_eq_some_iff] at hv ⊢
        obtain ⟨cs', hc', hy'⟩ := hv
        refine ⟨cs', hc', hr _ _ _ hp.2 hy' (fun p hp => hs p ?_)⟩
        simp only [List.mem_append, List.mem_flatMap]
        right
        exact ⟨y, by simpa using hy, hp⟩
      have hrl : rest.length = cap - len := by simpa using mapM_some_length hrest
      refine ⟨elems, mapM_carry he (fun i y hi hy => one i y (by simp [hy])), rest, ?_, rfl⟩
      split
      · exact mapM_carry hrest (fun j y hj hy => one (len + j) y (by simp [hy]))
      · rename_i hsp
        rcases Nat.eq_zero_or_pos (cap - len) with h0 | h0
        · rw [h0] at hrl
          rw [List.length_eq_zero_iff.1 hrl]
        · exfalso
          refine hsp (hs (.cell a.block (a.off + 0)) ?_)
          simp only [List.mem_append]
          left
          refine MemPlace.mem_row.2 ⟨0, ?_, rfl⟩
          exact Nat.mul_pos (by omega) hp.1
    · cases h
  case h_9 fs hu =>
    rw [hu] at hp
    simp only at hp
    split at h
    · rename_i hc
      rw [if_pos hc]
      simp only [Option.map_eq_some_iff] at h ⊢
      obtain ⟨xs, hx, rfl⟩ := h
      exact ⟨xs, mapM_carry hx (fun f y hf hy hv => hr _ _ _ (hp f hf) hv (fun p hp => hs p (List.mem_flatMap.2 ⟨y, hy, hp⟩))), rfl⟩
    · cases h
  case h_10 n e hu => rw [hu] at hp; exact hp.elim
  case h_11 => exact h
  case h_12 hu => rw [hu] at hp; exact hp.elim
  case h_13 => exact h
  case h_14 k e b hu => rw [hu] at hp; exact hp.elim
  case h_15 => exact h
  case h_16 => exact h
  case h_17 => exact h
  case h_18 => exact h
  case h_19 => exact h
  case h_20 => exact h
  case h_21 => cases h
theorem trod_sp {G : TypeId → Prop} (hG : ∀ t, G t → PlainAt P G t) : ∀ (n : Nat) (t : TypeId), G t → ∀ (cs : List Value) (x : DataW H × List MemPlace),
    DataW.trod enc P w base (fun _ => true) held n t cs = some x → (∀ p ∈ x.2, sp p.block = true) → DataW.trod enc P w base sp held n t cs = some x := by
  intro n
  induction n with
  | zero => intro t _ cs x h; simp [DataW.trod] at h
  | succ n ih =>
    intro t hg cs x h hs
    rw [DataW.trod_step] at h ⊢
    exact trodStep_sp hG (fun t cs x hg h hs => ih t hg cs x h hs) hg h hs
theorem TrodAll_keeps {G : TypeId → Prop} (hG : ∀ t, G t → PlainAt P G t) : ∀ {ts : List TypeId} {vs : List Value} {ds : List (DataW H)} {ps : List MemPlace}, (∀ t ∈ ts, G t) →
    DataW.TrodAll enc P w base (fun _ => true) held ts vs ds ps → (∀ p ∈ ps, sp p.block = true) → (∀ p ∈ ps, w.sameAt w' p) → DataW.TrodAll enc P w' base sp held ts vs ds ps
  | [], [], [], _, _, h, _, _ => h
  | t :: ts, v :: vs, d :: ds, ps, ht, ⟨p, q, ⟨n, h⟩, hs, e⟩, k1, k2 => by
    subst e
    exact ⟨p, q, ⟨n, DataW.trod_carry n t _ _ (trod_sp hG n t (ht t (by simp)) _ _ h fun z hz => k1 z (by simp [hz])) fun z hz => k2 z (by simp [hz])⟩, TrodAll_keeps hG (fun t h => ht t (by simp [h])) hs (fun z hz => k1 z (by simp [hz])) (fun z hz => k2 z (by simp [hz])), rfl⟩
end
end Go.Pav
namespace Go.Pav
open Go
def MW (w : World) : Mem := fun b o => w.cell? ⟨b, o, none⟩
theorem choose_list {α : Type} {Q : Nat → α → Prop} : ∀ n, (∀ i, i < n → ∃ a, Q i a) → ∃ l : List α, l.length = n ∧ ∀ (i : Nat) a, l[i]? = some a → Q i a
  | 0, _ => ⟨[], rfl, fun i a h => by simp at h⟩
  | n + 1, h => by
    obtain ⟨l, h1, h2⟩ := choose_list n fun i hi => h i (by omega)
    obtain ⟨a, ha⟩ := h n (by omega)
    refine ⟨l ++ [a], by simp [h1], fun i b hb => ?_⟩
    rcases Nat.lt_or_ge i l.length with hl | hl
    · rw [List.getElem?_append_left hl] at hb
      exact h2 i b hb
    · rw [List.getElem?_append_right hl] at hb
      have hi : i = n := by
        have := (List.getElem?_eq_some_iff.1 hb).1
        simp at this
        omega
      subst hi
      rw [h1, Nat.sub_self] at hb
      simp at hb
      subst hb
      exact ha
theorem cells_at {w : World} {base : Nat} {a : Addr} {n : Nat} {cs : List Value} (h : w.cells? base a n = some cs) : cs.length = n ∧ ∀ (j : Nat) u, cs[j]? = some u → w.cell? (a.add j) = some u := by
  unfold World.cells? at h
  split at h
  · have hl : cs.length = n := by simpa using mapM_some_length h
    refine ⟨hl, fun j u hj => ?_⟩
    have hlt : j < n := by rw [← hl]; exact (List.getElem?_eq_some_iff.1 hj).1
    rw [← hj]
    exact mapM_some_get h j j (by simp [hlt])
  · cases h
theorem Cls_of {M : Mem} {b : Nat} : ∀ {c : List FV} {cs : List Value} {o : Nat}, FVRs M c cs → (∀ (j : Nat) u, cs[j]? = some u → M b (o + j) = some u ∧ u.oneCell' = true) → Cls M c b o
  | [], _, o, _, _ => by unfold Cls; trivial
  | x :: r, cs, o, h, k => by
    unfold FVRs at h
    obtain ⟨u, us, rfl, h1, h2⟩ := h
    unfold Cls
    have k0 := k 0 u (by simp)
    refine ⟨⟨u, by simpa using k0.1, k0.2, h1⟩, Cls_of h2 fun j v hj => ?_⟩
    have := k (j + 1) v (by simpa using hj)
    rwa [show o + 1 + j = o + (j + 1) by omega]
section
variable {H : Type} {enc : TypeId × Value → H} {P : Program} {w : World} {base : Nat} {sp : Nat → Bool} {held : Bool}
def Light (P : Program) (t : TypeId) (d : DataW H) : Prop := (d.weights P t).all (· ≤ reachBytes) = true
theorem all_mem {e : TypeId} : ∀ {ds : List (DataW H)}, (DataW.weightsAll P e ds).all (· ≤ reachBytes) = true → ∀ d ∈ ds, Light P e d
  | [], _, d, h => by cases h
  | x :: r, h, d, hd => by
    rw [DataW.weightsAll, List.all_append, Bool.and_eq_true] at h
    rcases List.mem_cons.1 hd with rfl | hd
    · exact h.1
    · exact all_mem h.2 d hd
theorem open_slice {α : Type} (g : α → List FV) {t e : TypeId} {sz : Nat} (ht : P.underlying t = some (.slice e)) (hsz : P.cellsOf e = sz) (h0 : 0 < sz) (hby : 0 < P.bytesOf e) (hg : ∀ a, (g a).length = sz) {n : Nat}
    (hel : ∀ m, m < n → ∀ cs y, DataW.trod enc P w base sp held m e cs = some y → Light P e y.1 → ∃ a, FVRs (MW w) (g a) cs ∧ ∀ u ∈ cs, u.oneCell' = true)
    {cs : List Value} {x : DataW H × List MemPlace} (h : DataW.trod enc P w base sp held n t cs = some x) (hw : Light P t x.1) : ∃ (l : List α) (v : Value), cs = [v] ∧ v.oneCell' = true ∧ FVR (MW w) (.sl .some (l.map g)) v := by
  rcases DataW.trod_slice ht h with ⟨rfl, rfl⟩ | ⟨a, len, cap, elems, rest, m, rfl, rfl, rfl, hb, hl, hm, hlen, he, _, _⟩
  · refine ⟨[], _, rfl, rfl, ?_⟩
    unfold FVR
    exact ⟨none, 0, 0, rfl, rfl, ⟨Nat.le_refl _, by omega⟩, trivial, fun _ => rfl, .inl rfl⟩
  · unfold Light at hw
    simp only at hw
    rw [DataW.weights, ht] at hw
    simp only [List.all_cons, List.all_append, Bool.and_eq_true, decide_eq_true_eq, List.length_map] at hw
    obtain ⟨hw1, hw2, _⟩ := hw
    have hlen2 : len ≤ 140737488355328 := by
      unfold reachBytes at hw1
      have : elems.length ≤ (elems.length + rest.length) * P.bytesOf e := Nat.le_trans (Nat.le_add_right _ _) (Nat.le_mul_of_pos_right _ hby)
      omega
    have hall := all_mem hw2
    have key : ∀ i, i < len → ∃ al : α, ∃ ci, w.cells? base (a.add (i * sz)) sz = some ci ∧ FVRs (MW w) (g al) ci ∧ ∀ u ∈ ci, u.oneCell' = true := by
      intro i hi
      have h1 := he i hi
      have h2 : elems[i]? = some (elems[i]'(by omega)) := List.getElem?_eq_getElem (by omega)
      rw [h2, Option.bind_eq_some_iff, hsz] at h1
      obtain ⟨ci, h3, h4⟩ := h1
      obtain ⟨al, h5, h6⟩ := hel m (by omega) ci _ h4 (hall _ (List.mem_map.2 ⟨_, List.getElem_mem _, rfl⟩))
      exact ⟨al, ci, h3, h5, h6⟩
    obtain ⟨l, hl1, hl2⟩ := choose_list len key
    refine ⟨l, _, rfl, rfl, ?_⟩
    unfold FVR
    refine ⟨some a, len, cap, rfl, by rw [List.length_map, hl1], ⟨hl, hlen2⟩, trivial, (fun k => by cases k), ?_⟩
    rcases Nat.eq_zero_or_pos len with hz | hz
    · left
      rw [hz] at hl1
      rw [List.length_eq_zero_iff.1 hl1]
      rfl
    · right
      have hspot : a.spot = none := by
        obtain ⟨al, ci, h3, _, _⟩ := key 0 hz
        obtain ⟨h4, h5⟩ := cells_at h3
        have h6 : ci[0]? = some (ci[0]'(by omega)) := List.getElem?_eq_getElem (by omega)
        have h7 := h5 0 _ h6
        have e1 : (a.add (0 * sz)).add 0 = a := by simp [Addr.add]
        rw [e1] at h7
        cases hsp : a.spot with
        | none => rfl
        | some s =>
          simp only [World.cell?] at h7
          split at h7
          · simp [hsp] at h7
          · cases h7
      obtain ⟨b, off, spot⟩ := a
      simp only at hspot
      subst hspot
      refine ⟨b, off, sz, rfl, Rws.mk fun i c hi => ?_⟩
      rw [List.getElem?_map] at hi
      cases hli : l[i]? with
      | none => rw [hli] at hi; cases hi
      | some al =>
        rw [hli] at hi
        obtain rfl := Option.some.inj hi
        obtain ⟨ci, h3, h5, h6⟩ := hl2 i al hli
        obtain ⟨h7, h8⟩ := cells_at h3
        refine ⟨hg al, Cls_of h5 fun j u hj => ⟨?_, h6 u (List.mem_of_getElem? hj)⟩⟩
        have := h8 j u hj
        rw [Addr.add_lit, Addr.add_lit] at this
        exact this
end
end Go.Pav
namespace Go.Proofs.Ytcdfbkpdemhcpaa
open Go Go.Pav
set_option maxRecDepth 100000
theorem cells27 : Try.prog.cellsOf 27 = 7 := by kernel_rfl
theorem cells3 : Try.prog.cellsOf 3 = 1 := by kernel_rfl
theorem cells24 : Try.prog.cellsOf 24 = 2 := by kernel_rfl
theorem cells4 : Try.prog.cellsOf 4 = 1 := by kernel_rfl
theorem cells9 : Try.prog.cellsOf 9 = 1 := by kernel_rfl
theorem cells25 : Try.prog.cellsOf 25 = 1 := by kernel_rfl
theorem cells22 : Try.prog.cellsOf 22 = 1 := by kernel_rfl
theorem cells60 : Try.prog.cellsOf 60 = 1 := by kernel_rfl
theorem cells71 : Try.prog.cellsOf 71 = 2 := by kernel_rfl
theorem cells68 : Try.prog.cellsOf 68 = 1 := by kernel_rfl
theorem bytes27 : Try.prog.bytesOf 27 = 112 := by kernel_rfl
theorem bytes60 : Try.prog.bytesOf 60 = 4 := by kernel_rfl
theorem bytes71 : Try.prog.bytesOf 71 = 40 := by kernel_rfl
theorem bytes9 : Try.prog.bytesOf 9 = 16 := by kernel_rfl
theorem len7 {α : Type} {l : List α} (h : l.length = 7) : ∃ a b c d e f g, l = [a, b, c, d, e, f, g] := by
  match l, h with
  | [a, b, c, d, e, f, g], _ => exact ⟨a, b, c, d, e, f, g, rfl⟩
theorem len6 {α : Type} {l : List α} (h : l.length = 6) : ∃ a b c d e f, l = [a, b, c, d, e, f] := by
  match l, h with
  | [a, b, c, d, e, f], _ => exact ⟨a, b, c, d, e, f, rfl⟩
theorem len2 {α : Type} {l : List α} (h : l.length = 2) : ∃ a b, l = [a, b] := by
  match l, h with
  | [a, b], _ => exact ⟨a, b, rfl⟩
section
variable {H : Type} {enc : TypeId × Value → H} {w : World} {base : Nat} {sp : Nat → Bool} {held : Bool}
theorem light_each {ts : List TypeId} : ∀ {ts : List TypeId} {ds : List (DataW H)}, (DataW.weightsEach Try.prog ts ds).all (· ≤ reachBytes) = true → ∀ (i : Nat) t d, ts[i]? = some t → ds[i]? = some d → Light Try.prog t d
  | [], _, _, i, t, d, h1, _ => by simp at h1
  | _ :: _, [], _, i, t, d, _, h2 => by simp at h2
  | t0 :: ts, d0 :: ds, h, i, t, d, h1, h2 => by
    rw [DataW.weightsEach, List.all_append, Bool.and_eq_true] at h
    cases i with
    | zero => simp at h1 h2; subst h1 h2; exact h.1
    | succ i => exact light_each (ts := ts) h.2 i t d (by simpa using h1) (by simpa using h2)
theorem rd_u32 {n : Nat} {cs : List Value} {x : DataW H × List MemPlace} (h : DataW.trod enc Try.prog w base sp held n 60 cs = some x) : ∃ a : Int, FVRs (MW w) [.int .u32 a] cs ∧ ∀ u ∈ cs, u.oneCell' = true := by
  obtain ⟨k, rfl, _, _⟩ := DataW.trod_int Try.underlying60 h
  refine ⟨k, ?_, by intro u hu; rw [List.mem_singleton.1 hu]; rfl⟩
  unfold FVRs
  exact ⟨_, _, rfl, by unfold FVR; rfl, by unfold FVRs; rfl⟩
theorem rd_str {n : Nat} {cs : List Value} {x : DataW H × List MemPlace} (h : DataW.trod enc Try.prog w base sp held n 9 cs = some x) : ∃ a : ByteArray, FVRs (MW w) [.str a] cs ∧ ∀ u ∈ cs, u.oneCell' = true := by
  obtain ⟨k, rfl, _, _⟩ := DataW.trod_string Try.underlying9 h
  refine ⟨k, ?_, by intro u hu; rw [List.mem_singleton.1 hu]; rfl⟩
  unfold FVRs
  exact ⟨_, _, rfl, by unfold FVR; rfl, by unfold FVRs; rfl⟩
theorem FVRs1 {M : Mem} {x : FV} {v : Value} (h : FVR M x v) : FVRs M [x] [v] := by
  unfold FVRs
  exact ⟨_, _, rfl, h, by unfold FVRs; rfl⟩
theorem FVRs.cons' {M : Mem} {x : FV} {v : Value} {xs : List FV} {vs : List Value} (h : FVR M x v) (k : FVRs M xs vs) : FVRs M (x :: xs) (v :: vs) := by
  unfold FVRs
  exact ⟨_, _, rfl, h, k⟩
theorem rd_dat : ∀ (n : Nat) (cs : List Value) (x : DataW H × List MemPlace), DataW.trod enc Try.prog w base sp held n 27 cs = some x → Light Try.prog 27 x.1 → ∃ d : Dat, FVRs (MW w) (cellsD d) cs ∧ ∀ u ∈ cs, u.oneCell' = true := by
  intro n
  induction n using Nat.strongRecOn with
  | ind n ih =>
  intro cs x h hl
  obtain ⟨xs, m, rfl, rfl, hc, hx, hf⟩ := DataW.trod_struct Try.underlying27 h
  rw [cells27] at hc
  obtain ⟨c0, c1, c2, c3, c4, c5, c6, rfl⟩ := len7 hc
  obtain ⟨x0, x1, x2, x3, x4, x5, rfl⟩ := len6 hx
  unfold Light at hl
  change ((DataW.agg ([x0, x1, x2, x3, x4, x5].map (·.1))).weights Try.prog 27).all (· ≤ reachBytes) = true at hl
  rw [DataW.weights, Try.underlying27] at hl
  have hL := light_each (ts := []) hl
  have f0 : DataW.trod enc Try.prog w base sp held m 3 (List.take (Try.prog.cellsOf 3) (List.drop 0 [c0, c1, c2, c3, c4, c5, c6])) = some x0 := hf 0 _ rfl
  rw [cells3] at f0
  have f1 : DataW.trod enc Try.prog w base sp held m 24 (List.take (Try.prog.cellsOf 24) (List.drop 1 [c0, c1, c2, c3, c4, c5, c6])) = some x1 := hf 1 _ rfl
  rw [cells24] at f1
  have f2 : DataW.trod enc Try.prog w base sp held m 4 (List.take (Try.prog.cellsOf 4) (List.drop 3 [c0, c1, c2, c3, c4, c5, c6])) = some x2 := hf 2 _ rfl
  rw [cells4] at f2
  have f3 : DataW.trod enc Try.prog w base sp held m 9 (List.take (Try.prog.cellsOf 9) (List.drop 4 [c0, c1, c2, c3, c4, c5, c6])) = some x3 := hf 3 _ rfl
  rw [cells9] at f3
  have f4 : DataW.trod enc Try.prog w base sp held m 25 (List.take (Try.prog.cellsOf 25) (List.drop 5 [c0, c1, c2, c3, c4, c5, c6])) = some x4 := hf 4 _ rfl
  rw [cells25] at f4
  have f5 : DataW.trod enc Try.prog w base sp held m 25 (List.take (Try.prog.cellsOf 25) (List.drop 6 [c0, c1, c2, c3, c4, c5, c6])) = some x5 := hf 5 _ rfl
  rw [cells25] at f5
  obtain ⟨k, e0, _, _⟩ := DataW.trod_int Try.underlying3 f0
  obtain ⟨b, e2, _⟩ := DataW.trod_bool Try.underlying4 f2
  obtain ⟨s, e3, _, _⟩ := DataW.trod_string Try.underlying9 f3
  have hsl : ∀ t c y, DataW.trod enc Try.prog w base sp held m 25 [c] = some y → Light Try.prog 25 y.1 → t = 0 → ∃ l : List Dat, c.oneCell' = true ∧ FVR (MW w) (.sl .some (rowsD l)) c := by
    intro _ c y hy hly _
    obtain ⟨l, v, e, h1, h2⟩ := open_slice cellsD Try.underlying25 cells27 (by omega) (by rw [bytes27]; omega) cellsD_len (fun m' hm' cs' y' h1 h2 => ih m' (by omega) cs' y' h1 h2) hy hly
    simp only [List.cons.injEq, and_true] at e
    subst e
    exact ⟨l, h1, by rw [rowsD_eq]; exact h2⟩
  obtain ⟨it, o5, g5⟩ := hsl 0 c5 x4 f4 (hL 4 25 x4.1 rfl rfl) rfl
  obtain ⟨tl, o6, g6⟩ := hsl 0 c6 x5 f5 (hL 5 25 x5.1 rfl rfl) rfl
  have hl1 := hL 1 24 x1.1 rfl rfl
  obtain ⟨ys, m', rfl, rfl, hc', hy, hf'⟩ := DataW.trod_struct Try.underlying24 f1
  obtain ⟨y0, y1, rfl⟩ := len2 hy
  unfold Light at hl1
  change ((DataW.agg ([y0, y1].map (·.1))).weights Try.prog 24).all (· ≤ reachBytes) = true at hl1
  rw [DataW.weights, Try.underlying24] at hl1
  have hL' := light_each (ts := []) hl1
  have i0 : DataW.trod enc Try.prog w base sp held m' 4 (List.take (Try.prog.cellsOf 4) (List.drop 0 [c1, c2])) = some y0 := hf' 0 _ rfl
  rw [cells4] at i0
  have i1 : DataW.trod enc Try.prog w base sp held m' 22 (List.take (Try.prog.cellsOf 22) (List.drop 1 [c1, c2])) = some y1 := hf' 1 _ rfl
  rw [cells22] at i1
  obtain ⟨neg, e1, _⟩ := DataW.trod_bool Try.underlying4 i0
  obtain ⟨lim, v, e4, o2, g2⟩ := open_slice (fun a : Int => [FV.int .u32 a]) Try.underlying22 cells60 (by omega) (by rw [bytes60]; omega) (fun _ => rfl) (fun m' hm' cs' y' h1 h2 => rd_u32 h1) i1 (hL' 1 22 y1.1 rfl rfl)
  simp only [List.drop_succ_cons, List.drop_zero, List.take_succ_cons, List.take_zero, List.cons.injEq, and_true] at e0 e1 e2 e3 e4
  subst e0 e1 e2 e3 e4
  refine ⟨.mk k neg lim b s it tl, ?_, ?_⟩
  · unfold cellsD u32s
    refine FVRs.cons' (by unfold FVR; rfl) (FVRs.cons' (by unfold FVR; rfl) (FVRs.cons' g2 (FVRs.cons' (by unfold FVR; rfl) (FVRs.cons' (by unfold FVR; rfl) (FVRs.cons' g5 (FVRs1 g6))))))
  · intro u hu
    simp only [List.mem_cons, List.not_mem_nil, or_false] at hu
    rcases hu with rfl | rfl | rfl | rfl | rfl | rfl | rfl
    · rfl
    · rfl
    · exact o2
    · rfl
    · rfl
    · exact o5
    · exact o6
theorem rd_like : ∀ (n : Nat) (cs : List Value) (x : DataW H × List MemPlace), DataW.trod enc Try.prog w base sp held n 71 cs = some x → Light Try.prog 71 x.1 → ∃ d : LikeM, FVRs (MW w) (cellsLike d) cs ∧ ∀ u ∈ cs, u.oneCell' = true := by
  intro n cs x h hl
  obtain ⟨xs, m, rfl, rfl, hc, hx, hf⟩ := DataW.trod_struct Try.underlying71 h
  rw [cells71] at hc
  obtain ⟨c0, c1, rfl⟩ := len2 hc
  obtain ⟨x0, x1, rfl⟩ := len2 hx
  unfold Light at hl
  change ((DataW.agg ([x0, x1].map (·.1))).weights Try.prog 71).all (· ≤ reachBytes) = true at hl
  rw [DataW.weights, Try.underlying71] at hl
  have hL := light_each (ts := []) hl
  have f0 : DataW.trod enc Try.prog w base sp held m 9 (List.take (Try.prog.cellsOf 9) (List.drop 0 [c0, c1])) = some x0 := hf 0 _ rfl
  have f1 : DataW.trod enc Try.prog w base sp held m 68 (List.take (Try.prog.cellsOf 68) (List.drop 1 [c0, c1])) = some x1 := hf 1 _ rfl
  rw [cells9] at f0
  rw [cells68] at f1
  obtain ⟨s, e0, _, _⟩ := DataW.trod_string Try.underlying9 f0
  obtain ⟨l, v, e1, o1, g1⟩ := open_slice (fun a : ByteArray => [FV.str a]) Try.underlying68 cells9 (by omega) (by rw [bytes9]; omega) (fun _ => rfl) (fun m' hm' cs' y' h1 h2 => rd_str h1) f1 (hL 1 68 x1.1 rfl rfl)
  simp only [List.drop_succ_cons, List.drop_zero, List.take_succ_cons, List.take_zero, List.cons.injEq, and_true] at e0 e1
  subst e0 e1
  refine ⟨⟨s, l⟩, ?_, ?_⟩
  · unfold cellsLike strs
    exact FVRs.cons' (by unfold FVR; rfl) (FVRs1 g1)
  · intro u hu
    simp only [List.mem_cons, List.not_mem_nil, or_false] at hu
    rcases hu with rfl | rfl
    · rfl
    · exact o1
theorem open_dat {r : Reach} {b0 : Nat} {v : Value} {d : DataW H} {ps : List MemPlace} (hval : Value.okWide Try.prog w r b0 27 v) (hd : DataW.Trod enc Try.prog w base sp held 27 v d ps) (hl : Light Try.prog 27 d) : ∃ x : Dat, FVR (MW w) (encD x) v := by
  unfold Value.okWide at hval
  rw [Try.underlying27] at hval
  obtain ⟨cs, rfl, _, _⟩ := hval
  obtain ⟨n, h⟩ := hd
  obtain ⟨x, h1, _⟩ := rd_dat n _ _ h hl
  refine ⟨x, ?_⟩
  unfold encD FVR
  exact ⟨cs, rfl, h1⟩
theorem open_likes {r : Reach} {b0 : Nat} {v : Value} {d : DataW H} {ps : List MemPlace} (hval : Value.okWide Try.prog w r b0 35 v) (hd : DataW.Trod enc Try.prog w base sp held 35 v d ps) (hl : Light Try.prog 35 d) : ∃ x : List LikeM, FVR (MW w) (encLikes x) v := by
  obtain ⟨n, h⟩ := hd
  obtain ⟨l, u, e, o, g⟩ := open_slice cellsLike Try.underlying35 cells71 (by omega) (by rw [bytes71]; omega) (fun a => rfl) (fun m' hm' cs' y' h1 h2 => rd_like m' cs' y' h1 h2) h hl
  refine ⟨l, ?_⟩
  have hv : v = u := by
    unfold Value.okWide Cell.okWide Cell.ok at hval
    rw [Try.underlying35] at hval
    cases v <;> simp at hval <;> simpa [Value.cells] using e
  rw [hv]
  exact g
end
/-- The laws' types. -/
def GT (t : TypeId) : Prop := t = 27 ∨ t = 3 ∨ t = 24 ∨ t = 4 ∨ t = 9 ∨ t = 25 ∨ t = 22 ∨ t = 60 ∨ t = 35 ∨ t = 71 ∨ t = 68
theorem plain_GT : ∀ t, GT t → PlainAt Try.prog GT t := by
  intro t ht
  unfold PlainAt
  rcases ht with rfl | rfl | rfl | rfl | rfl | rfl | rfl | rfl | rfl | rfl | rfl
  · rw [Try.underlying27]; simp [GT]
  · rw [Try.underlying3]; trivial
  · rw [Try.underlying24]; simp [GT]
  · rw [Try.underlying4]; trivial
  · rw [Try.underlying9]; trivial
  · rw [Try.underlying25]; exact ⟨by rw [cells27]; omega, .inl rfl⟩
  · rw [Try.underlying22]; exact ⟨by rw [cells60]; omega, by simp [GT]⟩
  · rw [Try.underlying60]; trivial
  · rw [Try.underlying35]; exact ⟨by rw [cells71]; omega, by simp [GT]⟩
  · rw [Try.underlying71]; simp [GT]
  · rw [Try.underlying68]; exact ⟨by rw [cells9]; omega, by simp [GT]⟩
theorem keeps {W W' : World} {M' : Mem} (hf : Fr (MW W) W M' W' (fun _ => False)) : (∀ p : MemPlace, p.block < W.heap.size → W.sameAt W' p) ∧ ∀ may, W.keptBut W' may := by
  have hb : ∀ b, b < W.heap.size → W'.heap[b]? = W.heap[b]? := fun b hb => hf.block b hb (fun h => h)
  refine ⟨fun p hp => ?_, fun may => ⟨hf.os, hf.output, fun i hi => ?_⟩⟩
  · cases p with
    | cell b off => exact World.cell?_of_block (a := ⟨b, off, none⟩) (hb b hp)
    | map b => exact hb b hp
  · rw [hb i hi]
    cases W.heap[i]? with
    | none => trivial
    | some o => cases o <;> simp
end Go.Proofs.Ytcdfbkpdemhcpaa
namespace Go.Proofs.Ytcdfbkpdemhcpaa.matchNames
open Go Go.Pav Go.ChangeShapes Go.WideShapes Go.ChangeAt Go.RowKit
set_option maxRecDepth 100000
theorem own : ownKnob Try.checked.prog.godebug = none := by kernel_rfl
def z27 : Value := .agg #[.int .i64 0, .bool false, .slice none 0 0, .bool false, .string ⟨#[]⟩, .slice none 0 0, .slice none 0 0]
theorem lifted (os : Os) (started : os.Started) (H : Type) (enc : TypeId × Value → H) :
    ReturnsInHanded {} Try.checked os 8 .any (Rows.matchNamesSpec.pre6 enc Try.prog Try.f8 Rows.matchNamesRow.domain false) (Rows.matchNamesSpec.post enc Try.prog Try.f8 false true false false) := by
  have hpre : Rows.matchNamesSpec.pre6 enc Try.prog Try.f8 Rows.matchNamesRow.domain false = fun w args => (Rows.matchNamesSpec.pre enc Try.prog Try.f8 Rows.matchNamesRow.domain false w args ∧ True) ∧ sizedMet enc Try.prog Try.f8 (OpenSpec.ofChange Rows.matchNamesSpec) false w args := by
    funext w args
    simp only [ChangeSpec.pre6, and_true]
  rw [hpre]
  refine returnsInHanded_of_change_and (C := Try.checked) (X := fun _ _ => True) (fun _ _ _ _ h => h) own started (by kernel_rfl) Try.func8 ?_ ?_
  · obtain ⟨w, tape, i, h1, h2, h3, h4, h5, h6⟩ := ChangeSpec.witness6 (enc := enc) (C := Try.checked) (s := Rows.matchNamesSpec) (os := os) (fn := Try.f8) (conds := Rows.matchNamesRow.domain) false ⟨#[], #[z27, z27, .slice none 0 0], []⟩ 8 (by kernel_rfl) (by kernel_rfl) (by kernel_rfl) (by kernel_rfl)
    exact ⟨w, tape, i, h1, h2, h3, h4, ⟨⟨h5.1, trivial⟩, h5.2⟩, h6⟩
  intro W base args ds gs before hval0 hW _ hwt _ _
  have hval : ∀ (j : Nat) t v, Try.f8.params[j]? = some t → args[j]? = some v → Value.okWide Try.prog W .any base t v := hval0
  have hW' := hW
  obtain ⟨p, q, hA0, hV, rfl, hfz, hnd⟩ := hW
  have hA : DataW.TrodAll enc Try.prog W 0 (fun _ => true) true Try.f8.params.toList args.toList ds p := hA0
  rw [Try.params8] at hA hval
  obtain ⟨rfl, rfl⟩ := trodVars_none hV
  have hAll := hA
  obtain ⟨v0, vs0, d0, ds0, p0, q0, hargs, rfl, rfl, h0, r0⟩ := trodAll_cons hA
  obtain ⟨v1, vs1, d1, ds1, p1, q1, rfl, rfl, rfl, h1, r1⟩ := trodAll_cons r0
  obtain ⟨v2, vs2, d2, ds2, p2, q2, rfl, rfl, rfl, h2, r2⟩ := trodAll_cons r1
  obtain ⟨rfl, rfl, rfl⟩ := trodAll_nil r2
  obtain rfl : args = #[v0, v1, v2] := by cases args; simp_all
  have hL := light_each (ts := []) hwt
  obtain ⟨a0, g0⟩ := open_dat (hval 0 27 v0 rfl rfl) h0 (hL 0 27 d0 rfl rfl)
  obtain ⟨a1, g1⟩ := open_dat (hval 1 27 v1 rfl rfl) h1 (hL 1 27 d1 rfl rfl)
  obtain ⟨a2, g2⟩ := open_likes (hval 2 35 v2 rfl rfl) h2 (hL 2 35 d2 rfl rfl)
  refine ((MatchNames_fn a2 a0 a1).2 (MW W) W #[v0, v1, v2] (fun b o v h => h) (fun g x h => by cases h) (FVRs.cons' g0 (FVRs.cons' g1 (FVRs1 g2)))).mono fun e W' ⟨M', v, he, hv, hf, _⟩ => ?_
  unfold FVR at hv
  subst he hv
  obtain ⟨k1, k2⟩ := keeps hf
  have hlt := DataW.TrodAll.lt hAll
  refine ⟨_, rfl, [d0, d1, d2], [], _, [], _, [], hW', trodAll_cons_mk (shut_bool Try.underlying4 _) trodAll_mk0, TrodAll_keeps plain_GT (ts := [27, 27, 35]) ?_ hAll (fun z hz => by simpa using hlt z hz) (fun z hz => k1 z (hlt z hz)), rfl, k2 _, fun h => by cases h⟩
  intro t ht
  simp only [List.mem_cons, List.not_mem_nil, or_false] at ht
  rcases ht with rfl | rfl | rfl <;> simp [GT]
theorem over : Rows.matchNamesRow.holds Try.pinned (OpenSpec.ofChange Rows.matchNamesSpec) :=
  OpenClaim.holds_of_wide 8 Try.f8 rfl rfl rfl rfl rfl rfl rfl ⟨rfl, rfl, rfl, rfl, rfl⟩ rfl rfl rfl rfl rfl (by kernel_rfl) Try.func8 (by kernel_rfl)
    (of_decide_eq_true (by kernel_rfl)) (by unfold Func.isWrapper; first | (rw [if_pos (by decide +kernel)]; kernel_rfl) | (rw [if_neg (by decide +kernel)]; exact ⟨rfl, rfl⟩))
    (fun os started H enc _ => lifted os started H enc)
/-- The statement. -/
theorem proved : Rows.MatchNamesSaid := over
end Go.Proofs.Ytcdfbkpdemhcpaa.matchNames
