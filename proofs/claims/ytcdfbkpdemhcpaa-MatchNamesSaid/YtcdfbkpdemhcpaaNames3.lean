/- Part 3 of the lemmas for this: MatchNames returns true for every input, and each argument reads afterwards as it read before (no further condition). -/
import Derived.Test.YtcdfbkpdemhcpaaNames2
import Derived.Shelf.RegionOpenPlain
import Derived.WalkKit
import Derived.Lib.Walk
import Derived.Lib.SliceRun
import Derived.Lib.AppendZerosOnto
namespace Go.Pav
def toR (x : ResM) : ResR := bif x.2 then some x.1 else none
theorem toR_then (x y : ResM) : toR (x.andThen y) = ResR.andThen (toR x) (toR y) := by
  obtain ⟨a, p⟩ := x
  obtain ⟨b, q⟩ := y
  cases p <;> cases q <;> rfl
theorem then_ok {x y : ResM} (h : (x.andThen y).2 = true) : x.2 = true ∧ y.2 = true ∧ (x.andThen y).1 = x.1 ++ y.1 := by
  obtain ⟨a, p⟩ := x
  cases p
  · cases h
  · exact ⟨rfl, h, rfl⟩
theorem toR_f (b : List BindM) : toR (b, false) = none := rfl
theorem toR_t (b : List BindM) : toR (b, true) = some b := rfl
def tr (r : List BindM) (j : Nat) : TreeM := match r[j]? with | some b => b.tree | none => .mk .zero false []
def addAll (t : TreeM) (l : List TreeM) : TreeM := match t with | .mk d m ks => .mk d m (ks ++ l)
theorem addAll_addAll (t : TreeM) (a b : List TreeM) : addAll (addAll t a) b = addAll t (a ++ b) := by cases t; simp [addAll]
theorem addAll_nil (t : TreeM) : addAll t [] = t := by cases t; simp [addAll]
theorem addKids_get : ∀ (ts : List TreeM) (b : List BindM), b.length = ts.length → ∀ j : Nat, (addKids ts b)[j]? = ts[j]?.map fun t => addAll t [tr b j]
  | [], b, h, j => by cases b <;> simp [addKids]
  | .mk d m ks :: ts, [], h, j => by simp at h
  | .mk d m ks :: ts, x :: b, h, j => by
    unfold addKids
    cases j with
    | zero => simp [addAll, tr]
    | succ j =>
      have := addKids_get ts b (by simpa using h) j
      simp only [List.getElem?_cons_succ, this]
      congr 1
theorem addKids_len : ∀ (ts : List TreeM) (b : List BindM), (addKids ts b).length = ts.length
  | [], b => by cases b <;> simp [addKids]
  | .mk d m ks :: ts, [] => by simp [addKids]
  | .mk d m ks :: ts, x :: b => by unfold addKids; simp [addKids_len ts b]
theorem agains_get (f : Dat → ResM) (n : Nat) : ∀ (xs : List Dat) (ts : List TreeM), ts.length = n → (∀ x ∈ xs, (f x).2 = true → (f x).1.length = n) → (againsM f xs ts).2 = true →
    ∀ j : Nat, (againsM f xs ts).1[j]? = ts[j]?.map fun t => addAll t (xs.map fun x => tr (f x).1 j)
  | [], ts, hn, h, _, j => by simp [againsM, addAll_nil]
  | x :: xs, ts, hn, h, hok, j => by
    unfold againsM at hok ⊢
    cases hx : (f x).2
    · rw [hx] at hok; cases hok
    · rw [hx, cond_true] at hok
      rw [cond_true]
      have hl := h x (by simp) hx
      rw [agains_get f n xs _ (by rw [addKids_len, hn]) (fun y hy => h y (by simp [hy])) hok j, addKids_get _ _ (by rw [hl, hn])]
      cases ts[j]? with
      | none => rfl
      | some t => simp [addAll_addAll]
theorem agains_ok (f : Dat → ResM) : ∀ (xs : List Dat) (ts : List TreeM), (againsM f xs ts).2 = xs.all fun x => (f x).2
  | [], ts => rfl
  | x :: xs, ts => by
    unfold againsM
    rw [List.all_cons]
    cases (f x).2
    · rfl
    · rw [cond_true, agains_ok f xs, Bool.true_and]
theorem rowsR_is (f : Dat → ResM) (g : Dat → ResR) : ∀ (xs : List Dat), (∀ x ∈ xs, g x = toR (f x)) → rowsR g xs = bif xs.all fun x => (f x).2 then some (xs.map fun x => (f x).1) else none
  | [], _ => rfl
  | x :: xs, h => by
    unfold rowsR
    rw [h x (by simp), List.all_cons]
    unfold toR
    cases (f x).2
    · rfl
    · simp only [cond_true, Bool.true_and]
      rw [rowsR_is f g xs fun y hy => h y (by simp [hy])]
      cases xs.all fun x => (f x).2 <;> rfl
theorem bindsR_get (rows : List (List BindM)) : ∀ (ps : List PlaceM) (k j : Nat), (bindsR ps k rows)[j]? = ps[j]?.map fun x => ⟨x.name, treeAt (k + j) rows⟩
  | [], k, j => by simp [bindsR]
  | x :: r, k, j => by
    unfold bindsR
    cases j with
    | zero => simp
    | succ j =>
      simp only [List.getElem?_cons_succ]
      rw [bindsR_get rows r (k + 1) j, show k + 1 + j = k + (j + 1) by omega]
theorem bindsR_names (rows : List (List BindM)) : ∀ (ps : List PlaceM) (k : Nat), (bindsR ps k rows).map (·.name) = ps.map (·.name)
  | [], k => rfl
  | x :: r, k => by unfold bindsR; simp [bindsR_names rows r]
theorem binds_eq (f : Dat → ResM) (ps : List PlaceM) (xs : List Dat) (h : ∀ x ∈ xs, (f x).2 = true → (f x).1.length = ps.length) (hok : (againsM f xs (ps.map fun _ => .mk .zero true [])).2 = true) :
    bindsOf ps (againsM f xs (ps.map fun _ => .mk .zero true [])).1 = bindsR ps 0 (xs.map fun x => (f x).1) := by
  apply List.ext_getElem?
  intro j
  rw [bindsR_get]
  unfold bindsOf
  rw [List.getElem?_map]
  have hg := agains_get f ps.length xs _ (by simp) h hok j
  rw [List.getElem?_map] at hg
  cases hp : ps[j]? with
  | none =>
    have : (ps.zip (againsM f xs (ps.map fun _ => .mk .zero true [])).1)[j]? = none := by
      rw [List.getElem?_eq_none_iff] at hp ⊢
      rw [List.length_zip]; omega
    rw [this]; rfl
  | some x =>
    rw [hp] at hg
    simp only [Option.map_some] at hg
    have : (ps.zip (againsM f xs (ps.map fun _ => .mk .zero true [])).1)[j]? = some (x, addAll (.mk .zero true []) (xs.map fun x => tr (f x).1 j)) := by
      rw [List.getElem?_zip_eq_some]
      exact ⟨hp, hg⟩
    rw [this]
    simp only [Option.map_some, addAll, List.nil_append, treeAt, List.map_map, Nat.zero_add]
    rfl
theorem find_congr (L : List LikeM) {a b : ByteArray} (h : seqS a b = true) : findM L a = findM L b := by
  unfold findM
  congr 1
  funext l
  rw [seqS_iff] at h
  unfold seqS
  rw [h]
/-- What is to be shown of a pattern. -/
structure PatOk (S S' : Dat → Dat → Bool) (L : List LikeM) (p : Dat) : Prop where
  same : ∀ d, Fine d → matchR S' L p d = toR (matchM S L p d)
  names : ∀ d, Fine d → (matchM S L p d).2 = true → ∀ deep, (matchM S L p d).1.map (·.name) = (placesM L p deep).map (·.name)
theorem placesI_none {L : List LikeM} : ∀ {it : List Dat} (deep : Int), (∀ x ∈ it, againM L x = false) → placesI L it deep = it.flatMap fun x => placesM L x deep
  | [], deep, _ => by unfold placesI; rfl
  | x :: r, deep, h => by
    unfold placesI
    rw [placesI_none deep fun z hz => h z (by simp [hz])]
    have : nextAgain L r = false := by
      cases r with
      | nil => rfl
      | cons y r => exact h y (by simp)
    rw [this]
    rfl
theorem again_places {L : List LikeM} {y : Dat} (hy : againM L y = true) (hg : goodD y = true) (deep : Int) : placesM L y deep = [] := by
  obtain ⟨h1, h2, h3⟩ := again_sym hy
  obtain ⟨k, n, l, b, s, it, tl⟩ := y
  simp only [kind_mk] at h1
  subst h1
  obtain ⟨rfl, rfl⟩ := good_leaf hg (by decide)
  unfold placesM varM
  simp only [str_mk] at h2 ⊢
  simp [h2, placesI, placesT]
theorem placesI_at {L : List LikeM} : ∀ (a : List Dat) (o y : Dat) (b : List Dat) (deep : Int), againM L y = true → goodD y = true → (∀ x ∈ a ++ o :: b, againM L x = false) →
    placesI L (a ++ o :: y :: b) deep = (a.flatMap fun x => placesM L x deep) ++ (placesM L o (deep + 1) ++ b.flatMap fun x => placesM L x deep)
  | [], o, y, b, deep, hy, hg, h => by
    simp only [List.nil_append, List.flatMap_nil]
    unfold placesI placesI
    have e1 : nextAgain L (y :: b) = true := hy
    have e2 : nextAgain L b = false := by
      cases b with
      | nil => rfl
      | cons z r => exact h z (by simp)
    rw [e1, e2, again_places hy hg, placesI_none deep fun z hz => h z (by simp [hz])]
    rfl
  | x :: a, o, y, b, deep, hy, hg, h => by
    simp only [List.cons_append, List.flatMap_cons, List.append_assoc]
    unfold placesI
    rw [placesI_at a o y b deep hy hg fun z hz => h z (by simp only [List.cons_append, List.mem_cons]; exact .inr hz)]
    have e1 : nextAgain L (a ++ o :: y :: b) = false := by
      cases a with
      | nil => exact h o (by simp)
      | cons z r => exact h z (by simp)
    rw [e1]
    rfl
theorem placesT_is {L : List LikeM} : ∀ (tl : List Dat) (deep : Int), placesT L tl deep = tl.flatMap fun x => placesM L x deep
  | [], _ => by unfold placesT; rfl
  | x :: r, deep => by unfold placesT; rw [placesT_is r]; rfl
/-- Depths are counted from any number. -/
theorem places_add (L : List LikeM) : ∀ p : Dat, ∀ deep c : Int, placesM L p (deep + c) = (placesM L p deep).map fun x => ⟨x.name, x.deep + c⟩ := by
  refine Dat.ind_ fun k n l b s it tl hi ht => ?_
  have key : ∀ l : List Dat, (∀ d ∈ l, ∀ deep c : Int, placesM L d (deep + c) = (placesM L d deep).map fun x => ⟨x.name, x.deep + c⟩) → ∀ deep c : Int, placesI L l (deep + c) = (placesI L l deep).map (fun x => ⟨x.name, x.deep + c⟩) ∧ placesT L l (deep + c) = (placesT L l deep).map fun x => ⟨x.name, x.deep + c⟩ := by
    intro l
    induction l with
    | nil => intro _ deep c; simp [placesI, placesT]
    | cons x r ih =>
      intro h deep c
      obtain ⟨h1, h2⟩ := ih (fun d hd => h d (by simp [hd])) deep c
      unfold placesI placesT
      rw [h1, h2, h x (by simp) deep c]
      refine ⟨?_, by simp⟩
      cases nextAgain L r
      · simp only [cond_false]; rw [h x (by simp) deep c]; simp
      · simp only [cond_true]; rw [show deep + c + 1 = (deep + 1) + c by omega, h x (by simp) (deep + 1) c]; simp
  intro deep c
  unfold placesM
  cases varM L (.mk k n l b s it tl)
  · simp only [cond_false]
    rw [(key it hi deep c).1, (key tl ht deep c).2]
    simp
  · simp
theorem places_names (L : List LikeM) (p : Dat) (a b : Int) : (placesM L p a).map (·.name) = (placesM L p b).map (·.name) := by
  have := places_add L p a (b - a)
  rw [show a + (b - a) = b by omega] at this
  rw [this]
  simp
section
variable {S S' : Dat → Dat → Bool} {L : List LikeM}
theorem all_ok : ∀ {ps : List Dat} {ds : List Dat}, (∀ p ∈ ps, PatOk S S' L p) → (∀ d ∈ ds, Fine d) →
    allR (ps.map (matchR S' L)) ds = toR (allM (ps.map (matchM S L)) ds) ∧ ((allM (ps.map (matchM S L)) ds).2 = true → ∀ deep, (allM (ps.map (matchM S L)) ds).1.map (·.name) = (ps.flatMap fun x => placesM L x deep).map (·.name))
  | [], ds, _, _ => ⟨by simp [allR, allM, toR], fun _ deep => by simp [allM]⟩
  | p :: ps, [], _, _ => ⟨by simp [allR, allM, toR], fun h => by simp [allM] at h⟩
  | p :: ps, d :: ds, hp, hd => by
    obtain ⟨h1, h2⟩ := all_ok (ps := ps) (ds := ds) (fun q hq => hp q (by simp [hq])) (fun q hq => hd q (by simp [hq]))
    have h0 := hp p (by simp)
    have hf := hd d (by simp)
    simp only [List.map_cons]
    unfold allR allM
    rw [h1, h0.same d hf, toR_then]
    refine ⟨rfl, fun hok deep => ?_⟩
    obtain ⟨k1, k2, k3⟩ := then_ok hok
    rw [k3, List.map_append, h0.names d hf k1 deep, h2 k2 deep]
    simp
theorem row_ok {a : List Dat} {o y : Dat} {b tl : List Dat} {d : Dat} (ha : ∀ p ∈ a, PatOk S S' L p) (ho : PatOk S S' L o) (hb : ∀ p ∈ b, PatOk S S' L p) (ht : ∀ p ∈ tl, PatOk S S' L p) (htl : tl.length ≤ 1) (hd : Fine d) (hk : d.kind = 5) :
    manyR L (a ++ o :: y :: b) tl ((a ++ o :: y :: b).map (matchR S' L)) (tl.map (matchR S' L)) (a.length + 1) d = toR (rowM L (a ++ o :: y :: b) tl ((a ++ o :: y :: b).map (matchM S L)) (tl.map (matchM S L)) (a.length + 1) d) ∧
    ((rowM L (a ++ o :: y :: b) tl ((a ++ o :: y :: b).map (matchM S L)) (tl.map (matchM S L)) (a.length + 1) d).2 = true →
      ∀ deep, (rowM L (a ++ o :: y :: b) tl ((a ++ o :: y :: b).map (matchM S L)) (tl.map (matchM S L)) (a.length + 1) d).1.map (·.name) = ((a.flatMap fun x => placesM L x deep) ++ (placesM L o (deep + 1) ++ b.flatMap fun x => placesM L x deep) ++ tl.flatMap fun x => placesM L x deep).map (·.name)) := by
  have hit : ∀ x ∈ d.items, Fine x := fun x hx => hd.item hx
  have hA := all_ok (ps := a) (ds := d.items) ha hit
  have hB := all_ok (ps := b) (ds := d.items.drop (d.items.length - b.length)) hb fun x hx => hit x (List.mem_of_mem_drop hx)
  have hX : ∀ x ∈ (d.items.take (d.items.length - b.length)).drop a.length, Fine x := fun x hx => hit x (List.mem_of_mem_take (List.mem_of_mem_drop hx))
  have hrows := rowsR_is (matchM S L o) (matchR S' L o) _ fun x hx => ho.same x (hX x hx)
  have hagok := agains_ok (matchM S L o) ((d.items.take (d.items.length - b.length)).drop a.length) ((placesM L o 0).map fun _ => .mk .zero true [])
  have hbinds := binds_eq (matchM S L o) (placesM L o 0) ((d.items.take (d.items.length - b.length)).drop a.length) fun x hx hok => by
    have := congrArg List.length (ho.names x (hX x hx) hok 0)
    simpa using this
  have e1 : ∀ {α : Type} (f : Dat → α), ((a ++ o :: y :: b).map f).length - (a.length + 1 + 1) = b.length := fun f => by simp; omega
  have e2 : ∀ {α : Type} (f : Dat → α), ((a ++ o :: y :: b).map f).take a.length = a.map f := fun f => by simp
  have e3 : ∀ {α : Type} (f : Dat → α) (z : α), ((a ++ o :: y :: b).map f).getD a.length z = f o := fun f z => by simp
  have e4 : ∀ {α : Type} (f : Dat → α), ((a ++ o :: y :: b).map f).drop (a.length + 1 + 1) = b.map f := fun f => by
    have : (a ++ o :: y :: b).map f = (a.map f ++ [f o, f y]) ++ b.map f := by simp
    rw [this, List.drop_left' (by simp)]
  have e5 : (a ++ o :: y :: b).getD a.length .zero = o := by simp
  unfold manyR rowM
  simp only [Nat.add_sub_cancel, e1, e2, e3, e4, e5, hk]
  cases hc1 : decide (d.items.length < a.length + b.length)
  rotate_left
  · exact ⟨rfl, fun h => by cases h⟩
  cases hc2 : (tl.isEmpty && !d.tail.isEmpty)
  rotate_left
  · exact ⟨rfl, fun h => by cases h⟩
  simp only [bne_self_eq_false, Bool.or_self, cond_false]
  generalize hr : againsM (matchM S L o) ((d.items.take (d.items.length - b.length)).drop a.length) ((placesM L o 0).map fun _ => .mk .zero true []) = r at *
  rw [hrows, hA.1, ← hagok]
  cases hr2 : r.2
  · simp only [cond_false]
    refine ⟨by rw [toR_then]; rfl, fun h => ?_⟩
    obtain ⟨_, h2, _⟩ := then_ok h
    cases h2
  · simp only [cond_true]
    rw [toR_then, toR_then, toR_then, ← hB.1, ← hbinds hr2, toR_t]
    have htail : ∀ q, Fine q → (firstOr (tl.map (matchR S' L)) (some []) q) = toR (firstOr (tl.map (matchM S L)) ([], true) q) ∧ ((firstOr (tl.map (matchM S L)) ([], true) q).2 = true → ∀ deep, (firstOr (tl.map (matchM S L)) ([], true) q).1.map (·.name) = (tl.flatMap fun x => placesM L x deep).map (·.name)) := by
      intro q hq
      cases tl with
      | nil => exact ⟨rfl, fun _ deep => rfl⟩
      | cons p r =>
        have hr : r = [] := by cases r with | nil => rfl | cons z r => simp at htl
        subst hr
        refine ⟨(ht p (by simp)).same q hq, fun h deep => ?_⟩
        have := (ht p (by simp)).names q hq h deep
        simpa [firstOr] using this
    have hq : Fine (d.tail.headD (.mk 5 false [] false sEmpty [] [])) := by
      cases hdt : d.tail with
      | nil => exact fine_nil
      | cons z r => exact hd.tl (by rw [hdt]; simp)
    obtain ⟨t1, t2⟩ := htail _ hq
    refine ⟨by rw [t1], fun h deep => ?_⟩
    obtain ⟨k1, k2, k3⟩ := then_ok h
    obtain ⟨k4, k5, k6⟩ := then_ok k2
    obtain ⟨k7, k8, k9⟩ := then_ok k5
    rw [k3, k6, k9]
    simp only [List.map_append]
    rw [hA.2 k1 deep, hB.2 k7 deep, t2 k8 deep, hbinds hr2, bindsR_names]
    have : (placesM L o 0).map (·.name) = (placesM L o (deep + 1)).map (·.name) := places_names L o 0 (deep + 1)
    rw [this]
    simp
theorem pat_ok (hS : ∀ p d, Fine p → Fine d → S p d = S' p d) : ∀ p, Fine p → wrongM L p = false → PatOk S S' L p := by
  refine Dat.ind_ fun k n l b s it tl hi ht hp hw => ?_
  have hg := hp.1
  have hpi : ∀ x ∈ it, Fine x := fun x hx => hp.item (d := .mk k n l b s it tl) hx
  have hpt : ∀ x ∈ tl, Fine x := fun x hx => hp.tl (d := .mk k n l b s it tl) hx
  unfold wrongM at hw
  rw [Bool.or_eq_false_iff, Bool.or_eq_false_iff] at hw
  obtain ⟨⟨hw1, hw2⟩, hw3⟩ := hw
  have hT : ∀ p ∈ tl, PatOk S S' L p := fun p hp => ht p hp (hpt p hp) (wrongT_mem hw3 p hp)
  by_cases hk3 : k = 3
  · subst hk3
    obtain ⟨rfl, rfl⟩ := good_leaf hg (by decide)
    unfold againM isSym at hw1
    constructor
    · intro d hd
      unfold matchM matchR nodeM nodeR
      simp only [kind_mk, str_mk, beq_self_eq_true, cond_true]
      cases hf : findM L s with
      | some i =>
        simp only []
        have e : (likeAll L i).any (fun s => isSym d s) = (d.kind == 3 && (likeAll L i).any fun s => seqS d.str s) := by
          unfold isSym
          induction likeAll L i with
          | nil => simp
          | cons a r ih => simp only [List.any_cons, ih]; cases d.kind == 3 <;> simp
        rw [e]
        cases (d.kind == 3 && (likeAll L i).any fun s => seqS d.str s) <;> rfl
      | none =>
        simp only []
        cases seqS s sAny
        · simp only [cond_false]
          rw [copyD_few d hd.2.1 hd.2.2]
          rfl
        · rfl
    · intro d hd hok deep
      unfold matchM nodeM at hok ⊢
      unfold placesM varM
      simp only [kind_mk, str_mk, beq_self_eq_true, cond_true] at hok ⊢ hw1
      cases hf : findM L s with
      | some i => simp [placesI, placesT]
      | none =>
        simp only []
        cases hany : seqS s sAny
        · have hnd : seqS s sDots = false := by
            cases hsd : seqS s sDots
            · rfl
            · have : findM L sDots = none := by rw [← hf]; exact (find_congr L hsd).symm
              rw [hsd, this] at hw1
              simp at hw1
          simp [hnd]
        · simp [placesI, placesT]
  by_cases hk5 : k = 5
  · subst hk5
    obtain ⟨_, _, _, _, htl, _, _, _⟩ := good_list hg
    have hv : varM L (.mk 5 n l b s it tl) = false := by unfold varM; simp [kind_mk]
    have hpl : ∀ deep, placesM L (.mk 5 n l b s it tl) deep = placesI L it deep ++ tl.flatMap fun x => placesM L x deep := fun deep => by
      rw [placesM_mk, hv, placesT_is]
      rfl
    have hM : ∀ d, matchM S L (.mk 5 n l b s it tl) d = bif d.kind == 5 then listM L it tl (it.map (matchM S L)) (tl.map (matchM S L)) d else ([], false) := fun d => by
      rw [matchM_mk, matchMs_eq, matchMs_eq]
      rfl
    have hR5 : ∀ d : Dat, d.kind ≠ 5 → matchR S' L (.mk 5 n l b s it tl) d = none := fun d hd => by
      have hd' : (d.kind == 5) = false := by simpa using hd
      have hd'' : (d.kind != 5) = true := by simpa using hd
      unfold matchR nodeR
      simp only [kind_mk, items_mk, tail_mk]
      cases lastAt L it 0 none with
      | some i => simp [manyR, hd'']
      | none => simp [hd', hd'']
    have hRe : ∀ d : Dat, d.kind = 5 → matchR S' L (.mk 5 n l b s it tl) d = match lastAt L it 0 none with
        | some at_ => manyR L it tl (it.map (matchR S' L)) (tl.map (matchR S' L)) at_ d
        | none => bif it.length == 0 && tl.isEmpty then (bif d.items.isEmpty then some [] else none)
          else bif decide (d.items.length < it.length) || (tl.isEmpty && (d.items.length != it.length || !d.tail.isEmpty)) then none
          else ResR.andThen (allR (it.map (matchR S' L)) d.items) (firstOr (tl.map (matchR S' L)) (some []) (restM d it.length)) := fun d hd => by
      rw [matchR_mk, matchRs_eq, matchRs_eq]
      unfold nodeR
      simp only [kind_mk, items_mk, tail_mk, hd]
      rfl
    have wrap : (∀ d, Fine d → d.kind = 5 → matchR S' L (.mk 5 n l b s it tl) d = toR (listM L it tl (it.map (matchM S L)) (tl.map (matchM S L)) d) ∧
        ((listM L it tl (it.map (matchM S L)) (tl.map (matchM S L)) d).2 = true → ∀ deep, (listM L it tl (it.map (matchM S L)) (tl.map (matchM S L)) d).1.map (·.name) = (placesI L it deep ++ tl.flatMap fun x => placesM L x deep).map (·.name))) → PatOk S S' L (.mk 5 n l b s it tl) := by
      intro h
      constructor
      · intro d hd
        rw [hM d]
        by_cases hk : d.kind = 5
        · rw [hk]; exact (h d hd hk).1
        · have hd' : (d.kind == 5) = false := by simpa using hk
          rw [hR5 d hk, hd']; rfl
      · intro d hd hok deep
        rw [hM d] at hok ⊢
        rw [hpl]
        by_cases hk : d.kind = 5
        · rw [hk] at hok ⊢; exact (h d hd hk).2 hok deep
        · have hd' : (d.kind == 5) = false := by simpa using hk
          rw [hd'] at hok; cases hok
    refine wrap fun d hd hkd => ?_
    rw [hRe d hkd]
    rcases wrong_items hw2 with hno | ⟨a, o, y, b', rfl, hy, hno⟩
    · have hI : ∀ p ∈ it, PatOk S S' L p := fun p hp => hi p hp (hpi p hp) (hno p hp).2
      have hfi := findIdx_none fun x hx => (hno x hx).1
      have hla := lastAt_none 0 none fun x hx => (hno x hx).1
      obtain ⟨A1, A2⟩ := all_ok (ps := it) (ds := d.items) hI fun x hx => hd.item hx
      have hpn : ∀ deep, placesI L it deep = it.flatMap fun x => placesM L x deep := fun deep => placesI_none deep fun x hx => (hno x hx).1
      simp only [hla, hpn]
      unfold listM
      rw [hfi]
      simp only []
      cases tl with
      | nil =>
        simp only [List.map_nil, List.isEmpty_nil, Bool.and_true, Bool.true_and, List.flatMap_nil, List.append_nil]
        by_cases hit : it = []
        · subst hit
          have ht0 : d.items = [] → d.tail = [] := fun e => by
            obtain ⟨k, n', l', b', s', it', tl'⟩ := d
            simp only [kind_mk] at hkd
            subst hkd
            obtain ⟨_, _, _, _, g5, g6, _⟩ := good_list hd.1
            simp only [items_mk, tail_mk] at *
            cases tl' with
            | nil => rfl
            | cons x r =>
              have : (x :: r).length = 1 := by simp at g5 ⊢; exact g5
              exact absurd e (g6 this).1
          cases hdi : d.items with
          | nil => simp [ht0 hdi, allM, toR, placesI]
          | cons x r => simp [toR]
        · have h0 : (it.length == 0) = false := by simpa using hit
          rw [h0, cond_false]
          by_cases hc : d.items.length = it.length ∧ d.tail = []
          · have c1 : (decide (d.items.length < it.length) || (d.items.length != it.length || !d.tail.isEmpty)) = false := by simp [hc.1, hc.2]
            have c2 : (d.items.length == it.length && d.tail.isEmpty) = true := by simp [hc.1, hc.2]
            rw [c1, c2, cond_false, cond_true, A1]
            refine ⟨?_, fun h deep => A2 h deep⟩
            generalize allM (it.map (matchM S L)) d.items = r
            obtain ⟨r1, r2⟩ := r
            cases r2 <;> simp [toR, ResR.andThen, firstOr]
          · have c2 : (d.items.length == it.length && d.tail.isEmpty) = false := by
              rw [Bool.eq_false_iff]
              intro h
              rw [Bool.and_eq_true, beq_iff_eq, List.isEmpty_iff] at h
              exact hc h
            have c1 : (decide (d.items.length < it.length) || (d.items.length != it.length || !d.tail.isEmpty)) = true := by
              cases hh : (d.items.length != it.length || !d.tail.isEmpty)
              · exfalso
                rw [Bool.or_eq_false_iff] at hh
                refine hc ⟨by simpa using hh.1, by simpa using hh.2⟩
              · simp
            rw [c1, c2]
            exact ⟨rfl, fun h => by cases h⟩
      | cons p r =>
        have hr : r = [] := by cases r with | nil => rfl | cons z r => simp at htl
        subst hr
        simp only [List.map_cons, List.map_nil, List.isEmpty_cons, Bool.and_false, cond_false, Bool.false_and, Bool.or_false]
        cases hc : decide (d.items.length < it.length)
        · simp only [cond_false]
          have hq := hd.rest hkd (n := it.length) (by simpa using hc)
          have hp := hT p (by simp)
          show ResR.andThen _ (matchR S' L p _) = _ ∧ _
          rw [A1, hp.same _ hq, toR_then]
          refine ⟨rfl, fun h deep => ?_⟩
          obtain ⟨k1, k2, k3⟩ := then_ok h
          rw [k3, List.map_append, A2 k1 deep, hp.names _ hq k2 deep]
          simp
        · exact ⟨rfl, fun h => by cases h⟩
    · have hy2 : Fine y := hpi y (by simp)
      rw [lastAt_at a o y b' hy fun x hx => (hno x hx).1]
      unfold listM
      rw [findIdx_at a o y b' hy fun x hx => (hno x hx).1]
      simp only []
      have hq : ∀ x ∈ a ++ o :: b', PatOk S S' L x := fun x hx => by
        have hx' : x ∈ a ++ o :: y :: b' := by
          rcases List.mem_append.1 hx with h | h
          · simp [h]
          · rcases List.mem_cons.1 h with h | h <;> simp [h]
        exact hi x hx' (hpi x hx') (hno x hx).2
      obtain ⟨h1, h2⟩ := row_ok (S := S) (S' := S') (L := L) (a := a) (o := o) (y := y) (b := b') (tl := tl) (d := d) (fun p hp => hq p (by simp [hp])) (hq o (by simp)) (fun p hp => hq p (by simp [hp])) hT htl hd hkd
      refine ⟨h1, fun h deep => ?_⟩
      rw [h2 h deep, placesI_at a o y b' deep hy hy2.1 fun x hx => (hno x hx).1]
  · have hk3' : (k == 3) = false := by simpa using hk3
    have hk5' : (k == 5) = false := by simpa using hk5
    have hk5'' : (k != 5) = true := by simpa using hk5
    obtain ⟨rfl, rfl⟩ := good_leaf hg hk5
    constructor
    · intro d hd
      unfold matchM matchR nodeM nodeR
      simp only [kind_mk, hk3', hk5', hk5'', cond_false, cond_true]
      rw [hS _ _ hp hd]
      cases S' (.mk k n l b s [] []) d <;> rfl
    · intro d hd hok deep
      unfold matchM nodeM placesM varM
      simp [kind_mk, hk3', hk5', placesI, placesT]
theorem Match_eq (hS : ∀ p d, Fine p → Fine d → S p d = S' p d) (p d : Dat) : MatchR S' L p d = MatchM S L p d := by
  unfold MatchR MatchM
  cases hc : checkM L p != 0 || !GoodD d
  · rw [Bool.or_eq_false_iff] at hc
    have hc1 : checkM L p = 0 := by simpa using hc.1
    have hg : GoodD p = true := by
      unfold checkM at hc1
      cases h : GoodD p
      · rw [h] at hc1; cases hc1
      · rfl
    have hw : wrongM L p = false := by
      unfold checkM at hc1
      rw [hg] at hc1
      cases h : wrongM L p
      · rfl
      · rw [h] at hc1
        cases hdu : dupM (placesM L p 0) [] <;> rw [hdu] at hc1 <;> simp at hc1
    have hd : GoodD d = true := by simpa using hc.2
    have := (pat_ok (L := L) hS p (Fine.of_good hg) hw).same d (Fine.of_good hd)
    rw [cond_false, cond_false, this]
    rfl
  · rfl
end
end Go.Pav
namespace Go.Pav
mutual
def levelT : TreeM → Int → Bool
  | .mk _ m ks, n => (m == decide (n > 0)) && levelTs ks (n - 1) && (decide (n > 0) || ks.isEmpty)
def levelTs : List TreeM → Int → Bool
  | [], _ => true
  | t :: r, n => levelT t n && levelTs r n
end
theorem levelTs_of {l : List TreeM} {n : Int} (h : ∀ t ∈ l, levelT t n = true) : levelTs l n = true := by
  induction l with
  | nil => unfold levelTs; rfl
  | cons t r ih =>
    unfold levelTs
    rw [h t (by simp), ih fun t ht => h t (by simp [ht])]
    rfl
def lvs : List BindM → List PlaceM → Int → Bool
  | [], [], _ => true
  | b :: bs, q :: qs, deep => levelT b.tree (q.deep - deep) && decide (deep ≤ q.deep) && lvs bs qs deep
  | _, _, _ => false
theorem lvs_append : ∀ {a : List BindM} {p : List PlaceM} {b : List BindM} {q : List PlaceM} {deep : Int}, lvs a p deep = true → lvs b q deep = true → lvs (a ++ b) (p ++ q) deep = true
  | [], [], b, q, deep, _, h => h
  | x :: a, y :: p, b, q, deep, h, k => by
    simp only [List.cons_append]
    unfold lvs at h ⊢
    rw [Bool.and_eq_true] at h ⊢
    exact ⟨h.1, lvs_append h.2 k⟩
  | [], _ :: _, _, _, _, h, _ => by cases h
  | _ :: _, [], _, _, _, h, _ => by cases h
theorem lvs_get : ∀ {a : List BindM} {p : List PlaceM} {deep : Int}, lvs a p deep = true → ∀ (j : Nat) q, p[j]? = some q → ∃ b, a[j]? = some b ∧ levelT b.tree (q.deep - deep) = true ∧ deep ≤ q.deep
  | [], [], _, _, j, q, hj => by simp at hj
  | x :: a, y :: p, deep, h, j, q, hj => by
    unfold lvs at h
    rw [Bool.and_eq_true, Bool.and_eq_true, decide_eq_true_eq] at h
    cases j with
    | zero => simp at hj; subst hj; exact ⟨x, rfl, h.1.1, h.1.2⟩
    | succ j => exact lvs_get h.2 j q (by simpa using hj)
  | [], _ :: _, _, h, _, _, _ => by cases h
  | _ :: _, [], _, h, _, _, _ => by cases h
theorem lvs_len : ∀ {a : List BindM} {p : List PlaceM} {deep : Int}, lvs a p deep = true → a.length = p.length
  | [], [], _, _ => rfl
  | x :: a, y :: p, deep, h => by
    unfold lvs at h
    rw [Bool.and_eq_true] at h
    simp [lvs_len h.2]
  | [], _ :: _, _, h => by cases h
  | _ :: _, [], _, h => by cases h
theorem lvs_shift : ∀ {a : List BindM} {p : List PlaceM} {deep : Int} (c : Int), lvs a p deep = true → lvs a (p.map fun x => ⟨x.name, x.deep + c⟩) (deep + c) = true
  | [], [], _, _, _ => rfl
  | x :: a, y :: p, deep, c, h => by
    simp only [List.map_cons]
    unfold lvs at h ⊢
    rw [Bool.and_eq_true, Bool.and_eq_true, decide_eq_true_eq] at h ⊢
    refine ⟨⟨?_, by simp only; omega⟩, lvs_shift c h.2⟩
    rw [show y.deep + c - (deep + c) = y.deep - deep by omega]
    exact h.1.1
  | [], _ :: _, _, _, h => by cases h
  | _ :: _, [], _, _, h => by cases h
/-- The binds of an item that comes again. -/
theorem lvs_rows {ps : List PlaceM} {rows : List (List BindM)} {deep : Int} (h : ∀ r ∈ rows, lvs r ps 0 = true) (h0 : ∀ q ∈ ps, 0 ≤ q.deep) : ∀ (qs : List PlaceM) (k : Nat), ps.drop k = qs → lvs (bindsR qs k rows) (qs.map fun x => ⟨x.name, x.deep + (deep + 1)⟩) deep = true
  | [], k, _ => rfl
  | q :: qs, k, hk => by
    have hq : ps[k]? = some q := by rw [← List.head?_drop, hk]; rfl
    have hqs : ps.drop (k + 1) = qs := by rw [← List.tail_drop, hk]; rfl
    have hpos := h0 q (List.mem_of_getElem? hq)
    unfold bindsR
    simp only [List.map_cons]
    unfold lvs
    rw [Bool.and_eq_true, Bool.and_eq_true, decide_eq_true_eq]
    refine ⟨⟨?_, by simp only; omega⟩, lvs_rows h h0 qs (k + 1) hqs⟩
    simp only []
    rw [show q.deep + (deep + 1) - deep = q.deep + 1 by omega]
    unfold treeAt levelT
    have hp : decide (q.deep + 1 > 0) = true := by simp; omega
    rw [hp, show q.deep + 1 - 1 = q.deep by omega]
    rw [levelTs_of]
    · rfl
    · intro t ht
      rw [List.mem_map] at ht
      obtain ⟨r, hr, rfl⟩ := ht
      obtain ⟨b, hb, hl, _⟩ := lvs_get (h r hr) k q hq
      rw [hb]
      simpa using hl
/-- Places stand at no less than what they are counted from. -/
theorem places_ge (L : List LikeM) : ∀ p : Dat, ∀ deep : Int, ∀ q ∈ placesM L p deep, deep ≤ q.deep := by
  refine Dat.ind_ fun k n l b s it tl hi ht => ?_
  have key : ∀ l : List Dat, (∀ d ∈ l, ∀ deep : Int, ∀ q ∈ placesM L d deep, deep ≤ q.deep) → ∀ deep : Int, (∀ q ∈ placesI L l deep, deep ≤ q.deep) ∧ ∀ q ∈ placesT L l deep, deep ≤ q.deep := by
    intro l
    induction l with
    | nil => intro _ deep; simp [placesI, placesT]
    | cons x r ih =>
      intro h deep
      obtain ⟨h1, h2⟩ := ih (fun d hd => h d (by simp [hd])) deep
      unfold placesI placesT
      constructor
      · intro q hq
        rcases List.mem_append.1 hq with hq | hq
        · cases hn : nextAgain L r
          · rw [hn] at hq; exact h x (by simp) _ q hq
          · rw [hn] at hq
            have := h x (by simp) _ q hq
            simp only [cond_true] at this
            omega
        · exact h1 q hq
      · intro q hq
        rcases List.mem_append.1 hq with hq | hq
        · exact h x (by simp) _ q hq
        · exact h2 q hq
  intro deep q hq
  unfold placesM at hq
  cases hv : varM L (.mk k n l b s it tl)
  · rw [hv, cond_false] at hq
    rcases List.mem_append.1 hq with hq | hq
    · exact (key it hi deep).1 q hq
    · exact (key tl ht deep).2 q hq
  · rw [hv, cond_true] at hq
    simp at hq
    subst hq
    exact Int.le_refl _
def PatLv (S : Dat → Dat → Bool) (L : List LikeM) (p : Dat) : Prop := ∀ d, Fine d → (matchM S L p d).2 = true → ∀ deep, lvs (matchM S L p d).1 (placesM L p deep) deep = true
section
variable {S : Dat → Dat → Bool} {L : List LikeM}
theorem all_lv : ∀ {ps : List Dat} {ds : List Dat}, (∀ p ∈ ps, PatLv S L p) → (∀ d ∈ ds, Fine d) → (allM (ps.map (matchM S L)) ds).2 = true → ∀ deep, lvs (allM (ps.map (matchM S L)) ds).1 (ps.flatMap fun x => placesM L x deep) deep = true
  | [], ds, _, _, _, deep => by simp [allM, lvs]
  | p :: ps, [], _, _, h, deep => by simp [allM] at h
  | p :: ps, d :: ds, hp, hd, h, deep => by
    simp only [List.map_cons] at h ⊢
    unfold allM at h ⊢
    obtain ⟨k1, k2, k3⟩ := then_ok h
    rw [k3, List.flatMap_cons]
    exact lvs_append (hp p (by simp) d (hd d (by simp)) k1 deep) (all_lv (fun q hq => hp q (by simp [hq])) (fun q hq => hd q (by simp [hq])) k2 deep)
theorem tail_lv {tl : List Dat} (htl : tl.length ≤ 1) (hT : ∀ p ∈ tl, PatLv S L p) {q : Dat} (hq : Fine q) : (firstOr (tl.map (matchM S L)) ([], true) q).2 = true → ∀ deep, lvs (firstOr (tl.map (matchM S L)) ([], true) q).1 (tl.flatMap fun x => placesM L x deep) deep = true := by
  cases tl with
  | nil => exact fun _ deep => rfl
  | cons p r =>
    have hr : r = [] := by cases r with | nil => rfl | cons z r => simp at htl
    subst hr
    intro h deep
    have := hT p (by simp) q hq h deep
    simpa [firstOr] using this
theorem row_lv {a : List Dat} {o y : Dat} {b tl : List Dat} {d : Dat} (ha : ∀ p ∈ a, PatLv S L p) (ho : PatLv S L o) (hb : ∀ p ∈ b, PatLv S L p) (ht : ∀ p ∈ tl, PatLv S L p) (htl : tl.length ≤ 1) (hd : Fine d)
    (h : (rowM L (a ++ o :: y :: b) tl ((a ++ o :: y :: b).map (matchM S L)) (tl.map (matchM S L)) (a.length + 1) d).2 = true) (deep : Int) :
    lvs (rowM L (a ++ o :: y :: b) tl ((a ++ o :: y :: b).map (matchM S L)) (tl.map (matchM S L)) (a.length + 1) d).1 ((a.flatMap fun x => placesM L x deep) ++ (placesM L o (deep + 1) ++ b.flatMap fun x => placesM L x deep) ++ tl.flatMap fun x => placesM L x deep) deep = true := by
  have hit : ∀ x ∈ d.items, Fine x := fun x hx => hd.item hx
  have hX : ∀ x ∈ (d.items.take (d.items.length - b.length)).drop a.length, Fine x := fun x hx => hit x (List.mem_of_mem_take (List.mem_of_mem_drop hx))
  have hagok := agains_ok (matchM S L o) ((d.items.take (d.items.length - b.length)).drop a.length) ((placesM L o 0).map fun _ => .mk .zero true [])
  have hbinds := binds_eq (matchM S L o) (placesM L o 0) ((d.items.take (d.items.length - b.length)).drop a.length) fun x hx hok => lvs_len (ho x (hX x hx) hok 0)
  have e1 : ∀ {α : Type} (f : Dat → α), ((a ++ o :: y :: b).map f).length - (a.length + 1 + 1) = b.length := fun f => by simp; omega
  have e2 : ∀ {α : Type} (f : Dat → α), ((a ++ o :: y :: b).map f).take a.length = a.map f := fun f => by simp
  have e3 : ∀ {α : Type} (f : Dat → α) (z : α), ((a ++ o :: y :: b).map f).getD a.length z = f o := fun f z => by simp
  have e4 : ∀ {α : Type} (f : Dat → α), ((a ++ o :: y :: b).map f).drop (a.length + 1 + 1) = b.map f := fun f => by
    have : (a ++ o :: y :: b).map f = (a.map f ++ [f o, f y]) ++ b.map f := by simp
    rw [this, List.drop_left' (by simp)]
  have e5 : (a ++ o :: y :: b).getD a.length .zero = o := by simp
  unfold rowM at h ⊢
  simp only [Nat.add_sub_cancel, e1, e2, e3, e4, e5] at h ⊢
  cases hc1 : decide (d.items.length < a.length + b.length) || (tl.isEmpty && !d.tail.isEmpty)
  rotate_left
  · rw [hc1] at h; cases h
  rw [hc1] at h
  simp only [cond_false] at h ⊢
  obtain ⟨k1, k2, k3⟩ := then_ok h
  rw [k3]
  generalize hr : againsM (matchM S L o) ((d.items.take (d.items.length - b.length)).drop a.length) ((placesM L o 0).map fun _ => .mk .zero true []) = r at *
  cases hr2 : r.2
  · rw [hr2] at k2; cases k2
  · rw [hr2] at k2
    simp only [cond_true] at k2 ⊢
    obtain ⟨k4, k5, k6⟩ := then_ok k2
    obtain ⟨k7, k8, k9⟩ := then_ok k5
    have hq : Fine (d.tail.headD (.mk 5 false [] false sEmpty [] [])) := by
      cases hdt : d.tail with
      | nil => exact fine_nil
      | cons z r => exact hd.tl (by rw [hdt]; simp)
    rw [k6, k9, hbinds hr2]
    have p1 := all_lv (ps := a) (ds := d.items) ha hit k1 deep
    have p2 := all_lv (ps := b) (ds := d.items.drop (d.items.length - b.length)) hb (fun x hx => hit x (List.mem_of_mem_drop hx)) k7 deep
    have p3 := tail_lv htl ht hq k8 deep
    have p4 : lvs (bindsR (placesM L o 0) 0 (((d.items.take (d.items.length - b.length)).drop a.length).map fun x => (matchM S L o x).1)) (placesM L o (deep + 1)) deep = true := by
      have e : placesM L o (deep + 1) = (placesM L o 0).map fun x => ⟨x.name, x.deep + (deep + 1)⟩ := by
        have := places_add L o 0 (deep + 1)
        rwa [Int.zero_add] at this
      rw [e]
      refine lvs_rows (ps := placesM L o 0) ?_ (fun q hq => places_ge L o 0 q hq) _ 0 rfl
      intro r' hr'
      rw [List.mem_map] at hr'
      obtain ⟨x, hx, rfl⟩ := hr'
      rw [hr2] at hagok
      exact ho x (hX x hx) (List.all_eq_true.1 hagok.symm x hx) 0
    rw [List.append_assoc, List.append_assoc]
    exact lvs_append p1 (lvs_append p4 (lvs_append p2 p3))
theorem pat_lv : ∀ p, Fine p → wrongM L p = false → PatLv S L p := by
  refine Dat.ind_ fun k n l b s it tl hi ht hp hw => ?_
  have hg := hp.1
  have hpi : ∀ x ∈ it, Fine x := fun x hx => hp.item (d := .mk k n l b s it tl) hx
  have hpt : ∀ x ∈ tl, Fine x := fun x hx => hp.tl (d := .mk k n l b s it tl) hx
  unfold wrongM at hw
  rw [Bool.or_eq_false_iff, Bool.or_eq_false_iff] at hw
  obtain ⟨⟨hw1, hw2⟩, hw3⟩ := hw
  have hT : ∀ p ∈ tl, PatLv S L p := fun p hp => ht p hp (hpt p hp) (wrongT_mem hw3 p hp)
  by_cases hk3 : k = 3
  · subst hk3
    obtain ⟨rfl, rfl⟩ := good_leaf hg (by decide)
    unfold againM isSym at hw1
    intro d hd hok deep
    unfold matchM nodeM at hok ⊢
    unfold placesM varM
    simp only [kind_mk, str_mk, beq_self_eq_true, cond_true] at hok ⊢ hw1
    cases hf : findM L s with
    | some i => simp [placesI, placesT, lvs]
    | none =>
      simp only []
      cases hany : seqS s sAny
      · have hnd : seqS s sDots = false := by
          cases hsd : seqS s sDots
          · rfl
          · have : findM L sDots = none := by rw [← hf]; exact (find_congr L hsd).symm
            rw [hsd, this] at hw1
            simp at hw1
        simp [hnd, lvs, levelT, levelTs]
      · simp [placesI, placesT, lvs]
  by_cases hk5 : k = 5
  · subst hk5
    obtain ⟨_, _, _, _, htl, _, _, _⟩ := good_list hg
    have hv : varM L (.mk 5 n l b s it tl) = false := by unfold varM; simp [kind_mk]
    have hpl : ∀ deep, placesM L (.mk 5 n l b s it tl) deep = placesI L it deep ++ tl.flatMap fun x => placesM L x deep := fun deep => by
      rw [placesM_mk, hv, placesT_is]
      rfl
    have hM : ∀ d, matchM S L (.mk 5 n l b s it tl) d = bif d.kind == 5 then listM L it tl (it.map (matchM S L)) (tl.map (matchM S L)) d else ([], false) := fun d => by
      rw [matchM_mk, matchMs_eq, matchMs_eq]
      rfl
    intro d hd hok deep
    rw [hM d] at hok ⊢
    rw [hpl]
    by_cases hk : d.kind = 5
    rotate_left
    · have hd' : (d.kind == 5) = false := by simpa using hk
      rw [hd'] at hok; cases hok
    rw [hk] at hok ⊢
    simp only [beq_self_eq_true, cond_true] at hok ⊢
    rcases wrong_items hw2 with hno | ⟨a, o, y, b', rfl, hy, hno⟩
    · have hI : ∀ p ∈ it, PatLv S L p := fun p hp => hi p hp (hpi p hp) (hno p hp).2
      have hfi := findIdx_none fun x hx => (hno x hx).1
      rw [placesI_none _ fun x hx => (hno x hx).1]
      unfold listM at hok ⊢
      rw [hfi] at hok ⊢
      simp only [] at hok ⊢
      have hA := all_lv (ps := it) (ds := d.items) hI fun x hx => hd.item hx
      cases tl with
      | nil =>
        simp only [List.map_nil, List.flatMap_nil, List.append_nil] at hok ⊢
        cases hc : (d.items.length == it.length && d.tail.isEmpty)
        · rw [hc] at hok; cases hok
        · rw [hc] at hok
          exact hA hok deep
      | cons p r =>
        have hr : r = [] := by cases r with | nil => rfl | cons z r => simp at htl
        subst hr
        simp only [List.map_cons, List.map_nil] at hok ⊢
        cases hc : decide (d.items.length < it.length)
        · rw [hc] at hok
          simp only [cond_false] at hok ⊢
          obtain ⟨k1, k2, k3⟩ := then_ok hok
          rw [k3]
          have hq := hd.rest hk (n := it.length) (by simpa using hc)
          refine lvs_append (hA k1 deep) ?_
          have := hT p (by simp) _ hq k2 deep
          simpa using this
        · rw [hc] at hok; cases hok
    · unfold listM at hok ⊢
      rw [findIdx_at a o y b' hy fun x hx => (hno x hx).1] at hok ⊢
      simp only [] at hok ⊢
      have hq : ∀ x ∈ a ++ o :: b', PatLv S L x := fun x hx => by
        have hx' : x ∈ a ++ o :: y :: b' := by
          rcases List.mem_append.1 hx with h | h
          · simp [h]
          · rcases List.mem_cons.1 h with h | h <;> simp [h]
        exact hi x hx' (hpi x hx') (hno x hx).2
      have h2 := row_lv (S := S) (L := L) (a := a) (o := o) (y := y) (b := b') (tl := tl) (d := d) (fun p hp => hq p (by simp [hp])) (hq o (by simp)) (fun p hp => hq p (by simp [hp])) hT htl hd hok deep
      rw [placesI_at a o y b' deep hy (hpi y (by simp)).1 fun x hx => (hno x hx).1]
      exact h2
  · have hk3' : (k == 3) = false := by simpa using hk3
    have hk5' : (k == 5) = false := by simpa using hk5
    obtain ⟨rfl, rfl⟩ := good_leaf hg hk5
    intro d hd hok deep
    unfold matchM nodeM placesM varM
    simp [kind_mk, hk3', hk5', placesI, placesT, lvs]
end
end Go.Pav
namespace Go.Pav
def strs (l : List ByteArray) : List (List FV) := l.map fun s => [.str s]
def cellsLike (l : LikeM) : List FV := [.str l.name, .sl .some (strs l.all)]
def rowsLike (L : List LikeM) : List (List FV) := L.map cellsLike
def encLikes (L : List LikeM) : FV := .sl .some (rowsLike L)
def cellsPlace (p : PlaceM) : List FV := [.str p.name, .int .i64 p.deep]
def rowsPlace (l : List PlaceM) : List (List FV) := l.map cellsPlace
mutual
def cellsT : TreeM → List FV
  | .mk d m ks => cellsD d ++ [.bool m, .sl .some (rowsT ks)]
def rowsT : List TreeM → List (List FV)
  | [] => []
  | t :: r => cellsT t :: rowsT r
end
def cellsB (b : BindM) : List FV := .str b.name :: cellsT b.tree
def rowsB (l : List BindM) : List (List FV) := l.map cellsB
theorem rowsT_eq : ∀ l, rowsT l = l.map cellsT
  | [] => by unfold rowsT; rfl
  | t :: r => by unfold rowsT; rw [rowsT_eq r]; rfl
theorem cellsT_len (t : TreeM) : (cellsT t).length = 9 := by obtain ⟨d, m, k⟩ := t; unfold cellsT; simp [cellsD_len]
theorem cellsB_len (b : BindM) : (cellsB b).length = 10 := by unfold cellsB; simp [cellsT_len]
theorem map_get {α β : Type} (f : α → β) {l : List α} {i : Nat} {x : α} (h : l[i]? = some x) : (l.map f)[i]? = some (f x) := by rw [List.getElem?_map, h]; rfl
end Go.Pav
namespace Go.Proofs.Ytcdfbkpdemhcpaa
open Go.Pav
set_option maxRecDepth 100000
theorem is_fn (d : Dat) (s : ByteArray) : PFn Try.prog Γ0 79 [encD d, .str s] (.bool (isSym d s)) := by
  obtain ⟨k, n, l, b, s0, it, tl⟩ := d
  refine PFn.intro TT_ok mixed Try.func79 rfl rfl (by rw [Try.ntmps79]; simp) fun hB => ?_
  unfold isSym
  simp only [kind_mk, str_mk]
  refine cnd_mk (fun h => ?_) (fun h => ?_)
  · rw [h]; exact ⟨.inr rfl, res1 rfl rfl⟩
  · rw [h]; exact ⟨.inr rfl, res1 rfl rfl⟩
theorem findq_fn (l : LikeM) (s : ByteArray) : PFn Try.prog Γ0 96 [.agg (cellsLike l), .fptr [.str s]] (.bool (seqS l.name s)) := by
  refine PFn.intro TT_ok mixed Try.func96 rfl rfl (by rw [Try.ntmps96]; simp) fun hB => ?_
  exact ⟨.inr rfl, res1 rfl rfl⟩
def idxI (x : Option Nat) : Int := match x with | some i => (i : Int) | none => -1
/-- IndexFunc, over any rows, of any function value that turns nothing. -/
theorem indexL_fn {α : Type} (xs : List α) (cs : α → List FV) (f : FuncId) (caps : List FV) (g : α → Bool) (hsz : ∀ x ∈ xs, (cs x).length = 2) (h' : ∀ x ∈ xs, PFn Try.prog Γ0 f ([.agg (cs x)] ++ caps) (.bool (g x))) :
    PFn Try.prog Γ0 95 [.sl .some (xs.map cs), .fn f [] caps] (.int .i64 (idxI (xs.findIdx? g))) := by
  refine PFn.intro TT_ok mixed Try.func95 rfl rfl (by rw [Try.ntmps95]; simp) fun hB => ?_
  have hlen : (xs.map cs).length ≤ 140737488355328 := hB.1.1
  have el : (xs.map cs).length = xs.length := by simp
  refine CdL.enter (CdL.wf TT_ok mixed (fun i : Nat => xs.length - i) (fun i => i ≤ xs.length ∧ ∀ c ∈ xs.take i, g c = false) (fun i => [(0, .v (.sl .some (xs.map cs))), (1, .v (.fn f [] caps)), (7, .v (.int .i64 xs.length)), (8, .v (.int .i64 i))]) (fun _ => ASt.nil)
    (fun i e A S => (e = .exit 0 ∧ xs.findIdx? g = none) ∨ (e = .ret ∧ ∃ j, xs.findIdx? g = some j ∧ A.get 4 = some (.v (.int .i64 j)))) (fun _ _ h => h.elim) ?_ 0 ⟨Nat.zero_le _, by simp⟩) ⟨⟨⟨_, rfl, Wk.refl _⟩, ⟨_, rfl, Wk.refl _⟩, ⟨_, rfl, Wk.int (by rw [el])⟩, ⟨_, rfl, Wk.refl _⟩, trivial⟩, trivial, trivial, rfl, rfl, rfl, rfl⟩ (fun _ h => h.elim) ?_
  · rintro i ⟨hi, hno⟩
    refine cnd_mk (fun h => ?_) (fun h => ?_)
    · have hi2 : i < xs.length := by simpa using h
      obtain ⟨x, hx⟩ : ∃ x, xs[i]? = some x := ⟨xs[i], List.getElem?_eq_getElem hi2⟩
      have hget : (xs.map cs)[i]? = some (cs x) := map_get cs hx
      have hmem := List.mem_of_getElem? hx
      have hg := h' _ hmem
      have hl := hsz _ hmem
      generalize hc : cs x = c at *
      refine ⟨by omega, c, hget, hl, ?_⟩
      obtain ⟨x1, x2, rfl⟩ : ∃ x1 x2, c = [x1, x2] := by
        match c, hl with
        | [x1, x2], _ => exact ⟨x1, x2, rfl⟩
      refine .pure (fargs := .agg [x1, x2] :: caps) _ (allV_map (.agg [x1, x2] :: caps)) hg ?_
      refine cnd_mk (fun h => ?_) (fun h => ?_)
      · refine .inr ⟨rfl, i, ?_, rfl⟩
        rw [List.findIdx?_eq_some_iff_getElem]
        rw [List.getElem?_eq_getElem hi2] at hx
        refine ⟨hi2, by rw [Option.some.inj hx]; exact h, fun j hj => ?_⟩
        have := hno (xs[j]) (by rw [List.mem_take_iff_getElem]; exact ⟨j, by omega, rfl⟩)
        simpa using this
      · have e1 : IntKind.i64.wrap ((i : Int) + 1) = ((i + 1 : Nat) : Int) := wrap_i64 (by omega) (by omega)
        refine ⟨i + 1, by show xs.length - (i + 1) < xs.length - i; omega, ⟨by omega, fun d hd => ?_⟩, ?_, ?_⟩
        · rw [List.take_add_one, hx] at hd
          rcases List.mem_append.1 hd with hd | hd
          · exact hno d hd
          · simp at hd; subst hd; exact h
        · refine ⟨⟨⟨_, rfl, Wk.refl _⟩, ⟨_, rfl, Wk.refl _⟩, ⟨_, rfl, Wk.refl _⟩, ⟨_, rfl, Wk.int e1⟩, trivial⟩, trivial, trivial, rfl, rfl, rfl, rfl⟩
        · rintro e A S (⟨h1, h2⟩ | ⟨h1, j, h2, h3⟩)
          · exact .inl ⟨h1, h2⟩
          · exact .inr ⟨h1, j, h2, h3⟩
    · have hi2 : i = xs.length := by simp at h; omega
      refine .inl ⟨rfl, ?_⟩
      rw [List.findIdx?_eq_none_iff]
      intro c hc
      exact hno c (by rw [hi2, List.take_length]; exact hc)
  · rintro e A S (⟨rfl, h5⟩ | ⟨rfl, j, h5, h6⟩)
    · rw [h5]; exact ⟨.inr rfl, res1 rfl rfl⟩
    · rw [h5]
      exact ⟨.inr rfl, res1 h6 rfl⟩
/-- IndexFunc, over any rows, of any function value that turns nothing. -/
theorem indexD_fn {α : Type} (xs : List α) (cs : α → List FV) (f : FuncId) (caps : List FV) (g : α → Bool) (hsz : ∀ x ∈ xs, (cs x).length = 7) (h' : ∀ x ∈ xs, PFn Try.prog Γ0 f ([.agg (cs x)] ++ caps) (.bool (g x))) :
    PFn Try.prog Γ0 97 [.sl .some (xs.map cs), .fn f [] caps] (.int .i64 (idxI (xs.findIdx? g))) := by
  refine PFn.intro TT_ok mixed Try.func97 rfl rfl (by rw [Try.ntmps97]; simp) fun hB => ?_
  have hlen : (xs.map cs).length ≤ 140737488355328 := hB.1.1
  have el : (xs.map cs).length = xs.length := by simp
  refine CdL.enter (CdL.wf TT_ok mixed (fun i : Nat => xs.length - i) (fun i => i ≤ xs.length ∧ ∀ c ∈ xs.take i, g c = false) (fun i => [(0, .v (.sl .some (xs.map cs))), (1, .v (.fn f [] caps)), (7, .v (.int .i64 xs.length)), (8, .v (.int .i64 i))]) (fun _ => ASt.nil)
    (fun i e A S => (e = .exit 0 ∧ xs.findIdx? g = none) ∨ (e = .ret ∧ ∃ j, xs.findIdx? g = some j ∧ A.get 4 = some (.v (.int .i64 j)))) (fun _ _ h => h.elim) ?_ 0 ⟨Nat.zero_le _, by simp⟩) ⟨⟨⟨_, rfl, Wk.refl _⟩, ⟨_, rfl, Wk.refl _⟩, ⟨_, rfl, Wk.int (by rw [el])⟩, ⟨_, rfl, Wk.refl _⟩, trivial⟩, trivial, trivial, rfl, rfl, rfl, rfl⟩ (fun _ h => h.elim) ?_
  · rintro i ⟨hi, hno⟩
    refine cnd_mk (fun h => ?_) (fun h => ?_)
    · have hi2 : i < xs.length := by simpa using h
      obtain ⟨x, hx⟩ : ∃ x, xs[i]? = some x := ⟨xs[i], List.getElem?_eq_getElem hi2⟩
      have hget : (xs.map cs)[i]? = some (cs x) := map_get cs hx
      have hmem := List.mem_of_getElem? hx
      have hg := h' _ hmem
      have hl := hsz _ hmem
      generalize hc : cs x = c at *
      refine ⟨by omega, c, hget, hl, ?_⟩
      obtain ⟨x1, x2, x3, x4, x5, x6, x7, rfl⟩ : ∃ x1 x2 x3 x4 x5 x6 x7, c = [x1, x2, x3, x4, x5, x6, x7] := by
        match c, hl with
        | [x1, x2, x3, x4, x5, x6, x7], _ => exact ⟨x1, x2, x3, x4, x5, x6, x7, rfl⟩
      refine .pure (fargs := .agg [x1, x2, x3, x4, x5, x6, x7] :: caps) _ (allV_map (.agg [x1, x2, x3, x4, x5, x6, x7] :: caps)) hg ?_
      refine cnd_mk (fun h => ?_) (fun h => ?_)
      · refine .inr ⟨rfl, i, ?_, rfl⟩
        rw [List.findIdx?_eq_some_iff_getElem]
        rw [List.getElem?_eq_getElem hi2] at hx
        refine ⟨hi2, by rw [Option.some.inj hx]; exact h, fun j hj => ?_⟩
        have := hno (xs[j]) (by rw [List.mem_take_iff_getElem]; exact ⟨j, by omega, rfl⟩)
        simpa using this
      · have e1 : IntKind.i64.wrap ((i : Int) + 1) = ((i + 1 : Nat) : Int) := wrap_i64 (by omega) (by omega)
        refine ⟨i + 1, by show xs.length - (i + 1) < xs.length - i; omega, ⟨by omega, fun d hd => ?_⟩, ?_, ?_⟩
        · rw [List.take_add_one, hx] at hd
          rcases List.mem_append.1 hd with hd | hd
          · exact hno d hd
          · simp at hd; subst hd; exact h
        · refine ⟨⟨⟨_, rfl, Wk.refl _⟩, ⟨_, rfl, Wk.refl _⟩, ⟨_, rfl, Wk.refl _⟩, ⟨_, rfl, Wk.int e1⟩, trivial⟩, trivial, trivial, rfl, rfl, rfl, rfl⟩
        · rintro e A S (⟨h1, h2⟩ | ⟨h1, j, h2, h3⟩)
          · exact .inl ⟨h1, h2⟩
          · exact .inr ⟨h1, j, h2, h3⟩
    · have hi2 : i = xs.length := by simp at h; omega
      refine .inl ⟨rfl, ?_⟩
      rw [List.findIdx?_eq_none_iff]
      intro c hc
      exact hno c (by rw [hi2, List.take_length]; exact hc)
  · rintro e A S (⟨rfl, h5⟩ | ⟨rfl, j, h5, h6⟩)
    · rw [h5]; exact ⟨.inr rfl, res1 rfl rfl⟩
    · rw [h5]
      exact ⟨.inr rfl, res1 h6 rfl⟩
theorem find_fn (L : List LikeM) (s : ByteArray) : PFn Try.prog Γ0 68 [encLikes L, .str s] (.int .i64 (idxI (findM L s))) := by
  refine PFn.intro TT_ok mixed Try.func68 rfl rfl (by rw [Try.ntmps68]; simp) fun hB => ?_
  refine .lent 8 (.int .i64 (idxI (findM L s))) rfl rfl rfl ?_ ?_
  · exact indexL_fn L cellsLike 96 [.fptr [.str s]] (fun l => seqS l.name s) (fun _ _ => rfl) fun l _ => findq_fn l s
  · exact ⟨.inr rfl, res1 rfl rfl⟩
theorem idxI_lt (x : Option Nat) : decide (idxI x < 0) = x.isNone := by
  cases x with
  | none => rfl
  | some i => exact decide_eq_false (by show ¬ ((i : Int) < 0); omega)
theorem idxI_ge (x : Option Nat) : decide (idxI x ≥ 0) = x.isSome := by
  cases x with
  | none => rfl
  | some i => exact decide_eq_true (by show (i : Int) ≥ 0; omega)
theorem again_fn (L : List LikeM) (d : Dat) : PFn Try.prog Γ0 86 [encD d, encLikes L] (.bool (againM L d)) := by
  have h1 := is_fn d sDots
  unfold againM
  generalize isSym d sDots = x at *
  obtain ⟨k, n, l, b, s0, it, tl⟩ := d
  refine PFn.intro TT_ok mixed Try.func86 rfl rfl (by rw [Try.ntmps86]; simp) fun hB => ?_
  refine .pure _ rfl h1 ?_
  cases x
  · exact ⟨.inr rfl, res1 rfl rfl⟩
  · refine .pure _ rfl (find_fn L sDots) ?_
    refine ⟨.inr rfl, res1 rfl ?_⟩
    show FV.bool (decide (idxI (findM L sDots) < 0)) = _
    rw [idxI_lt]; rfl
theorem variable_fn (L : List LikeM) (d : Dat) : PFn Try.prog Γ0 85 [encD d, encLikes L] (.bool (varM L d)) := by
  unfold varM
  obtain ⟨k, n, l, b, s, it, tl⟩ := d
  simp only [kind_mk, str_mk]
  refine PFn.intro TT_ok mixed Try.func85 rfl rfl (by rw [Try.ntmps85]; simp) fun hB => ?_
  refine cnd_mk (fun h => ?_) (fun h => ?_)
  · rw [h]
    refine cnd_mk (fun h2 => ?_) (fun h2 => ?_)
    · have e2 : (!seqS s sDots) = true := h2
      rw [e2]
      refine cnd_mk (fun h3 => ?_) (fun h3 => ?_)
      · have e3 : (!seqS s sAny) = true := h3
        rw [e3]
        refine .pure _ rfl (find_fn L s) ?_
        refine ⟨.inr rfl, res1 rfl ?_⟩
        show FV.bool (decide (idxI (findM L s) < 0)) = _
        rw [idxI_lt]; rfl
      · have e3 : (!seqS s sAny) = false := h3
        rw [e3]
        exact ⟨.inr rfl, res1 rfl rfl⟩
    · have e2 : (!seqS s sDots) = false := h2
      rw [e2]
      exact ⟨.inr rfl, res1 rfl rfl⟩
  · rw [h]; exact ⟨.inr rfl, res1 rfl rfl⟩
end Go.Proofs.Ytcdfbkpdemhcpaa
namespace Go.Proofs.Ytcdfbkpdemhcpaa
open Go.Pav
set_option maxRecDepth 100000
theorem places_len (L : List LikeM) : ∀ p : Dat, ∀ deep, (placesM L p deep).length ≤ sizeD p := by
  refine Dat.ind_ fun k n l b s it tl hi ht => ?_
  have key : ∀ l : List Dat, (∀ d ∈ l, ∀ deep, (placesM L d deep).length ≤ sizeD d) → ∀ deep, (placesI L l deep).length ≤ sizeL l ∧ (placesT L l deep).length ≤ sizeL l := by
    intro l
    induction l with
    | nil => intro _ deep; simp [placesI, placesT, sizeL]
    | cons x r ih =>
      intro h deep
      obtain ⟨h1, h2⟩ := ih (fun d hd => h d (by simp [hd])) deep
      simp only [placesI, placesT, sizeL, List.length_append]
      have a1 := h x (by simp) (bif nextAgain L r then deep + 1 else deep)
      have a2 := h x (by simp) deep
      omega
  intro deep
  rw [placesM_mk]
  unfold sizeD
  cases varM L (.mk k n l b s it tl)
  · simp only [cond_false, List.length_append]
    have := (key it hi deep).1
    have := (key tl ht deep).2
    omega
  · simp
def Pp (L : List LikeM) (p : Dat) : Prop := ∀ deep : Int, 0 ≤ deep → deep + sizeD p ≤ 1152921504606846976 → sizeD p ≤ 100000 → PFn Try.prog Γ0 56 [encD p, .int .i64 deep, encLikes L] (.sl .some (rowsPlace (placesM L p deep)))
theorem rowsPlace_one (l : List PlaceM) : ∀ c ∈ rowsPlace l, c.length = 2 := by
  intro c hc
  unfold rowsPlace at hc
  rw [List.mem_map] at hc
  obtain ⟨p, _, rfl⟩ := hc
  rfl
theorem rowsPlace_len (l : List PlaceM) : (rowsPlace l).length = l.length := by simp [rowsPlace]
theorem rowsPlace_app (a b : List PlaceM) : rowsPlace a ++ rowsPlace b = rowsPlace (a ++ b) := by simp [rowsPlace]
theorem places_fn (L : List LikeM) : ∀ p, Pp L p := by
  refine Dat.ind_ fun k n l b s it tl hi ht deep h0 hd hsz => ?_
  have hv := variable_fn L (.mk k n l b s it tl)
  have hplen := places_len L (.mk k n l b s it tl) deep
  rw [placesM_mk] at hplen ⊢
  cases hvv : varM L (.mk k n l b s it tl)
  rotate_left
  · rw [hvv] at hv
    refine PFn.res (r := .sl .full [[.str s, .int .i64 deep]]) ?_ fun _ _ h => FVR.some h
    refine PFn.intro TT_ok mixed Try.func56 rfl rfl (by rw [Try.ntmps56]; simp) fun hB => ?_
    refine .pure _ rfl hv ?_
    exact ⟨.inr rfl, res1 rfl rfl⟩
  · rw [hvv] at hv hplen
    simp only [cond_false, List.length_append] at hplen ⊢
    refine PFn.intro TT_ok mixed Try.func56 rfl rfl (by rw [Try.ntmps56]; simp) fun hB => ?_
    obtain ⟨_, hlen, hlen2, _, _⟩ := BdD_mk hB.1
    have el := rowsD_len it
    have el2 := rowsD_len tl
    unfold sizeD at hd hsz hplen
    refine .pure _ rfl hv ?_
    refine CdL.adopt 7 100 99 2 rfl (.inl rfl) rfl (by simp) ?_
    refine CdL.enter (CdL.wf TT_ok mixed (fun x : Nat × List PlaceM => it.length - x.1) (fun x => x.1 ≤ it.length ∧ x.2 ++ placesI L (it.drop x.1) deep = placesI L it deep)
      (fun x => [(1, .v (.int .i64 deep)), (2, .v (encLikes L)), (3, .ptr 3 0), (7, .tsl 100 (rowsPlace x.2)), (22, .v (.sl .some (rowsD it))), (23, .v (.int .i64 it.length)), (24, .v (.int .i64 x.1))])
      (fun x => ⟨[(3, (cellsD (.mk k n l b s it tl)).map .v)], [(100, (rowsPlace x.2, 99, 2))], [3, 100]⟩)
      (fun _ e A S => e = .exit 0 ∧ S = ⟨[(3, (cellsD (.mk k n l b s it tl)).map .v)], [(100, (rowsPlace (placesI L it deep), 99, 2))], [3, 100]⟩ ∧ ∃ z, A = (Env.of [(1, .v (.int .i64 deep)), (2, .v (encLikes L)), (3, .ptr 3 0), (7, .tsl 100 (rowsPlace (placesI L it deep))), (22, .v (.sl .some (rowsD it))), (23, .v (.int .i64 it.length)), (24, .v (.int .i64 it.length))]).put (some 25) z) (fun _ _ h => h.elim) ?_ (0, []) ⟨Nat.zero_le _, rfl⟩) ?_ (fun _ h => h.elim) ?_
    · rintro ⟨i, acc⟩ ⟨hil, hacc⟩
      dsimp only at hil hacc ⊢
      have ew : ∀ j : Nat, j < it.length → IntKind.i64.wrap ((j : Int) + 1) = ((j + 1 : Nat) : Int) := fun j hj => wrap_i64 (by omega) (by omega)
      refine cnd_mk (fun h => ?_) (fun h => ?_)
      · have hi2 : i < it.length := by simpa using h
        obtain ⟨x, hx⟩ : ∃ x, it[i]? = some x := ⟨it[i], List.getElem?_eq_getElem hi2⟩
        have hmem := List.mem_of_getElem? hx
        have hdrop : it.drop i = x :: it.drop (i + 1) := by
          rw [List.drop_eq_getElem_cons hi2]
          rw [List.getElem?_eq_getElem hi2] at hx
          rw [Option.some.inj hx]
        have hsx := sizeL_mem hmem
        have hpx := hi x hmem
        have hlx := places_len L x
        rw [hdrop, placesI] at hacc
        have key : ∀ (A' : Env) (dp : Int), dp = (bif nextAgain L (it.drop (i + 1)) then deep + 1 else deep) → True := fun _ _ _ => trivial
        refine ⟨by omega, cellsD x, rowsD_get it i x hx, cellsD_len x, ?_⟩
        generalize hdp : (bif nextAgain L (it.drop (i + 1)) then deep + 1 else deep) = dp at hacc
        have hdp2 : dp ≤ deep + 1 ∧ 0 ≤ dp := by
          cases hna : nextAgain L (it.drop (i + 1)) <;> rw [hna] at hdp <;> simp at hdp <;> omega
        have hP := hpx dp hdp2.2 (by omega) (by omega)
        have hbd : acc.length + (placesM L x dp).length ≤ 100000 := by
          have := congrArg List.length hacc
          simp only [List.length_append] at this
          omega
        have hlx' := hlx dp
        obtain ⟨k1, n1, l1, b1, s1, i1, t1⟩ := x
        have e1 : IntKind.i64.wrap ((it.length : Int) - 1) = (it.length : Int) - 1 := wrap_i64 (by omega) (by omega)
        have e2 : IntKind.i64.wrap (deep + 1) = deep + 1 := wrap_i64 (by omega) (by omega)
        refine cnd_mk (fun h => ?_) (fun h => ?_)
        · have hlt : (i : Int) < IntKind.i64.wrap (((rowsD it).length : Int) - 1) := by simpa using h
          rw [el, e1] at hlt
          obtain ⟨y, hy⟩ : ∃ y, it[i + 1]? = some y := ⟨it[i + 1], List.getElem?_eq_getElem (by omega)⟩
          have hA := again_fn L y
          have hna : nextAgain L (it.drop (i + 1)) = againM L y := by
            rw [List.drop_eq_getElem_cons (by omega)]
            rw [List.getElem?_eq_getElem (by omega)] at hy
            rw [Option.some.inj hy]; rfl
          rw [hna] at hdp
          have hgy := rowsD_get it (i + 1) y hy
          have hcy := cellsD_len y
          refine ⟨by rw [ew i hi2]; omega, cellsD y, by rw [ew i hi2]; exact hgy, hcy, ?_⟩
          obtain ⟨k2, n2, l2, b2, s2, i2, t2⟩ := y
          refine .pure _ rfl hA ?_
          cases hb : againM L (.mk k2 n2 l2 b2 s2 i2 t2)
          · rw [hb] at hdp
            simp only [cond_false] at hdp
            subst hdp
            have hP' := hP
            refine .pure _ rfl hP' ?_
            have ea := rowsPlace_len acc
            have ep := rowsPlace_len (placesM L (.mk k1 n1 l1 b1 s1 i1 t1) deep)
            refine .inl ⟨_, rfl, rfl, rowsPlace_one _, by omega, ?_, ?_⟩
            · show ((rowsPlace acc).length + (rowsPlace (placesM L (.mk k1 n1 l1 b1 s1 i1 t1) deep)).length) * 24 ≤ _
              omega
            · refine ⟨(i + 1, acc ++ placesM L (.mk k1 n1 l1 b1 s1 i1 t1) deep), by show it.length - (i + 1) < it.length - i; omega, ⟨by show i + 1 ≤ it.length; omega, by rw [List.append_assoc]; exact hacc⟩, ?_, fun _ _ _ h => h⟩
              rw [rowsPlace_app]
              refine ⟨⟨⟨_, rfl, Wk.refl _⟩, ⟨_, rfl, Wk.refl _⟩, ⟨_, rfl, Wk.refl _⟩, ⟨_, rfl, Wk.refl _⟩, ⟨_, rfl, Wk.refl _⟩, ⟨_, rfl, Wk.refl _⟩, ⟨_, rfl, Wk.int (ew i hi2)⟩, trivial⟩, ⟨⟨_, rfl, Wks.refl _⟩, trivial⟩, ⟨⟨_, rfl, RW.refl _⟩, trivial⟩, rfl, rfl, rfl, rfl⟩
          · rw [hb] at hdp
            simp only [cond_true] at hdp
            subst hdp
            have hP' : PFn Try.prog Γ0 56 [encD (.mk k1 n1 l1 b1 s1 i1 t1), .int .i64 (IntKind.i64.wrap (deep + 1)), encLikes L] (.sl .some (rowsPlace (placesM L (.mk k1 n1 l1 b1 s1 i1 t1) (deep + 1)))) := by rw [e2]; exact hP
            refine .pure _ rfl hP' ?_
            have ea := rowsPlace_len acc
            have ep := rowsPlace_len (placesM L (.mk k1 n1 l1 b1 s1 i1 t1) (deep + 1))
            refine .inl ⟨_, rfl, rfl, rowsPlace_one _, by omega, ?_, ?_⟩
            · show ((rowsPlace acc).length + (rowsPlace (placesM L (.mk k1 n1 l1 b1 s1 i1 t1) (deep + 1))).length) * 24 ≤ _
              omega
            · refine ⟨(i + 1, acc ++ placesM L (.mk k1 n1 l1 b1 s1 i1 t1) (deep + 1)), by show it.length - (i + 1) < it.length - i; omega, ⟨by show i + 1 ≤ it.length; omega, by rw [List.append_assoc]; exact hacc⟩, ?_, fun _ _ _ h => h⟩
              rw [rowsPlace_app]
              refine ⟨⟨⟨_, rfl, Wk.refl _⟩, ⟨_, rfl, Wk.refl _⟩, ⟨_, rfl, Wk.refl _⟩, ⟨_, rfl, Wk.refl _⟩, ⟨_, rfl, Wk.refl _⟩, ⟨_, rfl, Wk.refl _⟩, ⟨_, rfl, Wk.int (ew i hi2)⟩, trivial⟩, ⟨⟨_, rfl, Wks.refl _⟩, trivial⟩, ⟨⟨_, rfl, RW.refl _⟩, trivial⟩, rfl, rfl, rfl, rfl⟩
        · have hlt : ¬ (i : Int) < IntKind.i64.wrap (((rowsD it).length : Int) - 1) := by simpa using h
          rw [el, e1] at hlt
          have : it.drop (i + 1) = [] := List.drop_eq_nil_of_le (by omega)
          rw [this] at hdp
          simp [nextAgain] at hdp
          subst hdp
          have hP' := hP
          refine .pure _ rfl hP' ?_
          have ea := rowsPlace_len acc
          have ep := rowsPlace_len (placesM L (.mk k1 n1 l1 b1 s1 i1 t1) deep)
          refine .inl ⟨_, rfl, rfl, rowsPlace_one _, by omega, ?_, ?_⟩
          · show ((rowsPlace acc).length + (rowsPlace (placesM L (.mk k1 n1 l1 b1 s1 i1 t1) deep)).length) * 24 ≤ _
            omega
          · refine ⟨(i + 1, acc ++ placesM L (.mk k1 n1 l1 b1 s1 i1 t1) deep), by show it.length - (i + 1) < it.length - i; omega, ⟨by show i + 1 ≤ it.length; omega, by rw [List.append_assoc]; exact hacc⟩, ?_, fun _ _ _ h => h⟩
            rw [rowsPlace_app]
            refine ⟨⟨⟨_, rfl, Wk.refl _⟩, ⟨_, rfl, Wk.refl _⟩, ⟨_, rfl, Wk.refl _⟩, ⟨_, rfl, Wk.refl _⟩, ⟨_, rfl, Wk.refl _⟩, ⟨_, rfl, Wk.refl _⟩, ⟨_, rfl, Wk.int (ew i hi2)⟩, trivial⟩, ⟨⟨_, rfl, Wks.refl _⟩, trivial⟩, ⟨⟨_, rfl, RW.refl _⟩, trivial⟩, rfl, rfl, rfl, rfl⟩
      · have hi2 : i = it.length := by simp at h; omega
        subst hi2
        rw [List.drop_length, placesI, List.append_nil] at hacc
        subst hacc
        exact ⟨rfl, rfl, _, rfl⟩
    · refine ⟨⟨⟨_, rfl, Wk.refl _⟩, ⟨_, rfl, Wk.refl _⟩, ⟨_, rfl, Wk.refl _⟩, ⟨_, rfl, Wk.refl _⟩, ⟨_, rfl, Wk.refl _⟩, ⟨_, rfl, Wk.int ?_⟩, ⟨_, rfl, Wk.refl _⟩, trivial⟩, ⟨⟨_, rfl, Wks.refl _⟩, trivial⟩, ⟨⟨_, rfl, RW.refl _⟩, trivial⟩, rfl, rfl, rfl, rfl⟩
      rw [el]
    · rintro e A S ⟨rfl, rfl, z, rfl⟩
      refine CdL.enter (CdL.wf TT_ok mixed (fun x : Nat × List PlaceM => tl.length - x.1) (fun x => x.1 ≤ tl.length ∧ x.2 ++ placesT L (tl.drop x.1) deep = placesI L it deep ++ placesT L tl deep)
        (fun x => [(1, .v (.int .i64 deep)), (2, .v (encLikes L)), (7, .tsl 100 (rowsPlace x.2)), (56, .v (.sl .some (rowsD tl))), (57, .v (.int .i64 tl.length)), (58, .v (.int .i64 x.1))])
        (fun x => ⟨[], [(100, (rowsPlace x.2, 99, 2))], [100]⟩)
        (fun _ e A S => e = .exit 2 ∧ A.get 7 = some (.tsl 100 (rowsPlace (placesI L it deep ++ placesT L tl deep)))) (fun _ _ h => h.elim) ?_ (0, placesI L it deep) ⟨Nat.zero_le _, rfl⟩) ?_ (fun _ h => h.elim) ?_
      · rintro ⟨i, acc⟩ ⟨hil, hacc⟩
        dsimp only at hil hacc ⊢
        refine cnd_mk (fun h => ?_) (fun h => ?_)
        · have hi2 : i < tl.length := by simpa using h
          obtain ⟨x, hx⟩ : ∃ x, tl[i]? = some x := ⟨tl[i], List.getElem?_eq_getElem hi2⟩
          have hmem := List.mem_of_getElem? hx
          have hdrop : tl.drop i = x :: tl.drop (i + 1) := by
            rw [List.drop_eq_getElem_cons hi2]
            rw [List.getElem?_eq_getElem hi2] at hx
            rw [Option.some.inj hx]
          have hsx := sizeL_mem hmem
          have hP := ht x hmem deep h0 (by omega) (by omega)
          rw [hdrop, placesT] at hacc
          have hbd : acc.length + (placesM L x deep).length ≤ 100000 := by
            have := congrArg List.length hacc
            simp only [List.length_append] at this
            omega
          have ea := rowsPlace_len acc
          have ep := rowsPlace_len (placesM L x deep)
          refine ⟨by omega, cellsD x, rowsD_get tl i x hx, cellsD_len x, ?_⟩
          obtain ⟨k1, n1, l1, b1, s1, i1, t1⟩ := x
          refine .pure _ rfl hP ?_
          refine .inl ⟨_, rfl, rfl, rowsPlace_one _, by omega, ?_, ?_⟩
          · show ((rowsPlace acc).length + (rowsPlace (placesM L (.mk k1 n1 l1 b1 s1 i1 t1) deep)).length) * 24 ≤ _
            omega
          · refine ⟨(i + 1, acc ++ placesM L (.mk k1 n1 l1 b1 s1 i1 t1) deep), by show tl.length - (i + 1) < tl.length - i; omega, ⟨by show i + 1 ≤ tl.length; omega, by rw [List.append_assoc]; exact hacc⟩, ?_, fun _ _ _ h => h⟩
            rw [rowsPlace_app]
            refine ⟨⟨⟨_, rfl, Wk.refl _⟩, ⟨_, rfl, Wk.refl _⟩, ⟨_, rfl, Wk.refl _⟩, ⟨_, rfl, Wk.refl _⟩, ⟨_, rfl, Wk.refl _⟩, ⟨_, rfl, Wk.int (wrap_i64 (by omega) (by omega))⟩, trivial⟩, trivial, ⟨⟨_, rfl, RW.refl _⟩, trivial⟩, rfl, rfl, rfl, rfl⟩
        · have hi2 : i = tl.length := by simp at h; omega
          subst hi2
          rw [List.drop_length, placesT, List.append_nil] at hacc
          subst hacc
          exact ⟨rfl, rfl⟩
      · refine ⟨⟨⟨_, rfl, Wk.refl _⟩, ⟨_, rfl, Wk.refl _⟩, ⟨_, rfl, Wk.refl _⟩, ⟨_, rfl, Wk.refl _⟩, ⟨_, rfl, Wk.int ?_⟩, ⟨_, rfl, Wk.refl _⟩, trivial⟩, trivial, ⟨⟨_, rfl, RW.refl _⟩, trivial⟩, rfl, rfl, rfl, rfl⟩
        rw [el2]
      · rintro e A S ⟨rfl, h7⟩
        refine opt_mk h7 ?_
        exact ⟨.inr rfl, res1 rfl rfl⟩
end Go.Proofs.Ytcdfbkpdemhcpaa
namespace Go.Proofs.Ytcdfbkpdemhcpaa
open Go.Pav
set_option maxRecDepth 100000
theorem idx_any {α : Type} (l : List α) (g : α → Bool) : decide (idxI (l.findIdx? g) ≥ 0) = l.any g := by
  rw [idxI_ge]
  cases h : l.findIdx? g with
  | none =>
    rw [List.findIdx?_eq_none_iff] at h
    symm
    rw [Option.isSome_none, List.any_eq_false]
    intro x hx
    simp [h x hx]
  | some i =>
    obtain ⟨hi, hg, _⟩ := List.findIdx?_eq_some_iff_getElem.1 h
    symm
    rw [Option.isSome_some, List.any_eq_true]
    exact ⟨_, List.getElem_mem hi, hg⟩
/-- ContainsFunc, over data, of any function value that turns nothing. -/
theorem containsDat_fn (l : List Dat) (f : FuncId) (caps : List FV) (g : Dat → Bool) (h : ∀ d ∈ l, PFn Try.prog Γ0 f ([encD d] ++ caps) (.bool (g d))) :
    PFn Try.prog Γ0 88 [.sl .some (rowsD l), .fn f [] caps] (.bool (l.any g)) := by
  refine PFn.intro TT_ok mixed Try.func88 rfl rfl (by rw [Try.ntmps88]; simp) fun hB => ?_
  refine .pure (fargs := [.sl .some (rowsD l), .fn f [] caps]) _ rfl (by rw [rowsD_eq]; exact indexD_fn l cellsD f caps g (fun d _ => cellsD_len d) h) ?_
  refine ⟨.inr rfl, res1 rfl ?_⟩
  show FV.bool (decide (idxI (l.findIdx? g) ≥ 0)) = _
  rw [idx_any]
def Pwr (L : List LikeM) (p : Dat) : Prop := PFn Try.prog Γ0 58 [encD p, encLikes L] (.bool (wrongM L p))
theorem wrongq_fn (L : List LikeM) (p : Dat) (h : Pwr L p) : PFn Try.prog Γ0 89 [encD p, .fptr [encLikes L]] (.bool (wrongM L p)) := by
  obtain ⟨k, n, l, b, s, it, tl⟩ := p
  refine PFn.intro TT_ok mixed Try.func89 rfl rfl (by rw [Try.ntmps89]; simp) fun hB => ?_
  refine .pure _ rfl h ?_
  exact ⟨.inr rfl, res1 rfl rfl⟩
theorem wrongM_mk (L k n l b s it tl) : wrongM L (.mk k n l b s it tl) = (againM L (.mk k n l b s it tl) || wrongI L it true false || wrongT L tl) := by rw [wrongM]
theorem wrongT_any (L : List LikeM) : ∀ tl, wrongT L tl = tl.any (wrongM L)
  | [] => by rw [wrongT]; rfl
  | x :: r => by rw [wrongT, List.any_cons, wrongT_any L r]
theorem rowsD_sz (l : List Dat) : ∀ c ∈ rowsD l, c.length = 7 := by
  intro c hc
  rw [rowsD_eq, List.mem_map] at hc
  obtain ⟨d, _, rfl⟩ := hc
  exact cellsD_len d
theorem wrong_fn (L : List LikeM) : ∀ p, Pwr L p := by
  refine Dat.ind_ fun k n l b s it tl hi ht => ?_
  have hv := again_fn L (.mk k n l b s it tl)
  unfold Pwr
  rw [wrongM_mk]
  refine PFn.intro TT_ok mixed Try.func58 rfl rfl (by rw [Try.ntmps58]; simp) fun hB => ?_
  obtain ⟨_, hlen, hlen2, _, _⟩ := BdD_mk hB.1
  have el := rowsD_len it
  refine .pure _ rfl hv ?_
  cases hvv : againM L (.mk k n l b s it tl)
  rotate_left
  · exact ⟨.inr rfl, res1 rfl rfl⟩
  · refine CdL.enter (CdL.wf TT_ok mixed (fun x : Nat × Bool => it.length - x.1) (fun x => x.1 ≤ it.length ∧ wrongI L (it.drop x.1) (x.1 == 0) x.2 = wrongI L it true false)
      (fun x => [(2, .ptr 2 0), (3, .ptr 3 0), (5, .v (.bool x.2)), (12, .v (.sl .some (rowsD it))), (13, .v (.int .i64 it.length)), (14, .v (.int .i64 x.1))])
      (fun x => ⟨[(2, (cellsD (.mk k n l b s it tl)).map .v), (3, [.v (encLikes L)])], [], [2, 3]⟩)
      (fun _ e A S => (e = .exit 0 ∧ wrongI L it true false = false ∧ (∃ b z, A = (Env.of [(2, .ptr 2 0), (3, .ptr 3 0), (5, .v (.bool b)), (12, .v (.sl .some (rowsD it))), (13, .v (.int .i64 it.length)), (14, .v (.int .i64 it.length))]).put (some 15) z) ∧ S = ⟨[(2, (cellsD (.mk k n l b s it tl)).map .v), (3, [.v (encLikes L)])], [], [2, 3]⟩) ∨ (e = .ret ∧ wrongI L it true false = true ∧ A.get 4 = some (.v (.bool true)))) (fun _ _ h => h.elim) ?_ (0, false) ⟨Nat.zero_le _, rfl⟩) ?_ (fun _ h => h.elim) ?_
    · rintro ⟨i, seen⟩ ⟨hil, hacc⟩
      dsimp only at hil hacc ⊢
      refine cnd_mk (fun h => ?_) (fun h => ?_)
      · have hi2 : i < it.length := by simpa using h
        obtain ⟨x, hx⟩ : ∃ x, it[i]? = some x := ⟨it[i], List.getElem?_eq_getElem hi2⟩
        have hmem := List.mem_of_getElem? hx
        have hdrop : it.drop i = x :: it.drop (i + 1) := by
          rw [List.drop_eq_getElem_cons hi2]
          rw [List.getElem?_eq_getElem hi2] at hx
          rw [Option.some.inj hx]
        have ew : IntKind.i64.wrap ((i : Int) + 1) = ((i + 1 : Nat) : Int) := wrap_i64 (by omega) (by omega)
        rw [hdrop, wrongI] at hacc
        have hA := again_fn L x
        have hW := hi x hmem
        unfold Pwr at hW
        refine ⟨by omega, cellsD x, rowsD_get it i x hx, cellsD_len x, ?_⟩
        obtain ⟨k1, n1, l1, b1, s1, i1, t1⟩ := x
        refine .pure _ rfl hA ?_
        cases hb : againM L (.mk k1 n1 l1 b1 s1 i1 t1)
        · rw [hb, cond_false] at hacc
          refine .pure _ rfl hW ?_
          cases hw : wrongM L (.mk k1 n1 l1 b1 s1 i1 t1)
          · rw [hw, Bool.false_or] at hacc
            refine ⟨(i + 1, seen), by show it.length - (i + 1) < it.length - i; omega, ⟨by show i + 1 ≤ it.length; omega, hacc⟩, ?_, fun _ _ _ h => h⟩
            refine ⟨⟨⟨_, rfl, Wk.refl _⟩, ⟨_, rfl, Wk.refl _⟩, ⟨_, rfl, Wk.refl _⟩, ⟨_, rfl, Wk.refl _⟩, ⟨_, rfl, Wk.refl _⟩, ⟨_, rfl, Wk.int ew⟩, trivial⟩, ⟨⟨_, rfl, Wks.refl _⟩, ⟨_, rfl, Wks.refl _⟩, trivial⟩, trivial, rfl, rfl, rfl, rfl⟩
          · rw [hw, Bool.true_or] at hacc
            exact .inr ⟨rfl, hacc.symm, rfl⟩
        · rw [hb, cond_true] at hacc
          cases seen
          · refine cnd_mk (fun h0 => ?_) (fun h0 => ?_)
            · have h0' : ((i : Int) == 0) = true := h0
              have hi0 : i = 0 := by simpa using h0'
              subst hi0
              exact .inr ⟨rfl, by rw [← hacc]; rfl, rfl⟩
            · have h0' : ((i : Int) == 0) = false := h0
              have hi0 : (i == 0) = false := by simpa using h0'
              rw [hi0, Bool.false_or, Bool.false_or] at hacc
              refine ⟨(i + 1, true), by show it.length - (i + 1) < it.length - i; omega, ⟨by show i + 1 ≤ it.length; omega, hacc⟩, ?_, fun _ _ _ h => h⟩
              refine ⟨⟨⟨_, rfl, Wk.refl _⟩, ⟨_, rfl, Wk.refl _⟩, ⟨_, rfl, Wk.refl _⟩, ⟨_, rfl, Wk.refl _⟩, ⟨_, rfl, Wk.refl _⟩, ⟨_, rfl, Wk.int ew⟩, trivial⟩, ⟨⟨_, rfl, Wks.refl _⟩, ⟨_, rfl, Wks.refl _⟩, trivial⟩, trivial, rfl, rfl, rfl, rfl⟩
          · exact .inr ⟨rfl, hacc.symm, rfl⟩
      · have hi2 : i = it.length := by simp at h; omega
        subst hi2
        rw [List.drop_length, wrongI] at hacc
        exact .inl ⟨rfl, hacc.symm, ⟨_, _, rfl⟩, rfl⟩
    · refine ⟨⟨⟨_, rfl, Wk.refl _⟩, ⟨_, rfl, Wk.refl _⟩, ⟨_, rfl, Wk.refl _⟩, ⟨_, rfl, Wk.refl _⟩, ⟨_, rfl, Wk.int ?_⟩, ⟨_, rfl, Wk.refl _⟩, trivial⟩, ⟨⟨_, rfl, Wks.refl _⟩, ⟨_, rfl, Wks.refl _⟩, trivial⟩, trivial, rfl, rfl, rfl, rfl⟩
      rw [el]
    · rintro e A S (⟨rfl, h1, ⟨_, _, rfl⟩, rfl⟩ | ⟨rfl, h1, h4⟩)
      · rw [h1, Bool.false_or, Bool.false_or]
        refine .lent 8 (.bool (wrongT L tl)) rfl rfl rfl ?_ ?_
        · rw [wrongT_any]
          exact containsDat_fn tl 89 [.fptr [encLikes L]] (wrongM L) fun d hd => wrongq_fn L d (ht d hd)
        · exact ⟨.inr rfl, res1 rfl rfl⟩
      · rw [h1]
        exact ⟨.inr rfl, res1 h4 rfl⟩
end Go.Proofs.Ytcdfbkpdemhcpaa
namespace Go.Proofs.Ytcdfbkpdemhcpaa
open Go.Pav Go.RowKit Go.Lib
set_option maxHeartbeats 2000000 in
set_option maxRecDepth 100000 in
theorem grow_zero (w : World) : Calls Try.prog 109 #[.slice none 0 0, .int .i64 (0 : Nat)] w fun e w' => e = .returned (.slice none 0 0) ∧ w' = w := by
  go_enter Try.func109, Try.ntmps109
  go_wp2
  go_ret
  exact ⟨rfl, rfl⟩
set_option maxHeartbeats 2000000 in
set_option maxRecDepth 100000 in
theorem grow_more (n : Nat) (h0 : 0 < n) (hn : n ≤ 1099511627776) (w : World) : Calls Try.prog 109 #[.slice none 0 0, .int .i64 n] w fun e w' =>
      ∃ cap, e = .returned (.slice (some ⟨w.heap.size, 0, none⟩) 0 cap) ∧ ∃ cells, w' = w.drew.alloc (.cells cells 27) ∧ cells.size = cap * 7 ∧ n ≤ cap ∧ cap ≤ maxLen := by
  have h3 : wrap64 ((n : Int) - 0) = n := by unfold wrap64; omega
  have h4 : ((n : Int) > 0) := by omega
  have u25 : Try.prog.underlying 25 = some (.slice 27) := by
    obtain ⟨d, hd, hk⟩ := (TT_ok 25 _ rfl).desc
    rw [hd, show d = _ from hk]
  have u3 : Try.prog.underlying 3 = some (.int .i64) := by
    obtain ⟨d, hd, hk⟩ := (TT_ok 3 _ rfl).desc
    rw [hd, show d = _ from hk]
  obtain ⟨i0, hi0, hs0, hby, z, hz, hzl, hzs, _⟩ := (TT_ok 27 _ rfl).info
  have hs7 : i0.size = 7 := hs0
  have hb7 : i0.bytes = 112 := hby
  have hz7 : z.cells.size = 7 := hzs
  have hrz : ∀ ty, (Builtin.append_ #[25, 3] ty #[.slice none 0 0, .int .i64 n]).run Try.prog w = .ok (.slice (some ⟨w.heap.size, 0, none⟩) (0 + n) (grownCap w (0 + n) 0 27)) (w.drew.alloc (.cells (([] : List Value).toArray ++ Builtin.zeroCells z.cells n ++ Builtin.zeroCells z.cells (grownCap w (0 + n) 0 27 - (0 + n))) 27)) := fun ty =>
    run_append_grow_zeros w 25 3 ty 27 i0 z .i64 .i64 u25 u3 hi0 hz none 0 0 [] (run_firstCells_none w.drew i0.size 0 0 0) n h0 (by omega) (by omega) (by omega) (by rw [hb7]; omega) (growslice_fits (by omega) (by rw [hb7]; omega))
  have hGn : 0 + n ≤ grownCap w (0 + n) 0 27 := grownCap_ge w _ _ _
  have hGm : grownCap w (0 + n) 0 27 ≤ maxLen := grownCap_le_maxLen w (0 + n) 0 27 (by unfold maxLen; omega)
  have hcs : (([] : List Value).toArray ++ Builtin.zeroCells z.cells n ++ Builtin.zeroCells z.cells (grownCap w (0 + n) 0 27 - (0 + n))).size = grownCap w (0 + n) 0 27 * 7 := by
    simp only [Builtin.zeroCells, Array.size_append, Array.size_map, Array.size_range, hz7, Nat.zero_add] at hGn ⊢
    simp
    omega
  rw [Nat.zero_add] at hrz hGn hGm hcs
  generalize grownCap w n 0 27 = G at *
  generalize (([] : List Value).toArray ++ Builtin.zeroCells z.cells n ++ Builtin.zeroCells z.cells (G - n)) = cells at *
  have hG63 : G ≤ 9223372036854775807 := by unfold maxLen at hGm; omega
  go_enter Try.func109, Try.ntmps109
  go_wp2_with (at_builtin; refine Lib.wpList_append_run _ rfl _ _ _ _ rfl _ _ rfl rfl _ _ (hrz _) ?_)
  all_goals (go_ret; exact ⟨G, rfl, cells, rfl, hcs, hGn, hGm⟩)
theorem real_grow : Real Try.prog 109 := ⟨_, Try.func109, rfl, rfl⟩
/-- slices.Grow of nil. -/
theorem grow_fn (n : Nat) (hn : n ≤ 1099511627776) : GFn Try.prog Γ0 109 ASt.nil [.v (.sl .nil []), .v (.int .i64 n)] (.tsl 0 []) ⟨[], [(0, ([], 27, 7))], [0]⟩ := by
  refine ⟨real_grow, fun M ρ w vals hG hSt hargs => ?_⟩
  obtain ⟨u, us, hv, h1, h2⟩ : ∃ u us, vals.toList = u :: us ∧ AVR M ρ (.v (.sl .nil [])) u ∧ AVRs M ρ [.v (.int .i64 n)] us := hargs
  obtain ⟨u2, us2, rfl, h3, h4⟩ : ∃ u2 us2, us = u2 :: us2 ∧ AVR M ρ (.v (.int .i64 n)) u2 ∧ AVRs M ρ [] us2 := h2
  obtain rfl : us2 = [] := h4
  have h5 : FVR M (.sl .nil []) u := h1
  obtain rfl : u2 = .int .i64 n := h3
  have hu : u = .slice none 0 0 := by
    unfold FVR at h5
    obtain ⟨a, m, c, rfl, _, _, ⟨rfl, rfl, rfl⟩, _⟩ := h5
    rfl
  subst hu
  have hvals : vals = #[.slice none 0 0, .int .i64 n] := by
    apply Array.ext'
    rw [hv]
  rw [hvals]
  have hfree := hSt.free 0 rfl
  have hview : (⟨[], [(0, ([], 27, 7))], [0]⟩ : ASt).view = ASt.nil.view.setTok 0 ([], 27, 7) := by
    rw [← view_setTok]; rfl
  rcases Nat.eq_zero_or_pos n with rfl | hpos
  · refine (grow_zero w).mono ?_
    rintro e w' ⟨rfl, rfl⟩
    obtain ⟨ρ', k1, k2, k3, _⟩ := Nx.adopt hSt 0 rfl [] 27 (by decide) 7 (fun c hc => by cases hc) (.inl rfl) h5
    refine ⟨M, ρ', _, rfl, k3, ?_, k2⟩
    rw [hview]
    exact k1
  · refine (grow_more n hpos hn w).mono ?_
    rintro e w' ⟨cap, rfl, cells, rfl, hcs, hGn, hGm⟩
    have hgrow : w.grownBy (w.drew.alloc (.cells cells 27)) (some w.heap.size) := by
      have h := World.grownBy_alloc w.drew (.cells cells 27) (some w.heap.size)
      exact ⟨h.os, h.tape, h.output, h.size, h.block⟩
    obtain ⟨M', ρ', v', rfl, k1, k2, k3, _⟩ := Nx.setTok hSt 0 ⟨0, fun _ => undef, none⟩ (.inr ⟨hfree.2, rfl⟩) [] 27 (by decide) 7 w.heap.size cap cells [] (.inr (Nat.le_refl _)) (heap_alloc_new w.drew _) (by simp) (by simp) hGm hcs (by simp) (RowsOf.nil M 7) (fun c hc => by cases hc) (fun h => by rw [hfree.2] at h; cases h) (fun o u hu => by rw [hSt.mem_new (Nat.le_refl _)] at hu; cases hu) hgrow
    refine ⟨M', ρ', _, rfl, k3, ?_, k2⟩
    rw [hview]
    exact k1
end Go.Proofs.Ytcdfbkpdemhcpaa
namespace Go.Proofs.Ytcdfbkpdemhcpaa
open Go.Pav
set_option maxRecDepth 100000
def rowsS (ss : List (List (List FV))) : List (List FV) := ss.map fun x => [.sl .some x]
def lenS (ss : List (List (List FV))) : Nat := (ss.map List.length).sum
theorem lenS_flatten (ss : List (List (List FV))) : ss.flatten.length = lenS ss := by unfold lenS; rw [List.length_flatten]
theorem lenS_drop (ss : List (List (List FV))) (i : Nat) (x : List (List FV)) (h : ss[i]? = some x) : lenS (ss.take (i + 1)) = lenS (ss.take i) + x.length := by
  unfold lenS
  rw [List.take_add_one, h]
  simp
theorem lenS_le (ss : List (List (List FV))) (i : Nat) : lenS (ss.take i) ≤ lenS ss := by
  have := List.take_append_drop i ss
  have e : lenS ss = lenS (ss.take i) + lenS (ss.drop i) := by
    rw [← lenS_flatten, ← lenS_flatten, ← lenS_flatten, ← List.length_append, ← List.flatten_append, this]
  omega
/-- slices.Concat, of lists of data. -/
theorem concat_fn (ss : List (List (List FV))) (hsz : ∀ x ∈ ss, ∀ c ∈ x, c.length = 7) (hb : lenS ss ≤ 1099511627776) (hn : ss.length ≤ 1099511627776) :
    PFn Try.prog Γ0 105 [.sl .some (rowsS ss)] (.sl .some ss.flatten) := by
  have el : (rowsS ss).length = ss.length := by simp [rowsS]
  refine PFn.intro TT_ok mixed Try.func105 rfl rfl (by rw [Try.ntmps105]; simp) fun hB => ?_
  refine CdL.enter (CdL.wf TT_ok mixed (fun i : Nat => ss.length - i) (fun i => i ≤ ss.length) (fun i => [(0, .v (.sl .some (rowsS ss))), (3, .v (.int .i64 (lenS (ss.take i)))), (9, .v (.sl .some (rowsS ss))), (10, .v (.int .i64 ss.length)), (11, .v (.int .i64 i))]) (fun _ => ASt.nil)
    (fun _ e A S => e = .exit 0 ∧ S = ASt.nil ∧ ∃ z, A = (Env.of [(0, .v (.sl .some (rowsS ss))), (3, .v (.int .i64 (lenS ss))), (9, .v (.sl .some (rowsS ss))), (10, .v (.int .i64 ss.length)), (11, .v (.int .i64 ss.length))]).put (some 12) z) (fun _ _ h => h.elim) ?_ 0 (Nat.zero_le _)) ⟨⟨⟨_, rfl, Wk.refl _⟩, ⟨_, rfl, Wk.refl _⟩, ⟨_, rfl, Wk.refl _⟩, ⟨_, rfl, Wk.int (by rw [el])⟩, ⟨_, rfl, Wk.refl _⟩, trivial⟩, trivial, trivial, rfl, rfl, rfl, rfl⟩ (fun _ h => h.elim) ?_
  · intro i hi
    refine cnd_mk (fun h => ?_) (fun h => ?_)
    · have hi2 : i < ss.length := by simpa using h
      obtain ⟨x, hx⟩ : ∃ x, ss[i]? = some x := ⟨ss[i], List.getElem?_eq_getElem hi2⟩
      have e1 := lenS_drop ss i x hx
      have e2 := lenS_le ss (i + 1)
      have ew : IntKind.i64.wrap ((lenS (ss.take i) : Int) + (x.length : Int)) = (lenS (ss.take (i + 1)) : Int) := by rw [wrap_i64 (by omega) (by omega)]; omega
      refine ⟨by omega, [.sl .some x], map_get _ hx, rfl, ?_⟩
      refine cnd_f (decide_eq_false (by rw [ew]; omega)) ?_
      refine ⟨i + 1, by show ss.length - (i + 1) < ss.length - i; omega, hi2, ⟨⟨⟨_, rfl, Wk.refl _⟩, ⟨_, rfl, Wk.int ew⟩, ⟨_, rfl, Wk.refl _⟩, ⟨_, rfl, Wk.refl _⟩, ⟨_, rfl, Wk.int (wrap_i64 (by omega) (by omega))⟩, trivial⟩, trivial, trivial, rfl, rfl, rfl, rfl⟩, fun _ _ _ h => h⟩
    · have hi2 : i = ss.length := by simp at h; omega
      subst hi2
      rw [List.take_length]
      exact ⟨rfl, rfl, _, rfl⟩
  · rintro e A S ⟨rfl, rfl, z, rfl⟩
    refine .own (args0 := [.v (.sl .nil []), .v (.int .i64 (lenS ss))]) (S0 := ASt.nil) ⟨Wks.refl _, (fun p h => by cases h), (fun p h => by cases h), rfl, rfl, rfl, rfl, rfl, rfl⟩ (grow_fn (lenS ss) hb) ?_
    refine CdL.enter (CdL.wf TT_ok mixed (fun i : Nat => ss.length - i) (fun i => i ≤ ss.length) (fun i => [(6, .tsl 0 (ss.take i).flatten), (25, .v (.sl .some (rowsS ss))), (26, .v (.int .i64 ss.length)), (27, .v (.int .i64 i))]) (fun i => ⟨[], [(0, ((ss.take i).flatten, 27, 7))], [0]⟩)
      (fun _ e A S => e = .exit 2 ∧ A.get 6 = some (.tsl 0 ss.flatten)) (fun _ _ h => h.elim) ?_ 0 (Nat.zero_le _)) ⟨⟨⟨_, rfl, Wk.refl _⟩, ⟨_, rfl, Wk.refl _⟩, ⟨_, rfl, Wk.int (by rw [el])⟩, ⟨_, rfl, Wk.refl _⟩, trivial⟩, trivial, ⟨⟨_, rfl, RW.refl _⟩, trivial⟩, rfl, rfl, rfl, rfl⟩ (fun _ h => h.elim) ?_
    · intro i hi
      refine cnd_mk (fun h => ?_) (fun h => ?_)
      · have hi2 : i < ss.length := by simpa using h
        obtain ⟨x, hx⟩ : ∃ x, ss[i]? = some x := ⟨ss[i], List.getElem?_eq_getElem hi2⟩
        have e1 := lenS_drop ss i x hx
        have e2 := lenS_le ss (i + 1)
        have e3 : (ss.take (i + 1)).flatten = (ss.take i).flatten ++ x := by rw [List.take_add_one, hx]; simp
        have e4 := lenS_flatten (ss.take i)
        refine ⟨by omega, [.sl .some x], map_get _ hx, rfl, ?_⟩
        refine .inl ⟨_, rfl, rfl, hsz x (List.mem_of_getElem? hx), by omega, ?_, ?_⟩
        · show ((ss.take i).flatten.length + x.length) * 112 ≤ _
          omega
        · refine ⟨i + 1, by show ss.length - (i + 1) < ss.length - i; omega, hi2, ?_, fun _ _ _ h => h⟩
          show Covers _ _ [(6, .tsl 0 (ss.take (i + 1)).flatten), (25, .v (.sl .some (rowsS ss))), (26, .v (.int .i64 ss.length)), (27, .v (.int .i64 ((i + 1 : Nat) : Int)))] ⟨[], [(0, ((ss.take (i + 1)).flatten, 27, 7))], [0]⟩
          rw [e3]
          exact ⟨⟨⟨_, rfl, Wk.refl _⟩, ⟨_, rfl, Wk.refl _⟩, ⟨_, rfl, Wk.refl _⟩, ⟨_, rfl, Wk.int (wrap_i64 (by omega) (by omega))⟩, trivial⟩, trivial, ⟨⟨_, rfl, RW.refl _⟩, trivial⟩, rfl, rfl, rfl, rfl⟩
      · have hi2 : i = ss.length := by simp at h; omega
        subst hi2
        rw [List.take_length]
        exact ⟨rfl, rfl⟩
    · rintro e A S ⟨rfl, h⟩
      refine opt_mk h ?_
      exact ⟨.inr rfl, res1 rfl rfl⟩
theorem parts_fn (d : Dat) (hb : d.items.length + d.tail.length ≤ 1099511627776) : PFn Try.prog Γ0 83 [encD d] (.sl .some (rowsD (d.items ++ d.tail))) := by
  obtain ⟨k, n, l, b, s, it, tl⟩ := d
  simp only [items_mk, tail_mk] at hb ⊢
  refine PFn.intro TT_ok mixed Try.func83 rfl rfl (by rw [Try.ntmps83]; simp) fun hB => ?_
  have h := concat_fn [rowsD it, rowsD tl] (fun x hx c hc => by
    simp at hx
    rcases hx with rfl | rfl
    · exact rowsD_sz _ c hc
    · exact rowsD_sz _ c hc) (by simp [lenS, rowsD_len]; omega) (by simp)
  refine .pure (.sl .some (rowsD (it ++ tl))) rfl ?_ ?_
  · have e : [rowsD it, rowsD tl].flatten = rowsD (it ++ tl) := by simp [rowsD_eq]
    rw [e] at h
    exact h.args (.cons (.some _ _) (.refl _))
  · exact ⟨.inr rfl, res1 rfl rfl⟩
end Go.Proofs.Ytcdfbkpdemhcpaa
namespace Go.Proofs.Ytcdfbkpdemhcpaa
open Go.Pav
set_option maxRecDepth 100000
def blankD : Dat → Dat
  | .mk k n l b s it tl => bif k == 1 then .mk k false [] b s it tl else bif k == 2 then .mk k n l false s it tl else bif k == 3 then .mk k n l b sEmpty it tl else bif k == 4 then .mk k n l b sEmpty it tl else bif k == 5 then .mk k n l b s [] [] else .mk k n l b s it tl
theorem blank_fn (d : Dat) : PFn Try.prog Γ0 92 [encD d] (encD (blankD d)) := by
  obtain ⟨k, n, l, b, s, it, tl⟩ := d
  unfold blankD
  by_cases h1 : k = 1
  · subst h1
    refine PFn.res (r := .agg [.int .i64 1, .bool false, .sl .nil [], .bool b, .str s, .sl .some (rowsD it), .sl .some (rowsD tl)]) ?_ (FW.agg (.cons (.refl _) (.cons (.refl _) (.cons FW.nil (.refl _)))))
    refine PFn.intro TT_ok mixed Try.func92 rfl rfl (by rw [Try.ntmps92]; simp) fun hB => ?_
    exact ⟨.inr rfl, _, rfl, rfl⟩
  by_cases h2 : k = 2
  · subst h2
    refine PFn.intro TT_ok mixed Try.func92 rfl rfl (by rw [Try.ntmps92]; simp) fun hB => ?_
    exact ⟨.inr rfl, _, rfl, rfl⟩
  by_cases h3 : k = 3
  · subst h3
    refine PFn.intro TT_ok mixed Try.func92 rfl rfl (by rw [Try.ntmps92]; simp) fun hB => ?_
    exact ⟨.inr rfl, _, rfl, rfl⟩
  by_cases h4 : k = 4
  · subst h4
    refine PFn.intro TT_ok mixed Try.func92 rfl rfl (by rw [Try.ntmps92]; simp) fun hB => ?_
    exact ⟨.inr rfl, _, rfl, rfl⟩
  by_cases h5 : k = 5
  · subst h5
    refine PFn.res (r := .agg [.int .i64 5, .bool n, u32s l, .bool b, .str s, .sl .nil [], .sl .nil []]) ?_ (FW.agg (.cons (.refl _) (.cons (.refl _) (.cons (.refl _) (.cons (.refl _) (.cons (.refl _) (.cons FW.nil (.cons FW.nil (.refl _)))))))))
    refine PFn.intro TT_ok mixed Try.func92 rfl rfl (by rw [Try.ntmps92]; simp) fun hB => ?_
    exact ⟨.inr rfl, _, rfl, rfl⟩
  have e1 : (k == 1) = false := by simpa using h1
  have e2 : (k == 2) = false := by simpa using h2
  have e3 : (k == 3) = false := by simpa using h3
  have e4 : (k == 4) = false := by simpa using h4
  have e5 : (k == 5) = false := by simpa using h5
  simp only [e1, e2, e3, e4, e5, cond_false]
  refine PFn.intro TT_ok mixed Try.func92 rfl rfl (by rw [Try.ntmps92]; simp) fun hB => ?_
  refine cnd_f e1 ?_
  refine cnd_f e2 ?_
  refine cnd_f e3 ?_
  refine cnd_f e4 ?_
  refine cnd_f e5 ?_
  exact ⟨.inr rfl, _, rfl, rfl⟩
theorem getLast_at {l : List Int} (h : l ≠ []) : ∃ x, l.getLast? = some x ∧ l[l.length - 1]? = some x := by
  rcases List.eq_nil_or_concat l with rfl | ⟨l', x, rfl⟩
  · exact absurd rfl h
  · exact ⟨x, by simp, by simp⟩
theorem goodI_fn (n : Bool) (l : List Int) : PFn Try.prog Γ0 93 [encI n l] (.bool (goodI n l)) := by
  refine PFn.intro TT_ok mixed Try.func93 rfl rfl (by rw [Try.ntmps93]; simp) fun hB => ?_
  have el := u32r_len l
  have hl : (u32r l).length ≤ 140737488355328 := hB.1.2.1.1
  refine cnd_mk (fun h => ?_) (fun h => ?_)
  · have : l = [] := by simpa using h
    subst this
    exact ⟨.inr rfl, res1 rfl rfl⟩
  · have hne : l ≠ [] := by simpa using h
    obtain ⟨x, h1, h2⟩ := getLast_at hne
    have hpos : 0 < l.length := List.length_pos_iff.2 hne
    have ew : IntKind.i64.wrap (((u32r l).length : Int) - 1) = ((l.length - 1 : Nat) : Int) := by
      rw [wrap_i64 (by omega) (by omega)]; omega
    refine ⟨?_, [.int .u32 x], ?_, rfl, ?_⟩
    · show 0 ≤ IntKind.i64.wrap (((u32r l).length : Int) - 1)
      rw [ew]; omega
    · show (u32r l)[(IntKind.i64.wrap (((u32r l).length : Int) - 1)).toNat]? = _
      rw [ew, Int.toNat_natCast]
      exact u32r_get _ _ x h2
    · refine ⟨.inr rfl, res1 rfl ?_⟩
      show FV.bool (x != 0) = _
      unfold goodI
      rw [h1]
def dirtyD : Dat → Bool
  | .mk _ n l b s it tl => n || decide ((l.length : Int) > 0) || b || !seqS s sEmpty || decide ((it.length : Int) + tl.length > 0)
def kindOk : Dat → Bool
  | .mk k n l _ s it tl => bif k == 0 then true else bif k == 2 then true else bif k == 1 then goodI n l && decide ((l.length : Int) ≤ 64) else bif k == 3 then !seqS s sEmpty && decide ((s.size : Int) ≤ 64) else bif k == 4 then decide ((s.size : Int) ≤ 1024)
    else bif k == 5 then !(decide ((tl.length : Int) > 1) || ((tl.length : Int) == 1) && (((it.length : Int) == 0) || headK tl == 5)) && (it ++ tl).all goodD else false
theorem goodL_all : ∀ l, goodL l = l.all goodD
  | [] => by rw [goodL]; rfl
  | x :: r => by rw [goodL, List.all_cons, goodL_all r]
theorem empty_dec {α : Type} (l : List α) : decide ((l.length : Int) > 0) = !l.isEmpty := by cases l <;> simp
theorem empty_sum {α : Type} (l r : List α) : decide ((l.length : Int) + r.length > 0) = !(l.isEmpty && r.isEmpty) := by
  cases l <;> cases r <;> simp <;> omega
theorem goodD_eq (d : Dat) : goodD d = (!dirtyD (blankD d) && kindOk d) := by
  obtain ⟨k, n, l, b, s, it, tl⟩ := d
  have d1 : decide ((l.length : Int) ≤ 64) = decide (l.length ≤ 64) := by congr 1; apply propext; omega
  have d2 : decide ((s.size : Int) ≤ 64) = decide (s.size ≤ 64) := by congr 1; apply propext; omega
  have d3 : decide ((s.size : Int) ≤ 1024) = decide (s.size ≤ 1024) := by congr 1; apply propext; omega
  have d4 : decide ((tl.length : Int) > 1) = decide (1 < tl.length) := by congr 1; apply propext; omega
  have d5 : ((tl.length : Int) == 1) = (tl.length == 1) := by rw [Bool.eq_iff_iff]; simp; omega
  have d6 : ((it.length : Int) == 0) = it.isEmpty := by cases it <;> simp; omega
  simp only [goodD, blankD, kindOk]
  rw [d1, d2, d3, d4, d5, d6, List.all_append, ← goodL_all, ← goodL_all]
  by_cases h0 : k = 0
  · subst h0
    simp only [Int.reduceBEq, BEq.rfl, cond_true, cond_false, dirtyD, empty_dec, empty_sum]
    cases n <;> cases l.isEmpty <;> cases b <;> cases seqS s sEmpty <;> cases it.isEmpty <;> cases tl.isEmpty <;> rfl
  by_cases h1 : k = 1
  · subst h1
    simp only [Int.reduceBEq, BEq.rfl, cond_true, cond_false, dirtyD, empty_dec, empty_sum]
    generalize goodI n l = g
    generalize decide (l.length ≤ 64) = g2
    cases b <;> cases seqS s sEmpty <;> cases it.isEmpty <;> cases tl.isEmpty <;> cases g <;> cases g2 <;> rfl
  by_cases h2 : k = 2
  · subst h2
    simp only [Int.reduceBEq, BEq.rfl, cond_true, cond_false, dirtyD, empty_dec, empty_sum]
    cases n <;> cases l.isEmpty <;> cases seqS s sEmpty <;> cases it.isEmpty <;> cases tl.isEmpty <;> rfl
  by_cases h3 : k = 3
  · subst h3
    simp only [Int.reduceBEq, BEq.rfl, cond_true, cond_false, dirtyD, empty_dec, empty_sum, seqS_refl]
    generalize decide (s.size ≤ 64) = g2
    cases n <;> cases l.isEmpty <;> cases b <;> cases it.isEmpty <;> cases tl.isEmpty <;> cases seqS s sEmpty <;> cases g2 <;> rfl
  by_cases h4 : k = 4
  · subst h4
    simp only [Int.reduceBEq, BEq.rfl, cond_true, cond_false, dirtyD, empty_dec, empty_sum, seqS_refl]
    generalize decide (s.size ≤ 1024) = g2
    cases n <;> cases l.isEmpty <;> cases b <;> cases it.isEmpty <;> cases tl.isEmpty <;> cases g2 <;> rfl
  by_cases h5 : k = 5
  · subst h5
    simp only [Int.reduceBEq, BEq.rfl, cond_true, cond_false, dirtyD, empty_dec, empty_sum]
    generalize (decide (1 < tl.length) || tl.length == 1 && (it.isEmpty || headK tl == 5)) = g1
    generalize goodL it = g2
    generalize goodL tl = g3
    cases n <;> cases l.isEmpty <;> cases b <;> cases seqS s sEmpty <;> cases g1 <;> cases g2 <;> cases g3 <;> rfl
  have e0 : (k == 0) = false := by simpa using h0
  have e1 : (k == 1) = false := by simpa using h1
  have e2 : (k == 2) = false := by simpa using h2
  have e3 : (k == 3) = false := by simpa using h3
  have e4 : (k == 4) = false := by simpa using h4
  have e5 : (k == 5) = false := by simpa using h5
  rw [e0, e1, e2, e3, e4, e5]
  simp
end Go.Proofs.Ytcdfbkpdemhcpaa
namespace Go.Proofs.Ytcdfbkpdemhcpaa
open Go.Pav
set_option maxRecDepth 100000
def Pg (d : Dat) : Prop := sizeD d ≤ 100000 → PFn Try.prog Γ0 67 [encD d] (.bool (goodD d))
theorem goodq_fn (d : Dat) (h : PFn Try.prog Γ0 67 [encD d] (.bool (goodD d))) : PFn Try.prog Γ0 94 [encD d] (.bool !(goodD d)) := by
  generalize goodD d = g at *
  obtain ⟨k, n, l, b, s, it, tl⟩ := d
  refine PFn.intro TT_ok mixed Try.func94 rfl rfl (by rw [Try.ntmps94]; simp) fun hB => ?_
  refine .pure _ rfl h ?_
  exact ⟨.inr rfl, res1 rfl rfl⟩
theorem any_not {α : Type} (l : List α) (g : α → Bool) : (!l.any fun x => !g x) = l.all g := by
  induction l with
  | nil => rfl
  | cons x r ih => rw [List.any_cons, List.all_cons, ← ih]; cases g x <;> simp
theorem headK_get {tl : List Dat} {d : Dat} (h : tl[0]? = some d) : headK tl = d.kind := by
  cases tl with
  | nil => simp at h
  | cons x r => simp at h; subst h; cases x; rfl
theorem good_fn : ∀ d, Pg d := by
  refine Dat.ind_ fun k n l b s it tl hi ht hsz => ?_
  have hbl := blank_fn (.mk k n l b s it tl)
  have hpa := parts_fn (.mk k n l b s it tl)
  have hgi := goodI_fn n l
  have hgo := goodD_eq (.mk k n l b s it tl)
  have q1 := sizeL_len it
  have q2 := sizeL_len tl
  unfold sizeD at hsz
  have hpa' := hpa (by simp only [items_mk, tail_mk]; omega)
  simp only [items_mk, tail_mk] at hpa'
  have hcon := containsDat_fn (it ++ tl) 94 [] (fun d => !goodD d) fun d hd => by
    refine goodq_fn d ?_
    rcases List.mem_append.1 hd with hd | hd
    · exact hi d hd (by have := sizeL_mem hd; omega)
    · exact ht d hd (by have := sizeL_mem hd; omega)
  rw [hgo]
  have hB0 : True := trivial
  generalize hx : blankD (.mk k n l b s it tl) = x at *
  obtain ⟨k', n', l', b', s', it', tl'⟩ := x
  have el := u32r_len l
  have eit := rowsD_len it
  have etl := rowsD_len tl
  refine PFn.intro TT_ok mixed Try.func67 rfl rfl (by rw [Try.ntmps67]; simp) fun hB => ?_
  refine .pure _ rfl hbl ?_
  cases n'
  rotate_left
  · exact ⟨.inr rfl, res1 rfl rfl⟩
  refine cnd_mk (fun h1 => ?_) (fun h1 => ?_)
  · have e : decide ((l'.length : Int) > 0) = true := by rw [← u32r_len l']; exact h1
    simp only [dirtyD, e]
    exact ⟨.inr rfl, res1 rfl rfl⟩
  have e1 : decide ((l'.length : Int) > 0) = false := by rw [← u32r_len l']; exact h1
  cases b'
  rotate_left
  · simp only [dirtyD, e1]; exact ⟨.inr rfl, res1 rfl rfl⟩
  refine cnd_mk (fun h2 => ?_) (fun h2 => ?_)
  · have e : (!seqS s' sEmpty) = true := h2
    simp only [dirtyD, e1, e]
    exact ⟨.inr rfl, res1 rfl rfl⟩
  have e2 : (!seqS s' sEmpty) = false := h2
  have hlen : it'.length ≤ it.length ∧ tl'.length ≤ tl.length := by
    simp only [blankD] at hx
    revert hx
    cases (k == 1) <;> cases (k == 2) <;> cases (k == 3) <;> cases (k == 4) <;> cases (k == 5) <;> simp only [cond_true, cond_false] <;> (intro hx; cases hx; simp)
  have eit' := rowsD_len it'
  have etl' := rowsD_len tl'
  have ew : IntKind.i64.wrap (((rowsD it').length : Int) + ((rowsD tl').length : Int)) = (it'.length : Int) + (tl'.length : Int) := by rw [wrap_i64 (by omega) (by omega), eit', etl']
  refine cnd_mk (fun h3 => ?_) (fun h3 => ?_)
  · have e : decide ((it'.length : Int) + tl'.length > 0) = true := by rw [← ew]; exact h3
    simp only [dirtyD, e1, e2, e]
    exact ⟨.inr rfl, res1 rfl rfl⟩
  have e3 : decide ((it'.length : Int) + tl'.length > 0) = false := by rw [← ew]; exact h3
  have ed : dirtyD (.mk k' false l' false s' it' tl') = false := by simp only [dirtyD, e1, e2, e3]; rfl
  rw [ed]
  simp only [kindOk]
  refine cnd_mk (fun h => ?_) (fun h => ?_)
  · refine cnd_t h ?_
    rw [h]
    exact ⟨.inr rfl, res1 rfl rfl⟩
  rw [h]
  refine cnd_mk (fun h => ?_) (fun h => ?_)
  · rw [h]
    exact ⟨.inr rfl, res1 rfl rfl⟩
  rw [h]
  refine cnd_mk (fun h => ?_) (fun h => ?_)
  · rw [h]
    refine .pure _ rfl hgi ?_
    cases goodI n l
    · exact ⟨.inr rfl, res1 rfl rfl⟩
    · refine ⟨.inr rfl, res1 rfl ?_⟩
      show FV.bool (decide (((u32r l).length : Int) ≤ 64)) = _
      rw [el]; rfl
  rw [h]
  refine cnd_mk (fun h => ?_) (fun h => ?_)
  · rw [h]
    refine cnd_mk (fun h => ?_) (fun h => ?_)
    · have e : (!seqS s sEmpty) = true := h
      rw [e]
      exact ⟨.inr rfl, res1 rfl rfl⟩
    · have e : (!seqS s sEmpty) = false := h
      rw [e]
      exact ⟨.inr rfl, res1 rfl rfl⟩
  rw [h]
  refine cnd_mk (fun h => ?_) (fun h => ?_)
  · rw [h]
    exact ⟨.inr rfl, res1 rfl rfl⟩
  rw [h]
  refine cnd_mk (fun h => ?_) (fun h => ?_)
  · rw [h]
    have c1 : ((tl.length : Int) == 1) = (((rowsD tl).length : Int) == 1) := by rw [etl]
    have c2 : ((it.length : Int) == 0) = (((rowsD it).length : Int) == 0) := by rw [eit]
    have c3 : decide ((tl.length : Int) > 1) = decide (((rowsD tl).length : Int) > 1) := by rw [etl]
    rw [c1, c2, c3]
    refine cnd_mk (fun h6 => ?_) (fun h6 => ?_)
    · rw [h6]
      exact ⟨.inr rfl, res1 rfl rfl⟩
    rw [h6]
    refine cnd_mk (fun h7 => ?_) (fun h7 => ?_)
    · rw [h7]
      refine cnd_mk (fun h8 => ?_) (fun h8 => ?_)
      · rw [h8]
        exact ⟨.inr rfl, res1 rfl rfl⟩
      · rw [h8]
        have h7' : ((rowsD tl).length : Int) = 1 := by simpa using h7
        obtain ⟨y, hy⟩ : ∃ y, tl[0]? = some y := ⟨tl[0]'(by omega), List.getElem?_eq_getElem (by omega)⟩
        rw [headK_get hy]
        refine ⟨by decide, cellsD y, rowsD_get tl 0 y hy, cellsD_len y, ?_⟩
        obtain ⟨k1, n1, l1, b1, s1, i1, t1⟩ := y
        refine cnd_mk (fun h9 => ?_) (fun h9 => ?_)
        · rw [kind_mk, h9]
          exact ⟨.inr rfl, res1 rfl rfl⟩
        · rw [kind_mk, h9]
          refine .pure _ rfl hpa' ?_
          refine .pure _ rfl hcon ?_
          refine ⟨.inr rfl, res1 rfl ?_⟩
          show FV.bool (!((it ++ tl).any fun d => !goodD d)) = _
          rw [any_not]
          rfl
    · rw [h7]
      refine .pure _ rfl hpa' ?_
      refine .pure _ rfl hcon ?_
      refine ⟨.inr rfl, res1 rfl ?_⟩
      show FV.bool (!((it ++ tl).any fun d => !goodD d)) = _
      rw [any_not]
      rfl
  rw [h]
  exact ⟨.inr rfl, res1 rfl rfl⟩
theorem Good_fn (d : Dat) : PFn Try.prog Γ0 46 [encD d] (.bool (GoodD d)) := by
  have f1 := within_fn d 5000 200 (by omega) (by omega) (by omega) (by omega)
  have f2 := good_fn d
  have hn := within_nonneg d 5000 200 (by omega)
  unfold GoodD
  generalize withinD d 5000 200 = x at *
  cases hx : decide (0 ≤ x)
  · obtain ⟨k, n, l, b, s, it, tl⟩ := d
    refine PFn.intro TT_ok mixed Try.func46 rfl rfl (by rw [Try.ntmps46]; simp) fun hB => ?_
    refine .pure _ rfl f1 ?_
    refine cnd_f hx ?_
    exact ⟨.inr rfl, res1 rfl rfl⟩
  · have hs : sizeD d ≤ 100000 := by
      have := (hn.1 (by simpa using hx)).1
      omega
    have f3 := f2 hs
    generalize goodD d = y at *
    obtain ⟨k, n, l, b, s, it, tl⟩ := d
    refine PFn.intro TT_ok mixed Try.func46 rfl rfl (by rw [Try.ntmps46]; simp) fun hB => ?_
    refine .pure _ rfl f1 ?_
    refine cnd_t hx ?_
    refine .pure _ rfl f3 ?_
    exact ⟨.inr rfl, res1 rfl rfl⟩
end Go.Proofs.Ytcdfbkpdemhcpaa
namespace Go.Proofs.Ytcdfbkpdemhcpaa
open Go.Pav
set_option maxRecDepth 100000
theorem strs_len (l : List ByteArray) : (strs l).length = l.length := by simp [strs]
theorem indexS_fn (l : List ByteArray) (s : ByteArray) : PFn Try.prog Γ0 87 [.sl .some (strs l), .str s] (.int .i64 (idxI (l.findIdx? fun x => seqS s x))) := by
  have el := strs_len l
  refine PFn.intro TT_ok mixed Try.func87 rfl rfl (by rw [Try.ntmps87]; simp) fun hB => ?_
  have hlen : (strs l).length ≤ 140737488355328 := hB.1.1
  refine CdL.enter (CdL.wf TT_ok mixed (fun i : Nat => l.length - i) (fun i => i ≤ l.length ∧ ∀ c ∈ l.take i, seqS s c = false) (fun i => [(0, .v (.sl .some (strs l))), (1, .v (.str s)), (7, .v (.int .i64 l.length)), (8, .v (.int .i64 i))]) (fun _ => ASt.nil)
    (fun i e A S => (e = .exit 0 ∧ l.findIdx? (fun x => seqS s x) = none) ∨ (e = .ret ∧ ∃ j, l.findIdx? (fun x => seqS s x) = some j ∧ A.get 4 = some (.v (.int .i64 j)))) (fun _ _ h => h.elim) ?_ 0 ⟨Nat.zero_le _, by simp⟩) ⟨⟨⟨_, rfl, Wk.refl _⟩, ⟨_, rfl, Wk.refl _⟩, ⟨_, rfl, Wk.int (by rw [el])⟩, ⟨_, rfl, Wk.refl _⟩, trivial⟩, trivial, trivial, rfl, rfl, rfl, rfl⟩ (fun _ h => h.elim) ?_
  · rintro i ⟨hi, hno⟩
    refine cnd_mk (fun h => ?_) (fun h => ?_)
    · have hi2 : i < l.length := by simpa using h
      obtain ⟨x, hx⟩ : ∃ x, l[i]? = some x := ⟨l[i], List.getElem?_eq_getElem hi2⟩
      refine ⟨by omega, [.str x], map_get _ hx, rfl, ?_⟩
      refine cnd_mk (fun h => ?_) (fun h => ?_)
      · refine .inr ⟨rfl, i, ?_, rfl⟩
        rw [List.findIdx?_eq_some_iff_getElem]
        rw [List.getElem?_eq_getElem hi2] at hx
        refine ⟨hi2, by rw [Option.some.inj hx]; exact h, fun j hj => ?_⟩
        have := hno (l[j]) (by rw [List.mem_take_iff_getElem]; exact ⟨j, by omega, rfl⟩)
        simpa using this
      · have e1 : IntKind.i64.wrap ((i : Int) + 1) = ((i + 1 : Nat) : Int) := wrap_i64 (by omega) (by omega)
        refine ⟨i + 1, by show l.length - (i + 1) < l.length - i; omega, ⟨by omega, fun d hd => ?_⟩, ?_, ?_⟩
        · rw [List.take_add_one, hx] at hd
          rcases List.mem_append.1 hd with hd | hd
          · exact hno d hd
          · simp at hd; subst hd; exact h
        · refine ⟨⟨⟨_, rfl, Wk.refl _⟩, ⟨_, rfl, Wk.refl _⟩, ⟨_, rfl, Wk.refl _⟩, ⟨_, rfl, Wk.int e1⟩, trivial⟩, trivial, trivial, rfl, rfl, rfl, rfl⟩
        · rintro e A S (⟨h1, h2⟩ | ⟨h1, j, h2, h3⟩)
          · exact .inl ⟨h1, h2⟩
          · exact .inr ⟨h1, j, h2, h3⟩
    · have hi2 : i = l.length := by simp at h; omega
      refine .inl ⟨rfl, ?_⟩
      rw [List.findIdx?_eq_none_iff]
      intro c hc
      exact hno c (by rw [hi2, List.take_length]; exact hc)
  · rintro e A S (⟨rfl, h5⟩ | ⟨rfl, j, h5, h6⟩)
    · rw [h5]; exact ⟨.inr rfl, res1 rfl rfl⟩
    · rw [h5]
      exact ⟨.inr rfl, res1 h6 rfl⟩
theorem containsS_fn (l : List ByteArray) (s : ByteArray) : PFn Try.prog Γ0 57 [.sl .some (strs l), .str s] (.bool (l.any fun x => seqS s x)) := by
  refine PFn.intro TT_ok mixed Try.func57 rfl rfl (by rw [Try.ntmps57]; simp) fun hB => ?_
  refine .pure _ rfl (indexS_fn l s) ?_
  refine ⟨.inr rfl, res1 rfl ?_⟩
  show FV.bool (decide (idxI (l.findIdx? fun x => seqS s x) ≥ 0)) = _
  rw [idx_any]
theorem clone_fn (l : List Int) (hl : l.length ≤ 4294967296) : PFn Try.prog Γ0 62 [u32s l] (u32s l) := by
  have el := u32r_len l
  refine PFn.nilCases 0 (u32r l) rfl (fun h => ?_) ?_
  · have : l = [] := by simpa [u32r] using h
    subst this
    refine PFn.res (r := .sl .nil []) ?_ FW.nil
    refine PFn.intro TT_ok mixed Try.func62 rfl rfl (by rw [Try.ntmps62]; simp) fun hB => ?_
    exact ⟨.inr rfl, res1 rfl rfl⟩
  · refine PFn.intro TT_ok mixed Try.func62 rfl rfl (by rw [Try.ntmps62]; simp) fun hB => ?_
    refine ⟨(fun c hc => by cases hc), u32r_one l, ?_, ?_, ?_⟩
    · show 0 + (u32r l).length ≤ _; omega
    · show (0 + (u32r l).length) * 4 ≤ _; omega
    · exact ⟨.inr rfl, res1 rfl rfl⟩
def Pc (l : List Dat) : Prop := limbsOkL l → sizeL l ≤ 100000 → PFn Try.prog Γ0 42 [.sl .some (rowsD l)] (.sl .some (rowsD l))
theorem copied_of (l : List Dat) (h : ∀ d ∈ l, Pc d.items ∧ Pc d.tail) : Pc l := by
  intro hlim hsz
  have el := rowsD_len l
  have hlen := sizeL_len l
  refine PFn.intro TT_ok mixed Try.func42 rfl rfl (by rw [Try.ntmps42]; simp) fun hB => ?_
  refine CdL.adopt 3 100 27 7 rfl (.inl rfl) rfl (by simp) ?_
  refine CdL.enter (CdL.wf TT_ok mixed (fun i : Nat => l.length - i) (fun i => i ≤ l.length) (fun i => [(3, .tsl 100 (rowsD (l.take i))), (6, .v (.sl .some (rowsD l))), (7, .v (.int .i64 l.length)), (8, .v (.int .i64 i))]) (fun i => ⟨[], [(100, (rowsD (l.take i), 27, 7))], [100]⟩)
    (fun _ e A S => e = .exit 0 ∧ A.get 3 = some (.tsl 100 (rowsD l))) (fun _ _ h => h.elim) ?_ 0 (Nat.zero_le _)) ⟨⟨⟨_, rfl, Wk.refl _⟩, ⟨_, rfl, Wk.refl _⟩, ⟨_, rfl, Wk.int (by rw [el])⟩, ⟨_, rfl, Wk.refl _⟩, trivial⟩, trivial, ⟨⟨_, rfl, RW.refl _⟩, trivial⟩, rfl, rfl, rfl, rfl⟩ (fun _ h => h.elim) ?_
  · intro i hi
    refine cnd_mk (fun hc => ?_) (fun hc => ?_)
    · have hi2 : i < l.length := by simpa using hc
      obtain ⟨x, hx⟩ : ∃ x, l[i]? = some x := ⟨l[i], List.getElem?_eq_getElem hi2⟩
      have hmem := List.mem_of_getElem? hx
      have hsx := sizeL_mem hmem
      have hlx := limbsOkL_mem hlim x hmem
      have hh := h x hmem
      have e3 : rowsD (l.take (i + 1)) = rowsD (l.take i) ++ [cellsD x] := by rw [List.take_add_one, hx]; simp [rowsD_eq]
      have e4 : (rowsD (l.take i)).length = i := by rw [rowsD_len, List.length_take]; omega
      refine ⟨by omega, cellsD x, rowsD_get l i x hx, cellsD_len x, ?_⟩
      obtain ⟨k1, n1, l1, b1, s1, i1, t1⟩ := x
      simp only [items_mk, tail_mk] at hh
      unfold limbsOk at hlx
      unfold sizeD at hsx
      refine .pure _ rfl (clone_fn l1 hlx.1) ?_
      refine .pure _ rfl (hh.1 hlx.2.1 (by omega)) ?_
      refine .pure _ rfl (hh.2 hlx.2.2 (by omega)) ?_
      refine .mk (by decide +kernel) ?_
      refine .inl ⟨_, rfl, rfl, ?_, ?_, ?_, ?_⟩
      · intro c hc
        have : c = cellsD (.mk k1 n1 l1 b1 s1 i1 t1) := List.mem_singleton.1 hc
        rw [this]; rfl
      · show (rowsD (l.take i)).length + 1 ≤ _
        omega
      · show ((rowsD (l.take i)).length + 1) * 112 ≤ _
        omega
      · refine ⟨i + 1, by show l.length - (i + 1) < l.length - i; omega, hi2, ?_, fun _ _ _ h => h⟩
        show Covers _ _ [(3, .tsl 100 (rowsD (l.take (i + 1)))), (6, .v (.sl .some (rowsD l))), (7, .v (.int .i64 l.length)), (8, .v (.int .i64 ((i + 1 : Nat) : Int)))] ⟨[], [(100, (rowsD (l.take (i + 1)), 27, 7))], [100]⟩
        rw [e3]
        exact ⟨⟨⟨_, rfl, Wk.refl _⟩, ⟨_, rfl, Wk.refl _⟩, ⟨_, rfl, Wk.refl _⟩, ⟨_, rfl, Wk.int (wrap_i64 (by omega) (by omega))⟩, trivial⟩, trivial, ⟨⟨_, rfl, RW.refl _⟩, trivial⟩, rfl, rfl, rfl, rfl⟩
    · have hi2 : i = l.length := by simp at hc; omega
      subst hi2
      rw [List.take_length]
      exact ⟨rfl, rfl⟩
  · rintro e A S ⟨rfl, h⟩
    refine opt_mk h ?_
    exact ⟨.inr rfl, res1 rfl rfl⟩
theorem copied_fn (l : List Dat) : Pc l := by
  refine copied_of l fun d _ => ?_
  exact Dat.ind_ (p := fun d => Pc d.items ∧ Pc d.tail) (fun k n l b s it tl hi ht => ⟨copied_of it hi, copied_of tl ht⟩) d
end Go.Proofs.Ytcdfbkpdemhcpaa
namespace Go.Proofs.Ytcdfbkpdemhcpaa
open Go.Pav
set_option maxRecDepth 100000
theorem fewD_copy (d : Dat) : copyD d = bif fewD d then d else .zero := rfl
theorem fewD_iff (d : Dat) : fewD d = true ↔ sizeD d ≤ 100000 ∧ depthD d ≤ 10000 := by
  unfold fewD
  rw [decide_eq_true_eq, within_nonneg d _ _ (by omega)]
  omega
theorem Copy_fn (d : Dat) (hl : limbsOk d) : PFn Try.prog Γ0 12 [encD d] (encD (copyD d)) := by
  have f1 := few_fn d
  have hf := fewD_iff d
  rw [fewD_copy]
  cases hx : fewD d
  · rw [hx] at f1
    obtain ⟨k, n, l, b, s, it, tl⟩ := d
    refine PFn.res (r := .agg [.int .i64 0, .bool false, .sl .nil [], .bool false, .str ⟨#[]⟩, .sl .nil [], .sl .nil []]) ?_ (FW.agg (.cons (.refl _) (.cons (.refl _) (.cons FW.nil (.cons (.refl _) (.cons (.refl _) (.cons FW.nil (.cons FW.nil (.refl _)))))))))
    refine PFn.intro TT_ok mixed Try.func12 rfl rfl (by rw [Try.ntmps12]; simp) fun hB => ?_
    refine .pure _ rfl f1 ?_
    exact ⟨.inr rfl, _, rfl, rfl⟩
  · rw [hx] at f1
    have hs := (hf.1 hx).1
    have hc := copied_fn [d] (by unfold limbsOkL; exact ⟨hl, by unfold limbsOkL; trivial⟩) (by simp [sizeL]; omega)
    have hc' : PFn Try.prog Γ0 42 [.sl .full [cellsD d]] (.sl .some (rowsD [d])) := hc.args (.cons (.some _ _) (.refl _))
    obtain ⟨k, n, l, b, s, it, tl⟩ := d
    refine PFn.intro TT_ok mixed Try.func12 rfl rfl (by rw [Try.ntmps12]; simp) fun hB => ?_
    refine .pure _ rfl f1 ?_
    refine .pure _ rfl hc' ?_
    refine ⟨by decide, cellsD (.mk k n l b s it tl), rfl, rfl, ?_⟩
    exact ⟨.inr rfl, _, rfl, rfl⟩
end Go.Proofs.Ytcdfbkpdemhcpaa
namespace Go.Proofs.Ytcdfbkpdemhcpaa
open Go.Pav
set_option maxRecDepth 100000
/-- A matcher: its box 0, its binds token 1. -/
def MS (L : List LikeM) (xs : List BindM) : ASt := ⟨[(0, [.v (encLikes L), .tsl 1 (rowsB xs)])], [(1, (rowsB xs, 66, 10))], [0, 1]⟩
theorem rowsB_one (l : List BindM) : ∀ c ∈ rowsB l, c.length = 10 := by
  intro c hc
  unfold rowsB at hc
  rw [List.mem_map] at hc
  obtain ⟨p, _, rfl⟩ := hc
  exact cellsB_len p
theorem rowsB_len (l : List BindM) : (rowsB l).length = l.length := by simp [rowsB]
theorem rowsB_app (a b : List BindM) : rowsB a ++ rowsB b = rowsB (a ++ b) := by simp [rowsB]
abbrev mM := matchM SameD
/-- What is to be shown of match at a pattern. -/
def Pm (L : List LikeM) (p : Dat) : Prop := ∀ (d : Dat) (xs : List BindM), Fine d → xs.length + sizeD p ≤ 1000000 →
  GFn Try.prog Γ0 47 (MS L xs) [.ptr 0 0, .v (encD p), .v (encD d)] (.v (.bool (mM L p d).2)) (MS L (xs ++ (mM L p d).1))
theorem mem_contains {l : List Nat} {n : Nat} (h : n ∈ l) : l.contains n = true := by simpa using h
theorem fitsM {L : List LikeM} {S : ASt} {args args0 : List AV} {r : AV} {xs ys : List BindM} (ha : Wks args args0) (hH : S.H.lookup 0 = some [.v (encLikes L), .tsl 1 (rowsB xs)]) (hT : S.T.lookup 1 = some (rowsB xs, 66, 10)) (hw : withins [0, 1] args0 = true) (hU : (S.U.contains 0 && S.U.contains 1) = true) : FitsA S args (MS L xs) args0 r (MS L ys) := by
  rw [Bool.and_eq_true] at hU
  refine ⟨ha, fun p hp => ?_, fun p hp => ?_, hw, rfl, rfl, ?_, rfl, rfl⟩
  · rw [show (MS L xs).H = [(0, [.v (encLikes L), .tsl 1 (rowsB xs)])] from rfl, List.mem_singleton] at hp
    subst hp
    exact ⟨_, hH, Wks.refl _⟩
  · rw [show (MS L xs).T = [(1, (rowsB xs, 66, 10))] from rfl, List.mem_singleton] at hp
    subst hp
    exact hT
  · show [0, 1].all (fun n => (MS L ys).U.contains n && S.U.contains n) = true
    have h0 : 0 ∈ S.U := by simpa using hU.1
    have h1 : 1 ∈ S.U := by simpa using hU.2
    simp [h0, h1, MS]
theorem then_len (x y : ResM) : (x.andThen y).1.length ≤ x.1.length + y.1.length := by
  unfold ResM.andThen
  cases x.2
  · simp
  · simp
theorem allM_len {f : Dat → Dat → ResM} : ∀ (ps : List Dat), (∀ p ∈ ps, ∀ d, (f p d).1.length ≤ sizeD p) → ∀ ds, (allM (ps.map f) ds).1.length ≤ sizeL ps
  | [], _, ds => by simp [allM]
  | p :: ps, _, [] => by simp [allM]
  | p :: ps, h, d :: ds => by
    rw [List.map_cons, allM, sizeL]
    have h1 := h p (by simp) d
    have h2 := allM_len ps (fun q hq => h q (by simp [hq])) ds
    have h3 := then_len (f p d) (allM (ps.map f) ds)
    omega
theorem row_size (L : List LikeM) (it : List Dat) (i : Nat) : sizeL (it.take i) + (placesM L (it.getD i .zero) 0).length + sizeL (it.drop (i + 2)) ≤ sizeL it := by
  rcases Nat.lt_or_ge i it.length with hi | hi
  · have e : it = it.take i ++ it[i] :: it.drop (i + 1) := by
      rw [← List.drop_eq_getElem_cons hi, List.take_append_drop]
    have e1 : sizeL it = sizeL (it.take i) + (sizeD it[i] + sizeL (it.drop (i + 1))) := by
      conv => lhs; rw [e]
      rw [sizeL_append, sizeL]
    have e2 := sizeL_drop (it.drop (i + 1)) 1
    rw [List.drop_drop, show i + 1 + 1 = i + 2 by omega] at e2
    have e3 := places_len L it[i] 0
    have e4 : it.getD i .zero = it[i] := by simp [List.getD_eq_getElem?_getD, hi]
    rw [e4]
    omega
  · have e4 : it.getD i .zero = .zero := by simp [List.getD_eq_getElem?_getD, hi]
    have e5 : placesM L .zero 0 = [] := by
      unfold Dat.zero
      rw [placesM_mk]
      simp [varM, kind_mk, placesI, placesT]
    rw [e4, e5, List.drop_eq_nil_of_le (by omega), List.take_of_length_le hi]
    simp [sizeL]
theorem match_len (L : List LikeM) : ∀ p d, (mM L p d).1.length ≤ sizeD p := by
  refine Dat.ind_ fun k n l b s it tl hi ht d => ?_
  unfold mM
  rw [matchM_mk, matchMs_eq, matchMs_eq]
  unfold nodeM
  simp only [kind_mk, str_mk, items_mk, tail_mk]
  have hp := sizeD_pos (.mk k n l b s it tl)
  have hAll := fun (ps : List Dat) (h : ∀ p ∈ ps, p ∈ it) ds => allM_len (f := mM L) ps (fun p hp => hi p (h p hp)) ds
  have htl : ∀ q, (firstOr (tl.map (mM L)) ([], true) q).1.length ≤ sizeL tl := by
    intro q
    cases tl with
    | nil => simp [firstOr]
    | cons p r =>
      have := ht p (by simp) q
      simp only [List.map_cons, firstOr, sizeL]
      omega
  cases hk3 : k == 3
  · simp only [cond_false]
    cases hk5 : k == 5
    · simp
    · simp only [cond_true]
      cases hkd : d.kind == 5
      · simp
      · simp only [cond_true]
        unfold sizeD
        unfold listM
        cases it.findIdx? (againM L) with
        | some j =>
          cases j with
          | zero =>
            simp only []
            cases tl with
            | nil =>
              simp only [List.map_nil]
              have := hAll it (fun _ h => h) d.items
              cases (d.items.length == it.length && d.tail.isEmpty)
              · simp
              · simp only [cond_true]; simp only [mM] at this; omega
            | cons p r =>
              simp only [List.map_cons]
              have h1 := hAll it (fun _ h => h) d.items
              have h2 := ht p (by simp) (restM d it.length)
              have h3 := then_len (allM (it.map (mM L)) d.items) (mM L p (restM d it.length))
              cases decide (d.items.length < it.length)
              · simp only [cond_false, sizeL]; simp only [mM] at h1 h2 h3; omega
              · simp
          | succ j =>
            simp only []
            unfold rowM
            simp only [Nat.add_sub_cancel]
            cases (decide (d.items.length < j + (((it.map (matchM SameD L)).length) - (j + 1 + 1))) || (tl.isEmpty && !d.tail.isEmpty))
            · simp only [cond_false]
              have r1 := row_size L it j
              have h1 := hAll (it.take j) (fun _ h => List.mem_of_mem_take h) d.items
              have h2 := hAll (it.drop (j + 2)) (fun _ h => List.mem_of_mem_drop h) (d.items.drop (d.items.length - ((it.map (matchM SameD L)).length - (j + 1 + 1))))
              have h3 := htl (d.tail.headD (.mk 5 false [] false sEmpty [] []))
              simp only [mM, List.map_take, List.map_drop] at h1 h2 h3
              refine Nat.le_trans (then_len _ _) ?_
              generalize againsM _ _ _ = r
              cases r.2
              · simp only [cond_false, List.length_nil]; omega
              · simp only [cond_true]
                have h4 : (bindsOf (placesM L (it.getD j .zero) 0) r.1).length ≤ (placesM L (it.getD j .zero) 0).length := by
                  unfold bindsOf
                  rw [List.length_map, List.length_zip]
                  omega
                have h5 := then_len (bindsOf (placesM L (it.getD j .zero) 0) r.1, true) (ResM.andThen (allM ((it.map (matchM SameD L)).drop (j + 1 + 1)) (d.items.drop (d.items.length - ((it.map (matchM SameD L)).length - (j + 1 + 1))))) (firstOr (tl.map (matchM SameD L)) ([], true) (d.tail.headD (.mk 5 false [] false sEmpty [] []))))
                have h6 := then_len (allM ((it.map (matchM SameD L)).drop (j + 1 + 1)) (d.items.drop (d.items.length - ((it.map (matchM SameD L)).length - (j + 1 + 1))))) (firstOr (tl.map (matchM SameD L)) ([], true) (d.tail.headD (.mk 5 false [] false sEmpty [] [])))
                simp only at h5
                rw [show j + 1 + 1 = j + 2 by omega] at *
                omega
            · simp
        | none =>
          simp only []
          cases tl with
          | nil =>
            simp only [List.map_nil]
            have := hAll it (fun _ h => h) d.items
            cases (d.items.length == it.length && d.tail.isEmpty)
            · simp
            · simp only [cond_true]; simp only [mM] at this; omega
          | cons p r =>
            simp only [List.map_cons]
            have h1 := hAll it (fun _ h => h) d.items
            have h2 := ht p (by simp) (restM d it.length)
            have h3 := then_len (allM (it.map (mM L)) d.items) (mM L p (restM d it.length))
            cases decide (d.items.length < it.length)
            · simp only [cond_false, sizeL]; simp only [mM] at h1 h2 h3; omega
            · simp
  · simp only [cond_true]
    cases findM L s with
    | some i => simp
    | none =>
      simp only []
      cases seqS s sAny
      · simp only [cond_false]; exact hp
      · simp
theorem all_fn (L : List LikeM) (ps ds : List Dat) (xs : List BindM) (hp : ∀ p ∈ ps, Pm L p) (hd : ∀ d ∈ ds, Fine d) (hl : ps.length ≤ ds.length) (hx : xs.length + sizeL ps ≤ 1000000) :
    GFn Try.prog Γ0 100 (MS L xs) [.ptr 0 0, .v (.sl .some (rowsD ps)), .v (.sl .some (rowsD ds))] (.v (.bool (allM (ps.map (mM L)) ds).2)) (MS L (xs ++ (allM (ps.map (mM L)) ds).1)) := by
  have el := rowsD_len ps
  have hsz := sizeL_len ps
  refine GFn.intro TT_ok mixed Try.func100 rfl rfl (by rw [Try.ntmps100]; simp) ?_
  refine CdL.enter (CdL.wf TT_ok mixed (fun x : Nat × List BindM => ps.length - x.1) (fun x => x.1 ≤ ps.length ∧ x.2.length + sizeL (ps.drop x.1) ≤ 1000000 ∧ (allM (ps.map (mM L)) ds).2 = (allM ((ps.drop x.1).map (mM L)) (ds.drop x.1)).2 ∧ xs ++ (allM (ps.map (mM L)) ds).1 = x.2 ++ (allM ((ps.drop x.1).map (mM L)) (ds.drop x.1)).1)
    (fun x => [(0, .ptr 0 0), (2, .v (.sl .some (rowsD ds))), (9, .v (.sl .some (rowsD ps))), (10, .v (.int .i64 ps.length)), (11, .v (.int .i64 x.1))]) (fun x => MS L x.2)
    (fun _ e A S => (e = .exit 0 ∧ (allM (ps.map (mM L)) ds).2 = true ∧ Covers A S [] (MS L (xs ++ (allM (ps.map (mM L)) ds).1))) ∨ (e = .ret ∧ (allM (ps.map (mM L)) ds).2 = false ∧ Covers A S [(6, .v (.bool false))] (MS L (xs ++ (allM (ps.map (mM L)) ds).1)))) (fun _ _ h => mem_contains h) ?_ (0, xs) ⟨Nat.zero_le _, hx, rfl, rfl⟩) ?_ (fun _ h => mem_contains h) ?_
  · rintro ⟨i, acc⟩ ⟨hi, hb, h2, h1⟩
    dsimp only at hi hb h2 h1 ⊢
    refine cnd_mk (fun hc => ?_) (fun hc => ?_)
    · have hi2 : i < ps.length := by simpa using hc
      obtain ⟨p, hpi⟩ : ∃ p, ps[i]? = some p := ⟨ps[i], List.getElem?_eq_getElem hi2⟩
      obtain ⟨d, hdi⟩ : ∃ d, ds[i]? = some d := ⟨ds[i]'(by omega), List.getElem?_eq_getElem (by omega)⟩
      have hdp : ps.drop i = p :: ps.drop (i + 1) := by
        rw [List.drop_eq_getElem_cons hi2]
        rw [List.getElem?_eq_getElem hi2] at hpi
        rw [Option.some.inj hpi]
      have hdd : ds.drop i = d :: ds.drop (i + 1) := by
        rw [List.drop_eq_getElem_cons (by omega)]
        rw [List.getElem?_eq_getElem (by omega)] at hdi
        rw [Option.some.inj hdi]
      rw [hdp, hdd, List.map_cons, allM] at h1 h2
      rw [hdp, sizeL] at hb
      have hP := hp p (List.mem_of_getElem? hpi) d acc (hd d (List.mem_of_getElem? hdi)) (by omega)
      have hgp := rowsD_get ps i p hpi
      have hgd := rowsD_get ds i d hdi
      have hcp := cellsD_len p
      have hcd := cellsD_len d
      have hml := match_len L p d
      generalize mM L p d = r at *
      refine ⟨by omega, cellsD p, hgp, hcp, ?_⟩
      obtain ⟨k1, n1, l1, b1, s1, i1, t1⟩ := p
      refine ⟨by omega, cellsD d, hgd, hcd, ?_⟩
      obtain ⟨k2, n2, l2, b2, s2, i2, t2⟩ := d
      refine .own (fitsM (xs := acc) (ys := acc ++ r.1) (Wks.refl _) rfl rfl rfl rfl) hP ?_
      refine .mk (by dsimp only [MS]; decide +kernel) ?_
      obtain ⟨rb, ok⟩ := r
      cases ok
      · refine .inr ⟨rfl, h2, ?_⟩
        rw [h1]
        exact ⟨⟨⟨_, rfl, Wk.refl _⟩, trivial⟩, ⟨⟨_, rfl, Wks.refl _⟩, trivial⟩, ⟨⟨_, rfl, RW.refl _⟩, trivial⟩, rfl, rfl, rfl, rfl⟩
      · refine ⟨(i + 1, acc ++ rb), by show ps.length - (i + 1) < ps.length - i; omega, ⟨hi2, by simp only [List.length_append]; simp only at hml; omega, h2, by rw [h1]; simp [ResM.andThen]⟩, ?_, fun _ _ _ h => h⟩
        refine ⟨⟨⟨_, rfl, Wk.refl _⟩, ⟨_, rfl, Wk.refl _⟩, ⟨_, rfl, Wk.refl _⟩, ⟨_, rfl, Wk.refl _⟩, ⟨_, rfl, Wk.int (wrap_i64 (by omega) (by omega))⟩, trivial⟩, ⟨⟨_, rfl, Wks.refl _⟩, trivial⟩, ⟨⟨_, rfl, RW.refl _⟩, trivial⟩, rfl, rfl, rfl, rfl⟩
    · have hi2 : i = ps.length := by simp at hc; omega
      subst hi2
      rw [List.drop_length, List.map_nil, allM] at h1 h2
      rw [List.append_nil] at h1
      refine .inl ⟨rfl, h2, ?_⟩
      rw [h1]
      exact ⟨trivial, ⟨⟨_, rfl, Wks.refl _⟩, trivial⟩, ⟨⟨_, rfl, RW.refl _⟩, trivial⟩, rfl, rfl, rfl, rfl⟩
  · refine ⟨⟨⟨_, rfl, Wk.refl _⟩, ⟨_, rfl, Wk.refl _⟩, ⟨_, rfl, Wk.refl _⟩, ⟨_, rfl, Wk.int (by rw [el])⟩, ⟨_, rfl, Wk.refl _⟩, trivial⟩, ⟨⟨_, rfl, Wks.refl _⟩, trivial⟩, ⟨⟨_, rfl, RW.refl _⟩, trivial⟩, rfl, rfl, rfl, rfl⟩
  · rintro e A S (⟨rfl, h, hc⟩ | ⟨rfl, h, hc⟩)
    · rw [h]
      exact EndG.tmp (t := 6) (.inr rfl) rfl rfl (hc.put rfl)
    · rw [h]
      exact EndG.tmp (t := 6) (.inr rfl) rfl rfl hc
end Go.Proofs.Ytcdfbkpdemhcpaa
namespace Go.Proofs.Ytcdfbkpdemhcpaa
open Go.Pav
set_option maxRecDepth 100000
theorem good_limbs : ∀ d, goodD d = true → limbsOk d := by
  refine Dat.ind_ fun k n l b s it tl hi ht hg => ?_
  have key : ∀ xs : List Dat, (∀ d ∈ xs, goodD d = true → limbsOk d) → goodL xs = true → limbsOkL xs := by
    intro xs
    induction xs with
    | nil => intro _ _; unfold limbsOkL; trivial
    | cons x r ih =>
      intro h hg
      unfold goodL at hg
      rw [Bool.and_eq_true] at hg
      unfold limbsOkL
      exact ⟨h x (by simp) hg.1, ih (fun d hd => h d (by simp [hd])) hg.2⟩
  have hl : l.length ≤ 64 := by
    unfold goodD at hg
    by_cases h0 : k = 0
    · subst h0; simp at hg; rw [hg.1.1.1.1.2]; simp
    by_cases h1 : k = 1
    · subst h1; simp at hg; exact hg.2
    by_cases h2 : k = 2
    · subst h2; simp at hg; rw [hg.1.1.1.2]; simp
    by_cases h3 : k = 3
    · subst h3; simp at hg; rw [hg.1.1.1.1.1.2]; simp
    by_cases h4 : k = 4
    · subst h4; simp at hg; rw [hg.1.1.1.1.2]; simp
    by_cases h5 : k = 5
    · subst h5; simp at hg; rw [hg.1.1.1.1.1.2]; simp
    simp [h0, h1, h2, h3, h4, h5] at hg
  have hgi := good_items hg
  unfold limbsOk
  exact ⟨by omega, key it hi hgi.1, key tl ht hgi.2⟩
theorem fine_limbs {d : Dat} (h : Fine d) : limbsOk d := good_limbs d h.1
/-- What is to be shown of list at a pattern. -/
def Pl (L : List LikeM) (p : Dat) : Prop := ∀ (d : Dat) (xs : List BindM), Fine d → d.kind = 5 → xs.length + sizeD p ≤ 1000000 →
  GFn Try.prog Γ0 69 (MS L xs) [.ptr 0 0, .v (encD p), .v (encD d)] (.v (.bool (listM L p.items p.tail (p.items.map (mM L)) (p.tail.map (mM L)) d).2)) (MS L (xs ++ (listM L p.items p.tail (p.items.map (mM L)) (p.tail.map (mM L)) d).1))
theorem match_of (L : List LikeM) (p : Dat) (hp : Fine p) (hlist : p.kind = 5 → Pl L p) : Pm L p := by
  intro d xs hd hb
  have hf := find_fn L p.str
  have hcp := Copy_fn d (fine_limbs hd)
  have hsame := Same_fn p d (fine_limbs hp) (fine_limbs hd)
  obtain ⟨k, n, l, b, s, it, tl⟩ := p
  simp only [str_mk] at hf
  unfold mM
  rw [matchM_mk, matchMs_eq, matchMs_eq]
  unfold nodeM
  simp only [kind_mk, str_mk, items_mk, tail_mk]
  by_cases hk3 : k = 3
  · subst hk3
    simp only [BEq.rfl, cond_true]
    cases hfi : findM L s with
    | some i =>
      rw [hfi] at hf
      simp only [List.append_nil]
      obtain ⟨lk, hlk⟩ : ∃ lk, L[i]? = some lk := by
        have := (List.findIdx?_eq_some_iff_getElem.1 hfi).1
        exact ⟨L[i], List.getElem?_eq_getElem this⟩
      have hla : likeAll L i = lk.all := by unfold likeAll; rw [hlk]
      have hcs := containsS_fn lk.all d.str
      rw [hla]
      obtain ⟨k2, n2, l2, b2, s2, i2, t2⟩ := d
      simp only [kind_mk, str_mk] at hcs ⊢
      refine GFn.intro TT_ok mixed Try.func47 rfl rfl (by rw [Try.ntmps47]; simp) ?_
      refine .pure _ rfl hf ?_
      refine .mk (by decide +kernel) ?_
      refine cnd_mk (fun h => ?_) (fun h => ?_)
      · rw [h, Bool.true_and]
        refine ⟨by show 0 ≤ (i : Int); omega, cellsLike lk, map_get cellsLike hlk, rfl, ?_⟩
        refine .pure _ rfl hcs ?_
        refine .mk (by decide +kernel) ?_
        exact ⟨.inr rfl, rfl, _, rfl, ⟨⟨⟨_, rfl, Wk.refl _⟩, trivial⟩, ⟨⟨_, rfl, Wks.refl _⟩, trivial⟩, ⟨⟨_, rfl, RW.refl _⟩, trivial⟩, rfl, rfl, rfl, rfl⟩⟩
      · rw [h, Bool.false_and]
        refine .mk (by decide +kernel) ?_
        exact ⟨.inr rfl, rfl, _, rfl, ⟨⟨⟨_, rfl, Wk.refl _⟩, trivial⟩, ⟨⟨_, rfl, Wks.refl _⟩, trivial⟩, ⟨⟨_, rfl, RW.refl _⟩, trivial⟩, rfl, rfl, rfl, rfl⟩⟩
    | none =>
      rw [hfi] at hf
      simp only []
      cases hany : seqS s sAny
      · simp only [cond_false]
        obtain ⟨k2, n2, l2, b2, s2, i2, t2⟩ := d
        generalize hcd : copyD (.mk k2 n2 l2 b2 s2 i2 t2) = cd at *
        obtain ⟨k3, n3, l3, b3, s3, i3, t3⟩ := cd
        unfold sizeD at hb
        have eb := rowsB_len xs
        refine GFn.intro TT_ok mixed Try.func47 rfl rfl (by rw [Try.ntmps47]; simp) ?_
        refine .pure _ rfl hf ?_
        refine .mk (by decide +kernel) ?_
        refine cnd_t (show (!seqS s sAny) = true by rw [hany]; rfl) ?_
        refine .pure _ rfl hcp ?_
        refine .inl ⟨_, rfl, rfl, ?_, by show (rowsB xs).length + 1 ≤ _; omega, by show ((rowsB xs).length + 1) * 160 ≤ _; omega, ?_⟩
        · intro c hc
          rw [List.mem_singleton.1 hc]; rfl
        refine .mk (by decide +kernel) ?_
        have hrw : RW (rowsB xs ++ [[.str s, .int .i64 k3, .bool n3, u32s l3, .bool b3, .str s3, .sl .some (rowsD i3), .sl .some (rowsD t3), .bool false, .sl .nil []]]) (rowsB (xs ++ [⟨s, .mk (.mk k3 n3 l3 b3 s3 i3 t3) false []⟩])) := by
          rw [← rowsB_app]
          refine RW.append (RW.refl _) (RW.cons ?_ (RW.refl []))
          exact .cons (.refl _) (.cons (.refl _) (.cons (.refl _) (.cons (.refl _) (.cons (.refl _) (.cons (.refl _) (.cons (.refl _) (.cons (.refl _) (.cons (.refl _) (.cons FW.nil (.refl _))))))))))
        exact ⟨.inr rfl, rfl, _, rfl, ⟨⟨⟨_, rfl, Wk.refl _⟩, trivial⟩, ⟨⟨_, rfl, ⟨_, _, rfl, Wk.refl _, _, _, rfl, Wk.tokR hrw, rfl⟩⟩, trivial⟩, ⟨⟨_, rfl, hrw⟩, trivial⟩, rfl, rfl, rfl, rfl⟩⟩
      · simp only [cond_true, List.append_nil]
        obtain ⟨k2, n2, l2, b2, s2, i2, t2⟩ := d
        refine GFn.intro TT_ok mixed Try.func47 rfl rfl (by rw [Try.ntmps47]; simp) ?_
        refine .pure _ rfl hf ?_
        refine .mk (by decide +kernel) ?_
        refine cnd_f (show (!seqS s sAny) = false by rw [hany]; rfl) ?_
        exact ⟨.inr rfl, rfl, _, rfl, ⟨⟨⟨_, rfl, Wk.refl _⟩, trivial⟩, ⟨⟨_, rfl, Wks.refl _⟩, trivial⟩, ⟨⟨_, rfl, RW.refl _⟩, trivial⟩, rfl, rfl, rfl, rfl⟩⟩
  have e3 : (k == 3) = false := by simpa using hk3
  by_cases hk5 : k = 5
  · subst hk5
    have hlist' := hlist rfl d xs hd
    simp only [e3, cond_false, BEq.rfl, cond_true]
    simp only [items_mk, tail_mk] at hlist'
    obtain ⟨k2, n2, l2, b2, s2, i2, t2⟩ := d
    simp only [kind_mk] at hlist' ⊢
    cases hk2 : k2 == 5
    · simp only [cond_false, List.append_nil]
      refine GFn.intro TT_ok mixed Try.func47 rfl rfl (by rw [Try.ntmps47]; simp) ?_
      refine cnd_f hk2 ?_
      exact ⟨.inr rfl, rfl, _, rfl, ⟨⟨⟨_, rfl, Wk.refl _⟩, trivial⟩, ⟨⟨_, rfl, Wks.refl _⟩, trivial⟩, ⟨⟨_, rfl, RW.refl _⟩, trivial⟩, rfl, rfl, rfl, rfl⟩⟩
    · simp only [cond_true]
      have hlist'' := hlist' (by simpa using hk2) hb
      simp only [mM] at hlist''
      generalize listM L it tl (it.map (matchM SameD L)) (tl.map (matchM SameD L)) (.mk k2 n2 l2 b2 s2 i2 t2) = r at *
      refine GFn.intro TT_ok mixed Try.func47 rfl rfl (by rw [Try.ntmps47]; simp) ?_
      refine cnd_t hk2 ?_
      refine .own (fitsM (xs := xs) (ys := xs ++ r.1) (Wks.refl _) rfl rfl rfl rfl) hlist'' ?_
      exact ⟨.inr rfl, rfl, _, rfl, ⟨⟨⟨_, rfl, Wk.refl _⟩, trivial⟩, ⟨⟨_, rfl, Wks.refl _⟩, trivial⟩, ⟨⟨_, rfl, RW.refl _⟩, trivial⟩, rfl, rfl, rfl, rfl⟩⟩
  · have e5 : (k == 5) = false := by simpa using hk5
    simp only [e3, e5, cond_false, List.append_nil]
    obtain ⟨k2, n2, l2, b2, s2, i2, t2⟩ := d
    refine GFn.intro TT_ok mixed Try.func47 rfl rfl (by rw [Try.ntmps47]; simp) ?_
    refine cnd_f e3 ?_
    refine cnd_f e5 ?_
    refine .pure _ rfl hsame ?_
    exact ⟨.inr rfl, rfl, _, rfl, ⟨⟨⟨_, rfl, Wk.refl _⟩, trivial⟩, ⟨⟨_, rfl, Wks.refl _⟩, trivial⟩, ⟨⟨_, rfl, RW.refl _⟩, trivial⟩, rfl, rfl, rfl, rfl⟩⟩
end Go.Proofs.Ytcdfbkpdemhcpaa
namespace Go.Proofs.Ytcdfbkpdemhcpaa
open Go.Pav
set_option maxRecDepth 100000
theorem listq_fn (L : List LikeM) (x : Dat) (b : FV) : PFn Try.prog Γ0 98 [encD x, .fptr [.fptr [encLikes L, b]]] (.bool (againM L x)) := by
  have h := again_fn L x
  obtain ⟨k, n, l, b, s, it, tl⟩ := x
  refine PFn.intro TT_ok mixed Try.func98 rfl rfl (by rw [Try.ntmps98]; simp) fun hB => ?_
  refine .pure _ rfl h ?_
  refine .mk (by decide +kernel) ?_
  exact ⟨.inr rfl, res1 rfl rfl⟩
def Pr (L : List LikeM) (p : Dat) : Prop := ∀ (d : Dat) (xs : List BindM) (i : Nat), Fine d → d.kind = 5 → xs.length + sizeD p ≤ 1000000 → p.items.findIdx? (againM L) = some (i + 1) →
  GFn Try.prog Γ0 99 (MS L xs) [.ptr 0 0, .v (encD p), .v (encD d), .v (.int .i64 ((i + 1 : Nat) : Int))] (.v (.bool (rowM L p.items p.tail (p.items.map (matchM SameD L)) (p.tail.map (matchM SameD L)) (i + 1) d).2)) (MS L (xs ++ (rowM L p.items p.tail (p.items.map (matchM SameD L)) (p.tail.map (matchM SameD L)) (i + 1) d).1))
theorem beq_i (a b : Nat) : ((a : Int) == (b : Int)) = (a == b) := by rw [Bool.eq_iff_iff]; simp; omega
theorem all_len (L : List LikeM) : ∀ ps ds, (allM (ps.map (mM L)) ds).1.length ≤ sizeL ps
  | [], ds => by simp [allM]
  | p :: ps, [] => by simp [allM]
  | p :: ps, d :: ds => by
    rw [List.map_cons, allM, sizeL]
    have h1 := match_len L p d
    have h2 := all_len L ps ds
    unfold ResM.andThen
    cases (mM L p d).2
    · simp only [cond_false]; omega
    · simp only [cond_true, List.length_append]; omega
theorem list_of (L : List LikeM) (p : Dat) (hp : Fine p) (hk : p.kind = 5) (hw : wrongI L p.items true false = false) (hi : ∀ q ∈ p.items, againM L q = false → Pm L q) (ht : ∀ q ∈ p.tail, Pm L q) (hrow : Pr L p) : Pl L p := by
  intro d xs hd hkd hb
  have hq := fun b => indexD_fn p.items cellsD 98 [.fptr [.fptr [encLikes L, b]]] (againM L) (fun d _ => cellsD_len d) fun x _ => listq_fn L x b
  have hrow' := hrow d xs
  obtain ⟨k, n, l, b, s, it, tl⟩ := p
  simp only [kind_mk] at hk
  subst hk
  simp only [items_mk, tail_mk] at hq hrow' hi ht hw ⊢
  obtain ⟨_, _, _, _, htl, _, _, _⟩ := good_list hp.1
  unfold listM
  have el := rowsD_len it
  have etl := rowsD_len tl
  have q1 := sizeL_len it
  have hsz := hp.2.1
  unfold sizeD at hsz
  cases hfi : it.findIdx? (againM L) with
  | some j =>
    cases j with
    | zero =>
      exfalso
      rcases wrong_items hw with hno | ⟨a, o, y, b', rfl, hy, hno⟩
      · rw [findIdx_none fun x hx => (hno x hx).1] at hfi; cases hfi
      · rw [findIdx_at a o y b' hy fun x hx => (hno x hx).1] at hfi; cases hfi
    | succ j =>
      have hr := hrow' j hd hkd hb hfi
      simp only [mM]
      generalize rowM L it tl (it.map (matchM SameD L)) (tl.map (matchM SameD L)) (j + 1) d = r at *
      obtain ⟨k2, n2, l2, b2, s2, i2, t2⟩ := d
      rw [hfi] at hq
      refine GFn.intro TT_ok mixed Try.func69 rfl rfl (by rw [Try.ntmps69]; simp) ?_
      refine .lent 8 (.int .i64 ((j + 1 : Nat) : Int)) rfl rfl rfl (by rw [rowsD_eq]; exact hq _) ?_
      refine cnd_t (decide_eq_true (by show ((j + 1 : Nat) : Int) > 0; omega)) ?_
      refine .own (fitsM (xs := xs) (ys := xs ++ r.1) (Wks.refl _) rfl rfl rfl rfl) hr ?_
      exact ⟨.inr rfl, rfl, _, rfl, ⟨⟨⟨_, rfl, Wk.refl _⟩, trivial⟩, ⟨⟨_, rfl, Wks.refl _⟩, trivial⟩, ⟨⟨_, rfl, RW.refl _⟩, trivial⟩, rfl, rfl, rfl, rfl⟩⟩
  | none =>
    have hno : ∀ x ∈ it, againM L x = false := List.findIdx?_eq_none_iff.1 hfi
    simp only []
    rw [hfi] at hq
    have hI : ∀ q ∈ it, Pm L q := fun q hq => hi q hq (hno q hq)
    have hall := fun (hl : it.length ≤ d.items.length) => all_fn L it d.items xs hI (fun x hx => hd.item hx) hl (by unfold sizeD at hb; omega)
    have hrest := fun (hn : it.length ≤ d.items.length) => hd.rest hkd hn
    have hdlim := fine_limbs hd
    unfold sizeD at hb
    cases tl with
    | nil =>
      simp only [List.map_nil]
      cases hc1 : (d.items.length == it.length)
      · simp only [Bool.false_and, cond_false, List.append_nil]
        obtain ⟨k2, n2, l2, b2, s2, i2, t2⟩ := d
        simp only [items_mk] at hc1
        have el2 := rowsD_len i2
        have hc1' : i2.length ≠ it.length := by simpa using hc1
        refine GFn.intro TT_ok mixed Try.func69 rfl rfl (by rw [Try.ntmps69]; simp) ?_
        refine .lent 8 (.int .i64 (-1)) rfl rfl rfl (by rw [rowsD_eq]; exact hq _) ?_
        refine cnd_f (show (((rowsD i2).length : Int) == ((rowsD it).length : Int)) = false by rw [el, el2, beq_i]; simpa using hc1') ?_
        exact ⟨.inr rfl, rfl, _, rfl, ⟨⟨⟨_, rfl, Wk.refl _⟩, trivial⟩, ⟨⟨_, rfl, Wks.refl _⟩, trivial⟩, ⟨⟨_, rfl, RW.refl _⟩, trivial⟩, rfl, rfl, rfl, rfl⟩⟩
      · simp only [Bool.true_and]
        have hc1' : d.items.length = it.length := by simpa using hc1
        have hall' := hall (by omega)
        cases hc2 : d.tail.isEmpty
        · simp only [cond_false, List.append_nil]
          obtain ⟨k2, n2, l2, b2, s2, i2, t2⟩ := d
          simp only [items_mk, tail_mk] at hc1' hc2
          have el2 := rowsD_len i2
          have etl2 := rowsD_len t2
          have ht2 : t2.length ≠ 0 := by
            intro e
            rw [List.length_eq_zero_iff.1 e] at hc2; cases hc2
          refine GFn.intro TT_ok mixed Try.func69 rfl rfl (by rw [Try.ntmps69]; simp) ?_
          refine .lent 8 (.int .i64 (-1)) rfl rfl rfl (by rw [rowsD_eq]; exact hq _) ?_
          refine cnd_t (show (((rowsD i2).length : Int) == ((rowsD it).length : Int)) = true by rw [el, el2, hc1']; simp) ?_
          refine cnd_f (show (((rowsD t2).length : Int) == 0) = false by rw [etl2]; simpa using ht2) ?_
          exact ⟨.inr rfl, rfl, _, rfl, ⟨⟨⟨_, rfl, Wk.refl _⟩, trivial⟩, ⟨⟨_, rfl, Wks.refl _⟩, trivial⟩, ⟨⟨_, rfl, RW.refl _⟩, trivial⟩, rfl, rfl, rfl, rfl⟩⟩
        · simp only [cond_true]
          simp only [mM] at hall' ⊢
          generalize allM (it.map (matchM SameD L)) d.items = r at *
          obtain ⟨k2, n2, l2, b2, s2, i2, t2⟩ := d
          simp only [items_mk, tail_mk] at hc1' hc2 hall'
          have el2 := rowsD_len i2
          have ht2 : t2 = [] := by simpa using hc2
          subst ht2
          refine GFn.intro TT_ok mixed Try.func69 rfl rfl (by rw [Try.ntmps69]; simp) ?_
          refine .lent 8 (.int .i64 (-1)) rfl rfl rfl (by rw [rowsD_eq]; exact hq _) ?_
          refine cnd_t (show (((rowsD i2).length : Int) == ((rowsD it).length : Int)) = true by rw [el, el2, hc1']; simp) ?_
          refine .own (fitsM (xs := xs) (ys := xs ++ r.1) (Wks.refl _) rfl rfl rfl rfl) hall' ?_
          exact ⟨.inr rfl, rfl, _, rfl, ⟨⟨⟨_, rfl, Wk.refl _⟩, trivial⟩, ⟨⟨_, rfl, Wks.refl _⟩, trivial⟩, ⟨⟨_, rfl, RW.refl _⟩, trivial⟩, rfl, rfl, rfl, rfl⟩⟩
    | cons p' r' =>
      have hr' : r' = [] := by cases r' with | nil => rfl | cons z r => simp at htl
      subst hr'
      simp only [List.map_cons, List.map_nil]
      have hcp' := cellsD_len p'
      have hP := ht p' (by simp)
      cases hc1 : decide (d.items.length < it.length)
      rotate_left
      · simp only [cond_true, List.append_nil]
        obtain ⟨k2, n2, l2, b2, s2, i2, t2⟩ := d
        simp only [items_mk] at hc1
        have el2 := rowsD_len i2
        have hc1' : i2.length < it.length := of_decide_eq_true hc1
        refine GFn.intro TT_ok mixed Try.func69 rfl rfl (by rw [Try.ntmps69]; simp) ?_
        refine .lent 8 (.int .i64 (-1)) rfl rfl rfl (by rw [rowsD_eq]; exact hq _) ?_
        refine cnd_t (decide_eq_true (show ((rowsD i2).length : Int) < ((rowsD it).length : Int) by omega)) ?_
        exact ⟨.inr rfl, rfl, _, rfl, ⟨⟨⟨_, rfl, Wk.refl _⟩, trivial⟩, ⟨⟨_, rfl, Wks.refl _⟩, trivial⟩, ⟨⟨_, rfl, RW.refl _⟩, trivial⟩, rfl, rfl, rfl, rfl⟩⟩
      · simp only [cond_false]
        have hc1' : it.length ≤ d.items.length := Nat.le_of_not_lt (of_decide_eq_false hc1)
        have hall' := hall hc1'
        have hrest' := hrest hc1'
        have hal := all_len L it d.items
        simp only [mM] at hall' hal ⊢
        generalize allM (it.map (matchM SameD L)) d.items = r at *
        obtain ⟨rb, ok⟩ := r
        cases ok
        · obtain ⟨k2, n2, l2, b2, s2, i2, t2⟩ := d
          simp only [items_mk] at hc1' hall'
          have el2 := rowsD_len i2
          refine GFn.intro TT_ok mixed Try.func69 rfl rfl (by rw [Try.ntmps69]; simp) ?_
          refine .lent 8 (.int .i64 (-1)) rfl rfl rfl (by rw [rowsD_eq]; exact hq _) ?_
          refine cnd_f (decide_eq_false (show ¬ ((rowsD i2).length : Int) < ((rowsD it).length : Int) by omega)) ?_
          refine .own (fitsM (xs := xs) (ys := xs ++ rb) (Wks.refl _) rfl rfl rfl rfl) hall' ?_
          exact ⟨.inr rfl, rfl, _, rfl, ⟨⟨⟨_, rfl, Wk.refl _⟩, trivial⟩, ⟨⟨_, rfl, Wks.refl _⟩, trivial⟩, ⟨⟨_, rfl, RW.refl _⟩, trivial⟩, rfl, rfl, rfl, rfl⟩⟩
        · have hPr := hP (restM d it.length) (xs ++ rb) hrest' (by simp only [List.length_append, sizeL] at *; omega)
          simp only [mM] at hPr
          simp only [ResM.andThen, cond_true]
          rw [← List.append_assoc]
          generalize matchM SameD L p' (restM d it.length) = r2 at *
          obtain ⟨k1, n1, l1, b1, s1, i1, t1⟩ := p'
          obtain ⟨k2, n2, l2, b2, s2, i2, t2⟩ := d
          simp only [items_mk] at hc1' hall' hPr
          have el2 := rowsD_len i2
          have etl2 := rowsD_len t2
          unfold restM at hPr
          simp only [items_mk, tail_mk] at hPr
          refine GFn.intro TT_ok mixed Try.func69 rfl rfl (by rw [Try.ntmps69]; simp) ?_
          refine .lent 8 (.int .i64 (-1)) rfl rfl rfl (by rw [rowsD_eq]; exact hq _) ?_
          refine cnd_f (decide_eq_false (show ¬ ((rowsD i2).length : Int) < ((rowsD it).length : Int) by omega)) ?_
          refine .own (fitsM (xs := xs) (ys := xs ++ rb) (Wks.refl _) rfl rfl rfl rfl) hall' ?_
          refine ⟨by show 0 ≤ ((rowsD it).length : Int); omega, by show ((rowsD it).length : Int) ≤ ((rowsD i2).length : Int); omega, by show ((rowsD i2).length : Int) ≤ ((rowsD i2).length : Int); omega, rowsD_sz i2, ?_⟩
          refine .mk (by decide +kernel) ?_
          have edrop : List.drop ((rowsD it).length : Int).toNat (List.take ((rowsD i2).length : Int).toNat (rowsD i2)) = rowsD (i2.drop it.length) := by
            rw [Int.toNat_natCast, Int.toNat_natCast, List.take_length, el, rowsD_eq, rowsD_eq, List.map_drop]
          refine cnd_mk (fun h1 => ?_) (fun h1 => ?_)
          · have h1' : (it.length == i2.length) = true := by rw [← el, ← el2, ← beq_i]; exact h1
            rw [h1', Bool.true_and] at hPr
            refine cnd_mk (fun h2 => ?_) (fun h2 => ?_)
            · have h2' : ((rowsD t2).length : Int) > 0 := of_decide_eq_true h2
              obtain ⟨y, hy⟩ : ∃ y, t2[0]? = some y := ⟨t2[0]'(by omega), List.getElem?_eq_getElem (by omega)⟩
              have hgy := rowsD_get t2 0 y hy
              have hcy := cellsD_len y
              have hh : (bif !t2.isEmpty then t2.headD .zero else Dat.mk 5 false [] false sEmpty (i2.drop it.length) t2) = y := by
                cases t2 with
                | nil => simp at hy
                | cons z r => simp at hy; subst hy; rfl
              rw [hh] at hPr
              refine ⟨by decide, cellsD y, hgy, hcy, ?_⟩
              obtain ⟨k4, n4, l4, b4, s4, i4, t4⟩ := y
              refine ⟨by decide, cellsD (.mk k1 n1 l1 b1 s1 i1 t1), rfl, rfl, ?_⟩
              refine .own (fitsM (xs := xs ++ rb) (ys := xs ++ rb ++ r2.1) (Wks.refl _) rfl rfl rfl rfl) hPr ?_
              refine .mk (by dsimp only [MS]; decide +kernel) ?_
              exact ⟨.inr rfl, rfl, _, rfl, ⟨⟨⟨_, rfl, Wk.refl _⟩, trivial⟩, ⟨⟨_, rfl, Wks.refl _⟩, trivial⟩, ⟨⟨_, rfl, RW.refl _⟩, trivial⟩, rfl, rfl, rfl, rfl⟩⟩
            · have h2' : t2 = [] := by
                have : ¬ ((rowsD t2).length : Int) > 0 := of_decide_eq_false h2
                exact List.length_eq_zero_iff.1 (by omega)
              subst h2'
              simp only [List.isEmpty_nil, Bool.not_true, cond_false] at hPr
              refine ⟨by decide, cellsD (.mk k1 n1 l1 b1 s1 i1 t1), rfl, rfl, ?_⟩
              refine .own (fitsM (xs := xs ++ rb) (ys := xs ++ rb ++ r2.1) ⟨_, _, rfl, Wk.refl _, _, _, rfl, Wk.refl _, _, _, rfl, Wk.fw (FW.agg (.cons (.refl _) (.cons (.refl _) (.cons FW.nil (.cons (.refl _) (.cons (.refl _) (.cons ?_ (.refl _)))))))), rfl⟩ rfl rfl rfl rfl) hPr ?_
              · rw [← edrop]; exact FW.refl _
              refine .mk (by dsimp only [MS]; decide +kernel) ?_
              exact ⟨.inr rfl, rfl, _, rfl, ⟨⟨⟨_, rfl, Wk.refl _⟩, trivial⟩, ⟨⟨_, rfl, Wks.refl _⟩, trivial⟩, ⟨⟨_, rfl, RW.refl _⟩, trivial⟩, rfl, rfl, rfl, rfl⟩⟩
          · have h1' : (it.length == i2.length) = false := by rw [← el, ← el2, ← beq_i]; exact h1
            rw [h1', Bool.false_and] at hPr
            simp only [cond_false] at hPr
            refine ⟨by decide, cellsD (.mk k1 n1 l1 b1 s1 i1 t1), rfl, rfl, ?_⟩
            refine .own (fitsM (xs := xs ++ rb) (ys := xs ++ rb ++ r2.1) ⟨_, _, rfl, Wk.refl _, _, _, rfl, Wk.refl _, _, _, rfl, Wk.fw (FW.agg (.cons (.refl _) (.cons (.refl _) (.cons FW.nil (.cons (.refl _) (.cons (.refl _) (.cons ?_ (.refl _)))))))), rfl⟩ rfl rfl rfl rfl) hPr ?_
            · rw [← edrop]; exact FW.refl _
            refine .mk (by dsimp only [MS]; decide +kernel) ?_
            exact ⟨.inr rfl, rfl, _, rfl, ⟨⟨⟨_, rfl, Wk.refl _⟩, trivial⟩, ⟨⟨_, rfl, Wks.refl _⟩, trivial⟩, ⟨⟨_, rfl, RW.refl _⟩, trivial⟩, rfl, rfl, rfl, rfl⟩⟩
end Go.Proofs.Ytcdfbkpdemhcpaa
namespace Go.Pav
def cellsAt (f : Nat → List AV) (n : Nat) : List AV := (List.range n).flatMap f
theorem cellsAt_zero (f : Nat → List AV) : cellsAt f 0 = [] := rfl
theorem cellsAt_succ (f : Nat → List AV) (n : Nat) : cellsAt f (n + 1) = cellsAt f n ++ f n := by
  unfold cellsAt
  rw [List.range_succ, List.flatMap_append]
  simp
theorem cellsAt_len {f : Nat → List AV} {sz : Nat} : ∀ {n : Nat}, (∀ k, k < n → (f k).length = sz) → (cellsAt f n).length = n * sz
  | 0, _ => by simp [cellsAt_zero]
  | n + 1, h => by
    rw [cellsAt_succ, List.length_append, cellsAt_len fun k hk => h k (by omega), h n (by omega), Nat.add_mul, Nat.one_mul]
theorem mul_lt {k n sz o : Nat} (hk : k < n) (ho : o < sz) : k * sz + o < n * sz := by
  have := Nat.mul_le_mul_right sz (show k + 1 ≤ n from hk)
  rw [Nat.add_mul, Nat.one_mul] at this
  omega
theorem cellsAt_get {f : Nat → List AV} {sz : Nat} : ∀ {n : Nat}, (∀ k, k < n → (f k).length = sz) → ∀ {k o : Nat}, k < n → o < sz → (cellsAt f n)[k * sz + o]? = (f k)[o]?
  | 0, _, k, o, hk, _ => by omega
  | n + 1, h, k, o, hk, ho => by
    have hl := cellsAt_len (f := f) (sz := sz) (n := n) fun k hk => h k (by omega)
    rw [cellsAt_succ]
    by_cases he : k = n
    · subst he
      rw [List.getElem?_append_right (by omega), hl]
      rw [Nat.add_sub_cancel_left]
    · have hk' : k < n := by omega
      rw [List.getElem?_append_left (by rw [hl]; exact mul_lt hk' ho)]
      exact cellsAt_get (fun k hk => h k (by omega)) hk' ho
theorem cellsAt_congr {f g : Nat → List AV} : ∀ {n : Nat}, (∀ k, k < n → f k = g k) → cellsAt f n = cellsAt g n
  | 0, _ => rfl
  | n + 1, h => by rw [cellsAt_succ, cellsAt_succ, cellsAt_congr fun k hk => h k (by omega), h n (by omega)]
theorem cellsAt_part {f : Nat → List AV} {sz : Nat} {n : Nat} (h : ∀ k, k < n → (f k).length = sz) {k : Nat} (hk : k < n) : ((cellsAt f n).drop (k * sz)).take sz = f k := by
  have hl := cellsAt_len h
  have hle := Nat.mul_le_mul_right sz (show k + 1 ≤ n from hk)
  rw [Nat.add_mul, Nat.one_mul] at hle
  apply List.ext_getElem?
  intro o
  rw [List.getElem?_take]
  split
  · rename_i ho
    rw [List.getElem?_drop, cellsAt_get h hk ho]
  · rename_i ho
    rw [List.getElem?_eq_none (by rw [h k hk]; omega)]
theorem cellsAt_set {f : Nat → List AV} {sz : Nat} : ∀ {n : Nat}, (∀ k, k < n → (f k).length = sz) → ∀ {k o : Nat}, k < n → o < sz → ∀ z, (cellsAt f n).set (k * sz + o) z = cellsAt (fun j => if j = k then (f k).set o z else f j) n
  | 0, _, k, o, hk, _, _ => by omega
  | n + 1, h, k, o, hk, ho, z => by
    have hl := cellsAt_len (f := f) (sz := sz) (n := n) fun k hk => h k (by omega)
    rw [cellsAt_succ, cellsAt_succ]
    by_cases he : k = n
    · subst he
      rw [List.set_append_right _ _ (by omega), hl, Nat.add_sub_cancel_left, if_pos rfl]
      congr 1
      exact cellsAt_congr fun j hj => by rw [if_neg (by omega)]
    · have hk' : k < n := by omega
      rw [List.set_append_left _ _ (by rw [hl]; exact mul_lt hk' ho), if_neg (fun e => he e.symm), cellsAt_set (fun k hk => h k (by omega)) hk' ho]
theorem splice_one {cs : List AV} {off : Nat} {z : AV} (h : off < cs.length) : splice cs [z] off = cs.set off z := by
  unfold splice
  rw [List.set_eq_take_append_cons_drop, if_pos h]
  simp
theorem cellsAt_const (z : List AV) (n : Nat) : (List.replicate n z).flatten = cellsAt (fun _ => z) n := by
  induction n with
  | zero => rfl
  | succ n ih => rw [List.replicate_succ', List.flatten_append, ih, cellsAt_succ]; simp
theorem cellsAt_mem {f : Nat → List AV} {n : Nat} {x : AV} (h : x ∈ cellsAt f n) : ∃ k, k < n ∧ x ∈ f k := by
  unfold cellsAt at h
  rw [List.mem_flatMap] at h
  obtain ⟨k, hk, hx⟩ := h
  exact ⟨k, List.mem_range.1 hk, hx⟩
theorem withins_of {U : List Nat} {xs : List AV} (h : ∀ x ∈ xs, x.within U = true) : withins U xs = true := by
  induction xs with
  | nil => unfold withins; rfl
  | cons x r ih =>
    unfold withins
    rw [h x (by simp), ih fun y hy => h y (by simp [hy])]
    rfl
theorem withins_mem {U : List Nat} {xs : List AV} (h : withins U xs = true) : ∀ x ∈ xs, x.within U = true := by
  induction xs with
  | nil => intro x hx; cases hx
  | cons y r ih =>
    unfold withins at h
    rw [Bool.and_eq_true] at h
    intro x hx
    rcases List.mem_cons.1 hx with rfl | hx
    · exact h.1
    · exact ih h.2 x hx
theorem TokC_of {S : ASt} : ∀ {L : List (Nat × (List (List FV) × TypeId × Nat))}, (∀ p ∈ L, ∃ xs, S.T.lookup p.1 = some (xs, p.2.2) ∧ RW xs p.2.1) → TokC S L
  | [], _ => trivial
  | p :: r, h => ⟨h p (by simp), TokC_of fun q hq => h q (by simp [hq])⟩
/-- Tokens named from base on. -/
def toksAt (base : Nat) (f : Nat → List (List FV)) (e : TypeId) (sz n : Nat) : List (Nat × (List (List FV) × TypeId × Nat)) := (List.range n).map fun k => (k + base, (f k, e, sz))
theorem toksAt_lookup {base : Nat} {f : Nat → List (List FV)} {e : TypeId} {sz n k : Nat} {r : List (Nat × (List (List FV) × TypeId × Nat))} (hk : k < n) : (toksAt base f e sz n ++ r).lookup (k + base) = some (f k, e, sz) := by
  unfold toksAt
  induction n with
  | zero => omega
  | succ n ih =>
    rw [List.range_succ, List.map_append, List.append_assoc]
    by_cases he : k < n
    · have := ih he
      rw [List.lookup_append] at this ⊢
      cases hq : ((List.range n).map fun k => (k + base, (f k, e, sz))).lookup (k + base) with
      | some y =>
        rw [hq] at this
        simpa using this
      | none =>
        exfalso
        rw [List.lookup_eq_none_iff] at hq
        have := hq (k + base, (f k, e, sz)) (List.mem_map.2 ⟨k, List.mem_range.2 he, rfl⟩)
        simp at this
    · obtain rfl : k = n := by omega
      have hn : ((List.range k).map fun k => (k + base, (f k, e, sz))).lookup (k + base) = none := by
        rw [List.lookup_eq_none_iff]
        intro p hp
        rw [List.mem_map] at hp
        obtain ⟨j, hj, rfl⟩ := hp
        have := List.mem_range.1 hj
        simp; omega
      rw [List.lookup_append, hn]
      simp [lookup_cons]
theorem toksAt_other {base : Nat} {f : Nat → List (List FV)} {e : TypeId} {sz n t : Nat} {r : List (Nat × (List (List FV) × TypeId × Nat))} (ht : t < base) : (toksAt base f e sz n ++ r).lookup t = r.lookup t := by
  have hn : (toksAt base f e sz n).lookup t = none := by
    unfold toksAt
    rw [List.lookup_eq_none_iff]
    intro p hp
    rw [List.mem_map] at hp
    obtain ⟨j, hj, rfl⟩ := hp
    simp; omega
  rw [List.lookup_append, hn]
  rfl
theorem Nx.settleBox {M : Mem} {ρ : Nam} {w : World} {S : View} (h : St M ρ w S) {l : Nat} {cs : List AV} {j t m : Nat} {xs : List (List FV)} {e : TypeId} {sz : Nat} (hl : S.H l = some cs) (hj : cs[j]? = some (.tk t m)) (hT : S.T t = some (xs, e, sz)) (hE : e < BIG) (hm : xs.length = m) :
    Nx M ρ w S M ρ w (S.setBox l (cs.set j (.tsl t xs))) := by
  obtain ⟨b, c, ty, h1, h2, h3, h4, h5⟩ := h.box l cs hl
  obtain ⟨v, h6, h7⟩ := AVRs.get h3 j _ hj
  have hy2 : AVR M ρ (.tsl t xs) v := by
    unfold AVR at h7 ⊢
    obtain ⟨_, i1, k1, k2, k3⟩ := h7
    obtain ⟨i2, k4, k5, _⟩ := h.tok t xs e sz hT
    rw [k1] at k4
    obtain rfl := Option.some.inj k4
    rw [slv_of hE, hm, eff_of (big_lt hE)] at k5
    exact ⟨by rw [k3]; exact k5, i1, k1, by rw [hm]; exact k2, by rw [hm]; exact k3⟩
  have hset : c.toList.set j v = c.toList := by
    refine List.ext_getElem? fun n => ?_
    rw [List.getElem?_set]
    split
    · rename_i e1
      subst e1
      split
      · exact h6.symm
      · rename_i hn; rw [List.getElem?_eq_none (by omega)]
    · rfl
  refine Nx.setBox h l b cs _ hl h1 c ty h2 (fun _ _ => rfl) rfl rfl rfl rfl ?_ h4
  rw [← hset]
  exact AVRs.set h3 j _ v hy2
theorem CdL.settleBox {P : Program} {Γ : Glo} {N : Nat} {Kp : Nat → Prop} {c : Code} {A : Env} {S : ASt} {Q : Exit → Env → ASt → Prop} (l j t m : Nat) (e : TypeId) (sz : Nat) {cs : List AV} {xs : List (List FV)} (h1 : S.H.lookup l = some cs) (h2 : cs[j]? = some (.tk t m)) (hT : S.T.lookup t = some (xs, e, sz)) (hm : xs.length = m)
    (h : CdL P Γ N Kp c A (S.setBox l (cs.set j (.tsl t xs))) Q) (hE : e < BIG := by decide) : CdL P Γ N Kp c A S Q := fun M ρ w a hTR hG hSt b ks cs' => by
  have k1 := Nx.settleBox (S := S.view) hSt h1 h2 hT hE hm
  rw [← view_setBox] at k1
  obtain ⟨e', a', w', p, r⟩ := h M ρ w a hTR hG k1.st b ks cs'
  exact ⟨e', a', w', Post.trans k1 (KeepN.of_le ρ.le_refl) p, r⟩
theorem chk_mk {b : Bool} {k : Prop} (h : b = true) (hk : k) : chk b k := by subst h; exact hk
end Go.Pav
namespace Go.Proofs.Ytcdfbkpdemhcpaa
open Go.Pav
set_option maxRecDepth 100000
def zero7 : List AV := [.v (.int .i64 0), .v (.bool false), .v (.sl .nil []), .v (.bool false), .v (.str ⟨#[]⟩), .v (.sl .nil []), .v (.sl .nil [])]
/-- A tree, as it grows: the first i have become tokens'. -/
def treeF (i : Nat) (kids : Nat → List TreeM) (k : Nat) : List AV := if k < i then zero7 ++ [.v (.bool true), .tsl (k + 1000) (rowsT (kids k))] else zero7 ++ [.v (.bool false), .v (.sl .nil [])]
theorem treeF_len (i : Nat) (kids : Nat → List TreeM) (k : Nat) : (treeF i kids k).length = 9 := by unfold treeF; split <;> rfl
def rowU (i : Nat) : List Nat := [0, 1, 5, 6, 10, 80] ++ (List.range i).map (· + 1000)
/-- What is one's own within row. -/
def rowS (L : List LikeM) (xs : List BindM) (p d o : Dat) (i : Nat) (kids : Nat → List TreeM) (np : Nat) : ASt :=
  ⟨[(0, [.v (encLikes L), .tsl 1 (rowsB xs)]), (5, (cellsD p).map .v), (6, (cellsD d).map .v), (10, (cellsD o).map .v), (80, cellsAt (treeF i kids) np)], toksAt 1000 (fun k => rowsT (kids k)) 64 9 i ++ [(1, (rowsB xs, 66, 10))], rowU i⟩
theorem mem_rowU {n i : Nat} (h : n ∈ [0, 1, 5, 6, 10, 80]) : n ∈ rowU i := List.mem_append_left _ h
theorem mem_rowU2 {k i : Nat} (h : k < i) : k + 1000 ∈ rowU i := List.mem_append_right _ (List.mem_map.2 ⟨k, List.mem_range.2 h, rfl⟩)
theorem rowK {n i : Nat} (hn : n ∈ [0, 1]) : (rowU i).contains n = true := mem_contains (mem_rowU (by
  rcases List.mem_cons.1 hn with rfl | hn
  · simp
  · rw [List.mem_singleton.1 hn]; simp))
theorem rowN {n i : Nat} (h1 : n < 1000) (h2 : n ∉ [0, 1, 5, 6, 10, 80]) : (rowU i).contains n = false := by
  rw [Bool.eq_false_iff]
  intro h
  rw [List.contains_iff_mem] at h
  rcases List.mem_append.1 h with h | h
  · exact h2 h
  · obtain ⟨k, hk, he⟩ := List.mem_map.1 h
    have he' : k + 1000 = n := he
    omega
theorem within_v (U : List Nat) (l : List FV) : withins U (l.map .v) = true := withins_of fun x hx => by
  obtain ⟨y, _, rfl⟩ := List.mem_map.1 hx
  rfl
theorem rowCov {L : List LikeM} {xs : List BindM} {p d o : Dat} {i np : Nat} {kids : Nat → List TreeM} {A : Env} {S : ASt} {E : List (Nat × AV)} (hE : EnvC A E) (h0 : S.H.lookup 0 = some [.v (encLikes L), .tsl 1 (rowsB xs)]) (h5 : S.H.lookup 5 = some ((cellsD p).map .v)) (h6 : S.H.lookup 6 = some ((cellsD d).map .v))
    (h10 : S.H.lookup 10 = some ((cellsD o).map .v)) (h80 : S.H.lookup 80 = some (cellsAt (treeF i kids) np)) (hT : ∀ k, k < i → S.T.lookup (k + 1000) = some (rowsT (kids k), 64, 9)) (hT1 : S.T.lookup 1 = some (rowsB xs, 66, 10)) (hU : ∀ n ∈ [0, 1, 5, 6, 10, 80], n ∈ S.U) (hU2 : ∀ k, k < i → k + 1000 ∈ S.U)
    (hin : ∀ q ∈ E, q.2.within (rowU i) = true) : Covers A S E (rowS L xs p d o i kids np) := by
  refine ⟨hE, ?_, TokC_of fun q hq => ?_, ?_, List.all_eq_true.2 hin, ?_, ?_⟩
  · exact ⟨⟨_, h0, Wks.refl _⟩, ⟨_, h5, Wks.refl _⟩, ⟨_, h6, Wks.refl _⟩, ⟨_, h10, Wks.refl _⟩, ⟨_, h80, Wks.refl _⟩, trivial⟩
  · rcases List.mem_append.1 hq with hq | hq
    · obtain ⟨k, hk, rfl⟩ := List.mem_map.1 hq
      exact ⟨_, hT k (List.mem_range.1 hk), RW.refl _⟩
    · rw [List.mem_singleton.1 hq]
      exact ⟨_, hT1, RW.refl _⟩
  · rw [List.all_eq_true]
    intro n hn
    rcases List.mem_append.1 hn with hn | hn
    · exact mem_contains (hU n hn)
    · obtain ⟨k, hk, rfl⟩ := List.mem_map.1 hn
      exact mem_contains (hU2 k (List.mem_range.1 hk))
  · rw [List.all_eq_true]
    intro q hq
    simp only [rowS, List.mem_cons, List.not_mem_nil, or_false] at hq
    rcases hq with rfl | rfl | rfl | rfl | rfl
    · simp only [Bool.and_eq_true]
      exact ⟨mem_contains (mem_rowU (by simp)), withins_of fun x hx => by
        rcases List.mem_cons.1 hx with rfl | hx
        · rfl
        · rw [List.mem_singleton.1 hx]; exact mem_contains (mem_rowU (by simp))⟩
    · simp only [Bool.and_eq_true]
      exact ⟨mem_contains (mem_rowU (by simp)), within_v _ _⟩
    · simp only [Bool.and_eq_true]
      exact ⟨mem_contains (mem_rowU (by simp)), within_v _ _⟩
    · simp only [Bool.and_eq_true]
      exact ⟨mem_contains (mem_rowU (by simp)), within_v _ _⟩
    · simp only [Bool.and_eq_true]
      refine ⟨mem_contains (mem_rowU (by simp)), withins_of fun x hx => ?_⟩
      obtain ⟨k, hk, hx⟩ := cellsAt_mem hx
      unfold treeF at hx
      split at hx
      · rename_i hki
        simp only [zero7, List.cons_append, List.nil_append, List.mem_cons, List.not_mem_nil, or_false] at hx
        rcases hx with rfl | rfl | rfl | rfl | rfl | rfl | rfl | rfl | rfl <;> try rfl
        exact mem_contains (mem_rowU2 hki)
      · simp only [zero7, List.cons_append, List.nil_append, List.mem_cons, List.not_mem_nil, or_false] at hx
        rcases hx with rfl | rfl | rfl | rfl | rfl | rfl | rfl | rfl | rfl <;> rfl
  · rw [List.all_eq_true]
    intro q hq
    rcases List.mem_append.1 hq with hq | hq
    · obtain ⟨k, hk, rfl⟩ := List.mem_map.1 hq
      exact mem_contains (mem_rowU2 (List.mem_range.1 hk))
    · rw [List.mem_singleton.1 hq]
      exact mem_contains (mem_rowU (by simp))
/-- What row's loops have at hand. -/
def rowE (ahead : FV) (behind : FV) (n : Int) (ps : List PlaceM) (np : Nat) : List (Nat × AV) :=
  [(0, .ptr 0 0), (5, .ptr 5 0), (6, .ptr 6 0), (9, .v ahead), (10, .ptr 10 0), (11, .v behind), (12, .v (.int .i64 n)), (13, .v (.sl .some (rowsPlace ps))), (14, .bsl 80 0 np np 9)]
theorem rowE_in {ahead behind : FV} {n : Int} {ps : List PlaceM} {np i : Nat} : ∀ q ∈ rowE ahead behind n ps np, q.2.within (rowU i) = true := by
  intro q hq
  simp only [rowE, List.mem_cons, List.not_mem_nil, or_false] at hq
  rcases hq with rfl | rfl | rfl | rfl | rfl | rfl | rfl | rfl | rfl
  all_goals first | rfl | exact mem_contains (mem_rowU (by simp))
/-- Every tree is made one of many. -/
theorem row_loop1 (L : List LikeM) (xs : List BindM) (p d o : Dat) (ahead behind : FV) (n : Int) (ps : List PlaceM) (np : Nat) (hnp : np ≤ 1000000) :
    ∀ i, i ≤ np → CdL Try.prog Γ0 Try.f99.ntmps (fun n => n ∈ [0, 1]) (nthLoop Try.f99 0) (Env.of (rowE ahead behind n ps np ++ [(82, .v (.int .i64 np)), (83, .v (.int .i64 i))])) (rowS L xs p d o i (fun _ => []) np)
      (fun e A S => e = .exit 0 ∧ S = rowS L xs p d o np (fun _ => []) np ∧ ∃ z, A = (Env.of (rowE ahead behind n ps np ++ [(82, .v (.int .i64 np)), (83, .v (.int .i64 np))])).put (some 84) z) := by
  intro i hi
  refine CdL.wf2 TT_ok mixed (fun i => np - i) (fun i => i ≤ np) (fun i => rowE ahead behind n ps np ++ [(82, .v (.int .i64 np)), (83, .v (.int .i64 i))]) (fun i => rowS L xs p d o i (fun _ => []) np) (fun _ e A S => e = .exit 0 ∧ S = rowS L xs p d o np (fun _ => []) np ∧ ∃ z, A = (Env.of (rowE ahead behind n ps np ++ [(82, .v (.int .i64 np)), (83, .v (.int .i64 np))])).put (some 84) z) ?_ i hi
  intro i hi
  refine cnd_mk (fun hc => ?_) (fun hc => ?_)
  · have hi2 : i < np := by simpa using hc
    have hlen : ∀ k, k < np → (treeF i (fun _ => []) k).length = 9 := fun k _ => treeF_len i _ k
    have hcl := cellsAt_len hlen
    have hml := mul_lt (sz := 9) (o := 7) hi2 (by omega)
    have hml8 := mul_lt (sz := 9) (o := 8) hi2 (by omega)
    have eo : 0 + (i : Int).toNat * 9 + 7 = i * 9 + 7 := by rw [Int.toNat_natCast]; omega
    refine ⟨by omega, by omega, ?_⟩
    repeat refine chk_mk rfl ?_
    refine chk_mk ?_ ?_
    · show (_ && Nat.ble (0 + (i : Int).toNat * 9 + 7 + 1) (cellsAt (treeF i fun _ => []) np).length) = true
      rw [eo, hcl, Bool.and_eq_true]
      exact ⟨rfl, Nat.ble_eq_true_of_le (by omega)⟩
    refine ⟨i + 1, by show np - (i + 1) < np - i; omega, hi2, fun hgo => ?_⟩
    have es : splice (cellsAt (treeF i fun _ => []) np) [.v (.bool true)] (0 + (i : Int).toNat * 9 + 7) = cellsAt (fun j => if j = i then (treeF i (fun _ => []) i).set 7 (.v (.bool true)) else treeF i (fun _ => []) j) np := by
      rw [eo, splice_one (by rw [hcl]; omega), cellsAt_set hlen hi2 (by omega)]
    have hlen2 : ∀ k, k < np → ((fun j => if j = i then (treeF i (fun _ => []) i).set 7 (.v (.bool true)) else treeF i (fun _ => []) j) k).length = 9 := by
      intro k _
      dsimp only
      split
      · rw [List.length_set]; exact treeF_len i _ i
      · exact treeF_len i _ k
    have et : treeF i (fun _ => []) i = zero7 ++ [.v (.bool false), .v (.sl .nil [])] := if_neg (by omega)
    refine CdL.adoptBox 80 (i * 9 + 8) (i + 1000) 64 9 (cs := cellsAt (fun j => if j = i then (treeF i (fun _ => []) i).set 7 (.v (.bool true)) else treeF i (fun _ => []) j) np) (k := .nil) (xs := []) ?_ ?_ (.inl rfl) ?_ (fun c hc => by cases hc) ?_
    · rw [← es]; rfl
    · rw [cellsAt_get hlen2 hi2 (by omega), if_pos rfl, et]; rfl
    · show (rowU i).contains (i + 1000) = false
      rw [Bool.eq_false_iff]
      intro h
      rw [List.contains_iff_mem] at h
      rcases List.mem_append.1 h with h | h
      · simp at h
      · obtain ⟨k, hk, he⟩ := List.mem_map.1 h
        have := List.mem_range.1 hk
        simp at he
        omega
    refine CdL.enter hgo ?_ (fun n hn => mem_contains (mem_rowU (by
      rcases List.mem_cons.1 hn with rfl | hn
      · simp
      · rw [List.mem_singleton.1 hn]; simp))) (fun _ _ _ h => h)
    refine rowCov ?_ rfl rfl rfl rfl ?_ ?_ ?_ ?_ ?_ ?_
    · exact ⟨⟨_, rfl, Wk.refl _⟩, ⟨_, rfl, Wk.refl _⟩, ⟨_, rfl, Wk.refl _⟩, ⟨_, rfl, Wk.refl _⟩, ⟨_, rfl, Wk.refl _⟩, ⟨_, rfl, Wk.refl _⟩, ⟨_, rfl, Wk.refl _⟩, ⟨_, rfl, Wk.refl _⟩, ⟨_, rfl, Wk.refl _⟩, ⟨_, rfl, Wk.refl _⟩, ⟨_, rfl, Wk.int (wrap_i64 (by omega) (by omega))⟩, trivial⟩
    · show some ((cellsAt _ np).set (i * 9 + 8) (.tsl (i + 1000) [])) = _
      rw [cellsAt_set hlen2 hi2 (by omega)]
      congr 1
      refine cellsAt_congr fun k hk => ?_
      by_cases hki : k = i
      · subst hki
        rw [if_pos rfl, if_pos rfl, et]
        unfold treeF
        rw [if_pos (by omega)]
        rfl
      · rw [if_neg hki, if_neg hki]
        unfold treeF
        by_cases hk2 : k < i
        · rw [if_pos hk2, if_pos (by omega)]
        · rw [if_neg hk2, if_neg (by omega)]
    · intro k hk
      show List.lookup (k + 1000) ((i + 1000, ([], 64, 9)) :: _) = _
      rw [lookup_cons]
      by_cases hki : k = i
      · subst hki; rw [if_pos rfl]; rfl
      · rw [if_neg (by omega)]
        exact toksAt_lookup (by omega)
    · show List.lookup 1 ((i + 1000, ([], 64, 9)) :: _) = _
      rw [lookup_cons, if_neg (by omega)]
      exact (toksAt_other (by omega)).trans rfl
    · intro n hn
      exact List.mem_cons_of_mem _ (mem_rowU hn)
    · intro k hk
      by_cases hki : k = i
      · subst hki; exact List.mem_cons_self
      · exact List.mem_cons_of_mem _ (mem_rowU2 (by omega))
    · intro q hq
      rcases List.mem_append.1 hq with hq | hq
      · exact rowE_in q hq
      · simp only [List.mem_cons, List.not_mem_nil, or_false] at hq
        rcases hq with rfl | rfl <;> rfl
  · have hi2 : i = np := by simp at hc; omega
    subst hi2
    exact ⟨rfl, rfl, _, rfl⟩
end Go.Proofs.Ytcdfbkpdemhcpaa
namespace Go.Proofs.Ytcdfbkpdemhcpaa
open Go.Pav
set_option maxRecDepth 100000
def kidsJ (kids : Nat → List TreeM) (rb : List BindM) (j k : Nat) : List TreeM := if k < j then kids k ++ [tr rb k] else kids k
theorem rowsT_len (l : List TreeM) : (rowsT l).length = l.length := by rw [rowsT_eq]; simp
theorem rowsT_one (l : List TreeM) : ∀ c ∈ rowsT l, c.length = 9 := by
  intro c hc
  rw [rowsT_eq, List.mem_map] at hc
  obtain ⟨t, _, rfl⟩ := hc
  exact cellsT_len t
set_option maxHeartbeats 1000000 in
theorem row_loop2 (L : List LikeM) (xs : List BindM) (p d o : Dat) (ahead behind mid : FV) (n nm ix : Int) (ps : List PlaceM) (np : Nat) (kids : Nat → List TreeM) (rb : List BindM) (hrb : rb.length ≤ np) (hnp : np ≤ 1000000) (hk : ∀ k, (kids k).length ≤ 1000000) :
    ∀ j, j ≤ rb.length → CdL Try.prog Γ0 Try.f99.ntmps (fun n => n ∈ [0, 1]) (nthLoop Try.f99 2) (Env.of (rowE ahead behind n ps np ++ [(96, .v mid), (97, .v (.int .i64 nm)), (98, .v (.int .i64 ix)), (112, .v (.sl .some (rowsB rb))), (113, .v (.int .i64 rb.length)), (114, .v (.int .i64 j))])) (rowS L xs p d o np (kidsJ kids rb j) np)
      (fun e A S => e = .exit 4 ∧ S = rowS L xs p d o np (kidsJ kids rb rb.length) np ∧ ∃ z, A = (Env.of (rowE ahead behind n ps np ++ [(96, .v mid), (97, .v (.int .i64 nm)), (98, .v (.int .i64 ix)), (112, .v (.sl .some (rowsB rb))), (113, .v (.int .i64 rb.length)), (114, .v (.int .i64 rb.length))])).put (some 115) z) := by
  intro j hj
  refine CdL.wf2 TT_ok mixed (fun j => rb.length - j) (fun j => j ≤ rb.length) (fun j => rowE ahead behind n ps np ++ [(96, .v mid), (97, .v (.int .i64 nm)), (98, .v (.int .i64 ix)), (112, .v (.sl .some (rowsB rb))), (113, .v (.int .i64 rb.length)), (114, .v (.int .i64 j))]) (fun j => rowS L xs p d o np (kidsJ kids rb j) np) (fun _ e A S => e = .exit 4 ∧ S = rowS L xs p d o np (kidsJ kids rb rb.length) np ∧ ∃ z, A = (Env.of (rowE ahead behind n ps np ++ [(96, .v mid), (97, .v (.int .i64 nm)), (98, .v (.int .i64 ix)), (112, .v (.sl .some (rowsB rb))), (113, .v (.int .i64 rb.length)), (114, .v (.int .i64 rb.length))])).put (some 115) z) ?_ j hj
  intro j hj
  refine cnd_mk (fun hc => ?_) (fun hc => ?_)
  · have hj2 : j < rb.length := by simpa using hc
    have hjn : j < np := by omega
    obtain ⟨b, hb⟩ : ∃ b, rb[j]? = some b := ⟨rb[j], List.getElem?_eq_getElem hj2⟩
    have htr : tr rb j = b.tree := by unfold tr; rw [hb]
    have hlen : ∀ k, k < np → (treeF np (kidsJ kids rb j) k).length = 9 := fun k _ => treeF_len np _ k
    have hcl := cellsAt_len hlen
    have hml8 := mul_lt (sz := 9) (o := 8) hjn (by omega)
    have eo : 0 + (j : Int).toNat * 9 + 8 = j * 9 + 8 := by rw [Int.toNat_natCast]; omega
    have hkj : kidsJ kids rb j j = kids j := if_neg (by omega)
    have et : treeF np (kidsJ kids rb j) j = zero7 ++ [.v (.bool true), .tsl (j + 1000) (rowsT (kids j))] := by unfold treeF; rw [if_pos hjn, hkj]
    have hkl := rowsT_len (kids j)
    have hkb := hk j
    obtain ⟨nm0, t0⟩ := b
    obtain ⟨dd, m, ks⟩ := t0
    have hcb := cellsB_len ⟨nm0, .mk dd m ks⟩
    refine ⟨by omega, cellsB ⟨nm0, .mk dd m ks⟩, map_get cellsB hb, hcb, ?_⟩
    obtain ⟨k1, n1, l1, b1, s1, i1, t1⟩ := dd
    repeat refine chk_mk rfl ?_
    refine chk_mk ?_ ?_
    · show (!(rowU np).contains 20) = true
      rw [rowN (by omega) (by simp)]; rfl
    refine ⟨by omega, by omega, ?_⟩
    repeat refine opt_mk rfl ?_
    refine opt_mk (y := .tsl (j + 1000) (rowsT (kids j))) ?_ ?_
    · show (cellsAt _ np)[0 + (j : Int).toNat * 9 + 8]? = _
      rw [eo, cellsAt_get hlen hjn (by omega), et]; rfl
    refine .inr ⟨_, ?_, rfl, rfl, ?_, ?_, ?_, ?_⟩
    · show List.lookup (j + 1000) (toksAt 1000 (fun k => rowsT (kidsJ kids rb j k)) 64 9 np ++ _) = _
      rw [toksAt_lookup hjn, hkj]
    · intro c hc
      rw [List.mem_singleton.1 hc]; rfl
    · show (rowsT (kids j)).length + 1 ≤ _
      omega
    · show ((rowsT (kids j)).length + 1) * 144 ≤ _
      omega
    refine ⟨by omega, by show ((rowsT (kids j)).length : Int) < (((rowsT (kids j)).length + 1 : Nat) : Int); omega, ?_⟩
    refine opt_mk (y := (rowsT (kids j), 64 + BIG, 9)) ?_ ?_
    · show List.lookup (j + 1000) ((j + 1000, (rowsT (kids j), 64 + BIG, 9)) :: _) = _
      rw [lookup_cons, if_pos rfl]
    refine opt_mk rfl ?_
    refine chk_mk rfl ?_
    refine ⟨64, ?_, ?_, ?_, ?_, ?_, ?_, ?_⟩
    · rfl
    · decide
    · rfl
    · rfl
    · show (((rowsT (kids j)).length : Int)).toNat * 9 = (rowsT (kids j)).length * 9
      rw [Int.toNat_natCast]
    · show (rowsT (kids j)).length + 1 ≤ _
      omega
    refine ⟨by omega, by omega, ?_⟩
    repeat refine chk_mk rfl ?_
    refine chk_mk ?_ ?_
    · show (_ && Nat.ble (0 + (j : Int).toNat * 9 + 8 + 1) (cellsAt (treeF np (kidsJ kids rb j)) np).length) = true
      rw [eo, hcl, Bool.and_eq_true]
      exact ⟨rfl, Nat.ble_eq_true_of_le (by omega)⟩
    refine .mk (by kernel_rfl) ?_
    refine ⟨j + 1, by show rb.length - (j + 1) < rb.length - j; omega, hj2, fun hgo => ?_⟩
    have hkj1 : kidsJ kids rb (j + 1) j = kids j ++ [.mk (.mk k1 n1 l1 b1 s1 i1 t1) m ks] := by
      unfold kidsJ
      rw [if_pos (by omega), htr]
    have hrow : rowsT (kidsJ kids rb (j + 1) j) = rowsT (kids j) ++ [cellsT (.mk (.mk k1 n1 l1 b1 s1 i1 t1) m ks)] := by
      rw [hkj1, rowsT_eq, rowsT_eq]; simp
    have hko : ∀ k, k ≠ j → kidsJ kids rb (j + 1) k = kidsJ kids rb j k := by
      intro k hkne
      unfold kidsJ
      by_cases h : k < j
      · rw [if_pos h, if_pos (by omega)]
      · rw [if_neg h, if_neg (by omega)]
    have es : splice (cellsAt (treeF np (kidsJ kids rb j)) np) [.tk (j + 1000) ((rowsT (kids j)).length + 1)] (0 + (j : Int).toNat * 9 + 8) = cellsAt (fun k => if k = j then (treeF np (kidsJ kids rb j) j).set 8 (.tk (j + 1000) ((rowsT (kids j)).length + 1)) else treeF np (kidsJ kids rb j) k) np := by
      rw [eo, splice_one (by rw [hcl]; omega), cellsAt_set hlen hjn (by omega)]
    have hlen2 : ∀ k, k < np → ((fun k => if k = j then (treeF np (kidsJ kids rb j) j).set 8 (.tk (j + 1000) ((rowsT (kids j)).length + 1)) else treeF np (kidsJ kids rb j) k) k).length = 9 := by
      intro k _
      dsimp only
      split
      · rw [List.length_set]; exact treeF_len np _ j
      · exact treeF_len np _ k
    refine CdL.settleBox 80 (j * 9 + 8) (j + 1000) ((rowsT (kids j)).length + 1) 64 9 (cs := cellsAt (fun k => if k = j then (treeF np (kidsJ kids rb j) j).set 8 (.tk (j + 1000) ((rowsT (kids j)).length + 1)) else treeF np (kidsJ kids rb j) k) np) (xs := rowsT (kids j) ++ [cellsT (.mk (.mk k1 n1 l1 b1 s1 i1 t1) m ks)]) ?_ ?_ ?_ (by simp) ?_
    · rw [← es]; rfl
    · rw [cellsAt_get hlen2 hjn (by omega), if_pos rfl, et]; rfl
    · show List.lookup (j + 1000) ((j + 1000, (rowsT (kids j) ++ [cellsT (.mk (.mk k1 n1 l1 b1 s1 i1 t1) m ks)], 64, 9)) :: _) = _
      rw [lookup_cons, if_pos rfl]
    refine CdL.enter hgo ?_ (fun n hn => rowK hn) (fun _ _ _ h => h)
    refine rowCov ?_ rfl rfl rfl rfl ?_ ?_ ?_ ?_ ?_ ?_
    · exact ⟨⟨_, rfl, Wk.refl _⟩, ⟨_, rfl, Wk.refl _⟩, ⟨_, rfl, Wk.refl _⟩, ⟨_, rfl, Wk.refl _⟩, ⟨_, rfl, Wk.refl _⟩, ⟨_, rfl, Wk.refl _⟩, ⟨_, rfl, Wk.refl _⟩, ⟨_, rfl, Wk.refl _⟩, ⟨_, rfl, Wk.refl _⟩, ⟨_, rfl, Wk.refl _⟩, ⟨_, rfl, Wk.refl _⟩, ⟨_, rfl, Wk.refl _⟩, ⟨_, rfl, Wk.refl _⟩, ⟨_, rfl, Wk.refl _⟩, ⟨_, rfl, Wk.int (wrap_i64 (by omega) (by omega))⟩, trivial⟩
    · show some ((cellsAt _ np).set (j * 9 + 8) (.tsl (j + 1000) (rowsT (kids j) ++ [cellsT (.mk (.mk k1 n1 l1 b1 s1 i1 t1) m ks)]))) = _
      rw [cellsAt_set hlen2 hjn (by omega)]
      congr 1
      refine cellsAt_congr fun k hk => ?_
      by_cases hki : k = j
      · subst hki
        rw [if_pos rfl, if_pos rfl, et]
        unfold treeF
        rw [if_pos hk, hrow]
        rfl
      · rw [if_neg hki, if_neg hki]
        unfold treeF
        rw [if_pos hk, if_pos hk, hko k hki]
    · intro k hk
      show List.lookup (k + 1000) ((j + 1000, (rowsT (kids j) ++ [cellsT (.mk (.mk k1 n1 l1 b1 s1 i1 t1) m ks)], 64, 9)) :: (j + 1000, (rowsT (kids j), 64 + BIG, 9)) :: _) = _
      rw [lookup_cons]
      by_cases hki : k = j
      · subst hki; rw [if_pos rfl, hrow]
      · rw [if_neg (by omega), lookup_cons, if_neg (by omega), hko k hki]
        exact toksAt_lookup hk
    · show List.lookup 1 ((j + 1000, (rowsT (kids j) ++ [cellsT (.mk (.mk k1 n1 l1 b1 s1 i1 t1) m ks)], 64, 9)) :: (j + 1000, (rowsT (kids j), 64 + BIG, 9)) :: _) = _
      rw [lookup_cons, if_neg (by omega), lookup_cons, if_neg (by omega)]
      exact (toksAt_other (by omega)).trans rfl
    · intro n hn
      exact List.mem_cons_of_mem _ (List.mem_cons_of_mem _ (List.mem_cons_of_mem _ (mem_rowU hn)))
    · intro k hk
      exact List.mem_cons_of_mem _ (List.mem_cons_of_mem _ (List.mem_cons_of_mem _ (mem_rowU2 hk)))
    · intro q hq
      rcases List.mem_append.1 hq with hq | hq
      · exact rowE_in q hq
      · simp only [List.mem_cons, List.not_mem_nil, or_false] at hq
        rcases hq with rfl | rfl | rfl | rfl | rfl | rfl <;> rfl
  · have hj2 : j = rb.length := by simp at hc; omega
    subst hj2
    exact ⟨rfl, rfl, _, rfl⟩
end Go.Proofs.Ytcdfbkpdemhcpaa
namespace Go.Proofs.Ytcdfbkpdemhcpaa
open Go.Pav
set_option maxRecDepth 100000
/-- Another matcher: its box l, its binds token t. -/
def MS' (L : List LikeM) (l t : Nat) (xs : List BindM) : ASt := ⟨[(l, [.v (encLikes L), .tsl t (rowsB xs)])], [(t, (rowsB xs, 66, 10))], [l, t]⟩
theorem Pm_named {L : List LikeM} {o : Dat} (h : Pm L o) (x : Dat) (hx : Fine x) (hb : sizeD o ≤ 1000000) :
    GFn Try.prog Γ0 47 (MS' L 18 500 []) [.ptr 18 0, .v (encD o), .v (encD x)] (.v (.bool (mM L o x).2)) (MS' L 18 500 (mM L o x).1) := by
  have h1 := h x [] hx (by simpa using hb)
  rw [List.nil_append] at h1
  have h2 := (h1.swap 0 18).swap 1 500
  exact h2
theorem fitsM' {L : List LikeM} {l t : Nat} {S : ASt} {args args0 : List AV} {r : AV} {xs ys : List BindM} (ha : Wks args args0) (hH : S.H.lookup l = some [.v (encLikes L), .tsl t (rowsB xs)]) (hT : S.T.lookup t = some (rowsB xs, 66, 10)) (hw : withins [l, t] args0 = true) (hU : l ∈ S.U ∧ t ∈ S.U) : FitsA S args (MS' L l t xs) args0 r (MS' L l t ys) := by
  refine ⟨ha, fun p hp => ?_, fun p hp => ?_, hw, ?_, ?_, ?_, ?_, ?_⟩
  · rw [show (MS' L l t xs).H = [(l, [.v (encLikes L), .tsl t (rowsB xs)])] from rfl, List.mem_singleton] at hp
    subst hp
    exact ⟨_, hH, Wks.refl _⟩
  · rw [show (MS' L l t xs).T = [(t, (rowsB xs, 66, 10))] from rfl, List.mem_singleton] at hp
    subst hp
    exact hT
  · simp [MS', withins, AV.within]
  · simp [MS']
  · simp [MS', hU.1, hU.2]
  · simp [MS']
  · simp [ASt.closed, MS']
theorem patch_T {S S1 : ASt} (h : S1.closed = true) (n : Nat) : (S.patch S1).T.lookup n = if n ∈ S1.U then S1.T.lookup n else S.T.lookup n := by
  unfold ASt.closed at h
  rw [Bool.and_eq_true] at h
  exact lookup_patch n S.T S1.T h.2
theorem patch_U {S S1 : ASt} {n : Nat} (h : n ∈ S.U) : n ∈ (S.patch S1).U := List.mem_append_right _ h
theorem closedM' (L : List LikeM) (l t : Nat) (xs : List BindM) : (MS' L l t xs).closed = true := by simp [ASt.closed, MS']
/-- All the data of an item that comes again. -/
def kidsAll (f : Dat → ResM) : List Dat → (Nat → List TreeM) → (Nat → List TreeM) × Bool
  | [], ks => (ks, true)
  | x :: r, ks => bif (f x).2 then kidsAll f r (fun k => if k < (f x).1.length then ks k ++ [tr (f x).1 k] else ks k) else (ks, false)
set_option maxHeartbeats 1000000 in
theorem row_loop3 (L : List LikeM) (xs : List BindM) (p d o : Dat) (ahead behind : FV) (n : Int) (ps : List PlaceM) (np : Nat) (hnp : np ≤ 1000000) (ms : List Dat) (hms : ms.length ≤ 100000) (ho : Pm L o) (hos : sizeD o ≤ 1000000) (hf : ∀ x ∈ ms, Fine x) (hl : ∀ x ∈ ms, (mM L o x).2 = true → (mM L o x).1.length = np) :
    ∀ (i : Nat) (kids : Nat → List TreeM), i ≤ ms.length → (∀ k, (kids k).length ≤ i) → CdL Try.prog Γ0 Try.f99.ntmps (fun n => n ∈ [0, 1]) (nthLoop Try.f99 1) (Env.of (rowE ahead behind n ps np ++ [(96, .v (.sl .some (rowsD ms))), (97, .v (.int .i64 ms.length)), (98, .v (.int .i64 i))])) (rowS L xs p d o np kids np)
      (fun e A S => (e = .exit 2 ∧ (kidsAll (mM L o) (ms.drop i) kids).2 = true ∧ S = rowS L xs p d o np (kidsAll (mM L o) (ms.drop i) kids).1 np ∧ ∃ z, A = (Env.of (rowE ahead behind n ps np ++ [(96, .v (.sl .some (rowsD ms))), (97, .v (.int .i64 ms.length)), (98, .v (.int .i64 ms.length))])).put (some 99) z) ∨
        (e = .ret ∧ (kidsAll (mM L o) (ms.drop i) kids).2 = false ∧ Covers A S [(8, .v (.bool false))] (MS L xs))) := by
  intro i kids hi hk
  refine CdL.wf2 TT_ok mixed (fun (x : Nat × (Nat → List TreeM)) => ms.length - x.1) (fun x => x.1 ≤ ms.length ∧ (∀ k, (x.2 k).length ≤ x.1)) (fun x => rowE ahead behind n ps np ++ [(96, .v (.sl .some (rowsD ms))), (97, .v (.int .i64 ms.length)), (98, .v (.int .i64 x.1))]) (fun x => rowS L xs p d o np x.2 np)
    (fun x e A S => (e = .exit 2 ∧ (kidsAll (mM L o) (ms.drop x.1) x.2).2 = true ∧ S = rowS L xs p d o np (kidsAll (mM L o) (ms.drop x.1) x.2).1 np ∧ ∃ z, A = (Env.of (rowE ahead behind n ps np ++ [(96, .v (.sl .some (rowsD ms))), (97, .v (.int .i64 ms.length)), (98, .v (.int .i64 ms.length))])).put (some 99) z) ∨
        (e = .ret ∧ (kidsAll (mM L o) (ms.drop x.1) x.2).2 = false ∧ Covers A S [(8, .v (.bool false))] (MS L xs))) ?_ (i, kids) ⟨hi, hk⟩
  rintro ⟨i, kids⟩ ⟨hi, hk⟩
  dsimp only at hi hk ⊢
  refine cnd_mk (fun hc => ?_) (fun hc => ?_)
  · have hi2 : i < ms.length := by simpa using hc
    obtain ⟨x, hx⟩ : ∃ x, ms[i]? = some x := ⟨ms[i], List.getElem?_eq_getElem hi2⟩
    have hdx : ms.drop i = x :: ms.drop (i + 1) := by
      rw [List.drop_eq_getElem_cons hi2]
      rw [List.getElem?_eq_getElem hi2] at hx
      rw [Option.some.inj hx]
    rw [hdx, kidsAll]
    have hmem := List.mem_of_getElem? hx
    have hP := Pm_named ho x (hf x hmem) hos
    have hlx := hl x hmem
    generalize mM L o x = r at *
    obtain ⟨rb, ok⟩ := r
    refine ⟨by omega, cellsD x, rowsD_get ms i x hx, cellsD_len x, ?_⟩
    obtain ⟨k2, n2, l2, b2, s2, i2, t2⟩ := x
    obtain ⟨k1, n1, l1, b1, s1, i1, t1⟩ := o
    repeat refine chk_mk rfl ?_
    refine chk_mk ?_ ?_
    · show (!(rowU np).contains 17) = true
      rw [rowN (by omega) (by simp)]; rfl
    repeat refine chk_mk rfl ?_
    refine chk_mk ?_ ?_
    · show (!(17 :: rowU np).contains 18) = true
      rw [List.contains_cons, rowN (by omega) (by simp)]; rfl
    refine .adopt 18 1 500 66 10 rfl rfl (.inl rfl) ?_ (fun c hc => by cases hc) ?_
    · show (18 :: 17 :: rowU np).contains 500 = false
      rw [List.contains_cons, List.contains_cons, rowN (by omega) (by simp)]; rfl
    refine .own (fitsM' (xs := []) (ys := rb) (Wks.refl _) rfl rfl rfl ⟨List.mem_cons_of_mem _ List.mem_cons_self, List.mem_cons_self⟩) hP ?_
    have hTl : ∀ n, n ≠ 18 → n ≠ 500 → ∀ (S : ASt), (S.patch (MS' L 18 500 rb)).T.lookup n = S.T.lookup n := by
      intro n h1 h2 S
      rw [patch_T (closedM' L 18 500 rb), if_neg (by simp [MS', h1, h2])]
    cases ok
    · refine .inr ⟨rfl, rfl, ⟨⟨⟨_, rfl, Wk.refl _⟩, trivial⟩, ⟨⟨_, rfl, Wks.refl _⟩, trivial⟩, ⟨⟨_, ?_, RW.refl _⟩, trivial⟩, ?_, rfl, rfl, rfl⟩⟩
      · refine (hTl 1 (by omega) (by omega) _).trans ?_
        show List.lookup 1 ((500, ([], 66, 10)) :: (toksAt 1000 (fun k => rowsT (kids k)) 64 9 np ++ [(1, (rowsB xs, 66, 10))])) = _
        rw [lookup_cons, if_neg (by omega), toksAt_other (by omega)]
        rfl
      · rw [List.all_eq_true]
        intro n hn
        refine mem_contains (patch_U (List.mem_cons_of_mem _ (List.mem_cons_of_mem _ (List.mem_cons_of_mem _ (mem_rowU ?_)))))
        rcases List.mem_cons.1 hn with rfl | hn
        · simp
        · rw [List.mem_singleton.1 hn]; simp
    · have hrl : rb.length = np := hlx rfl
      have hk0 : kidsJ kids rb 0 = kids := by funext k; unfold kidsJ; rw [if_neg (by omega)]
      refine CdL.enter (row_loop2 L xs p d (.mk k1 n1 l1 b1 s1 i1 t1) ahead behind (.sl .some (rowsD ms)) n ms.length i ps np kids rb (by omega) hnp (fun k => by have := hk k; omega) 0 (Nat.zero_le _)) ?_ (fun n hn => rowK hn) ?_
      · rw [hk0]
        refine rowCov ?_ rfl rfl rfl rfl rfl ?_ ?_ ?_ ?_ ?_
        · refine ⟨⟨_, rfl, Wk.refl _⟩, ⟨_, rfl, Wk.refl _⟩, ⟨_, rfl, Wk.refl _⟩, ⟨_, rfl, Wk.refl _⟩, ⟨_, rfl, Wk.refl _⟩, ⟨_, rfl, Wk.refl _⟩, ⟨_, rfl, Wk.refl _⟩, ⟨_, rfl, Wk.refl _⟩, ⟨_, rfl, Wk.refl _⟩, ⟨_, rfl, Wk.refl _⟩, ⟨_, rfl, Wk.refl _⟩, ⟨_, rfl, Wk.refl _⟩, ⟨_, rfl, Wk.tsl _ _⟩, ⟨_, rfl, Wk.int ?_⟩, ⟨_, rfl, Wk.refl _⟩, trivial⟩
          rw [rowsB_len]
        · intro k hk
          refine (hTl (k + 1000) (by omega) (by omega) _).trans ?_
          show List.lookup (k + 1000) ((500, ([], 66, 10)) :: (toksAt 1000 (fun k => rowsT (kids k)) 64 9 np ++ [(1, (rowsB xs, 66, 10))])) = _
          rw [lookup_cons, if_neg (by omega)]
          exact toksAt_lookup hk
        · refine (hTl 1 (by omega) (by omega) _).trans ?_
          show List.lookup 1 ((500, ([], 66, 10)) :: (toksAt 1000 (fun k => rowsT (kids k)) 64 9 np ++ [(1, (rowsB xs, 66, 10))])) = _
          rw [lookup_cons, if_neg (by omega), toksAt_other (by omega)]
          rfl
        · intro n hn
          exact patch_U (List.mem_cons_of_mem _ (List.mem_cons_of_mem _ (List.mem_cons_of_mem _ (mem_rowU hn))))
        · intro k hk
          exact patch_U (List.mem_cons_of_mem _ (List.mem_cons_of_mem _ (List.mem_cons_of_mem _ (mem_rowU2 hk))))
        · intro q hq
          rcases List.mem_append.1 hq with hq | hq
          · exact rowE_in q hq
          · simp only [List.mem_cons, List.not_mem_nil, or_false] at hq
            rcases hq with rfl | rfl | rfl | rfl | rfl | rfl <;> rfl
      · rintro e A S ⟨rfl, rfl, z, rfl⟩
        refine ⟨(i + 1, kidsJ kids rb rb.length), by show ms.length - (i + 1) < ms.length - i; omega, ⟨hi2, fun k => ?_⟩, fun hgo => ?_⟩
        · have := hk k
          show (kidsJ kids rb rb.length k).length ≤ i + 1
          unfold kidsJ
          split
          · simp; omega
          · omega
        · refine CdL.enter hgo ?_ (fun n hn => rowK hn) (fun _ _ _ h => h)
          refine rowCov ?_ rfl rfl rfl rfl rfl (fun k hk => toksAt_lookup hk) ((toksAt_other (by omega)).trans rfl) (fun n hn => mem_rowU hn) (fun k hk => mem_rowU2 hk) ?_
          · exact ⟨⟨_, rfl, Wk.refl _⟩, ⟨_, rfl, Wk.refl _⟩, ⟨_, rfl, Wk.refl _⟩, ⟨_, rfl, Wk.refl _⟩, ⟨_, rfl, Wk.refl _⟩, ⟨_, rfl, Wk.refl _⟩, ⟨_, rfl, Wk.refl _⟩, ⟨_, rfl, Wk.refl _⟩, ⟨_, rfl, Wk.refl _⟩, ⟨_, rfl, Wk.refl _⟩, ⟨_, rfl, Wk.refl _⟩, ⟨_, rfl, Wk.int (wrap_i64 (by omega) (by omega))⟩, trivial⟩
          · intro q hq
            rcases List.mem_append.1 hq with hq | hq
            · exact rowE_in q hq
            · simp only [List.mem_cons, List.not_mem_nil, or_false] at hq
              rcases hq with rfl | rfl | rfl <;> rfl
  · have hi2 : i = ms.length := by simp at hc; omega
    subst hi2
    rw [List.drop_length, kidsAll]
    exact .inl ⟨rfl, rfl, rfl, _, rfl⟩
end Go.Proofs.Ytcdfbkpdemhcpaa
namespace Go.Proofs.Ytcdfbkpdemhcpaa
open Go.Pav
set_option maxRecDepth 100000
def bindsK (kids : Nat → List TreeM) : List PlaceM → Nat → List BindM
  | [], _ => []
  | x :: r, k => ⟨x.name, .mk .zero true (kids k)⟩ :: bindsK kids r (k + 1)
def treeV (kids : Nat → List TreeM) (k : Nat) : List AV := zero7 ++ [.v (.bool true), .v (.sl .some (rowsT (kids k)))]
theorem treeV_len (kids : Nat → List TreeM) (k : Nat) : (treeV kids k).length = 9 := rfl
def row4 (L : List LikeM) (xs : List BindM) (p d : Dat) (kids : Nat → List TreeM) (np : Nat) : ASt :=
  ⟨[(0, [.v (encLikes L), .tsl 1 (rowsB xs)]), (5, (cellsD p).map .v), (6, (cellsD d).map .v), (80, cellsAt (treeV kids) np)], [(1, (rowsB xs, 66, 10))], [0, 1, 5, 6, 80]⟩
theorem row4Cov {L : List LikeM} {xs : List BindM} {p d : Dat} {np : Nat} {kids : Nat → List TreeM} {A : Env} {S : ASt} {E : List (Nat × AV)} {c0 c80 : List AV} {r1 : List (List FV)} (hE : EnvC A E) (h0 : S.H.lookup 0 = some c0) (w0 : Wks c0 [.v (encLikes L), .tsl 1 (rowsB xs)]) (h5 : S.H.lookup 5 = some ((cellsD p).map .v)) (h6 : S.H.lookup 6 = some ((cellsD d).map .v))
    (h80 : S.H.lookup 80 = some c80) (w80 : Wks c80 (cellsAt (treeV kids) np)) (hT1 : S.T.lookup 1 = some (r1, 66, 10)) (w1 : RW r1 (rowsB xs)) (hU : ∀ n ∈ [0, 1, 5, 6, 80], n ∈ S.U)
    (hin : ∀ q ∈ E, q.2.within [0, 1, 5, 6, 80] = true) : Covers A S E (row4 L xs p d kids np) := by
  refine ⟨hE, ⟨⟨_, h0, w0⟩, ⟨_, h5, Wks.refl _⟩, ⟨_, h6, Wks.refl _⟩, ⟨_, h80, w80⟩, trivial⟩, ⟨⟨_, hT1, w1⟩, trivial⟩, ?_, List.all_eq_true.2 hin, ?_, rfl⟩
  · rw [List.all_eq_true]
    intro n hn
    exact mem_contains (hU n hn)
  · rw [List.all_eq_true]
    intro q hq
    simp only [row4, List.mem_cons, List.not_mem_nil, or_false] at hq
    rcases hq with rfl | rfl | rfl | rfl
    · rfl
    · simp only [Bool.and_eq_true]; exact ⟨rfl, within_v _ _⟩
    · simp only [Bool.and_eq_true]; exact ⟨rfl, within_v _ _⟩
    · simp only [Bool.and_eq_true]
      refine ⟨rfl, withins_of fun x hx => ?_⟩
      obtain ⟨k, hk, hx⟩ := cellsAt_mem hx
      simp only [treeV, zero7, List.cons_append, List.nil_append, List.mem_cons, List.not_mem_nil, or_false] at hx
      rcases hx with rfl | rfl | rfl | rfl | rfl | rfl | rfl | rfl | rfl <;> rfl
theorem Wks_cells {f g : Nat → List AV} : ∀ {n : Nat}, (∀ k, k < n → Wks (f k) (g k)) → Wks (cellsAt f n) (cellsAt g n)
  | 0, _ => Wks.refl _
  | n + 1, h => by
    rw [cellsAt_succ, cellsAt_succ]
    have happ : ∀ {a b c d : List AV}, Wks a b → Wks c d → Wks (a ++ c) (b ++ d) := by
      intro a
      induction a with
      | nil => intro b c d h k; unfold Wks at h; subst h; exact k
      | cons x r ih =>
        intro b c d h k
        unfold Wks at h
        obtain ⟨y, s, rfl, h1, h2⟩ := h
        exact ⟨y, s ++ d, rfl, h1, ih h2 k⟩
    exact happ (Wks_cells fun k hk => h k (by omega)) (h n (by omega))
def row4E (behind : FV) (n : Int) (ps : List PlaceM) (np i : Nat) : List (Nat × AV) := [(0, .ptr 0 0), (5, .ptr 5 0), (6, .ptr 6 0), (11, .v behind), (12, .v (.int .i64 n)), (14, .bsl 80 0 np np 9), (134, .v (.sl .some (rowsPlace ps))), (135, .v (.int .i64 ps.length)), (136, .v (.int .i64 i))]
set_option maxHeartbeats 1000000 in
theorem row_loop4 (L : List LikeM) (xs : List BindM) (p d : Dat) (behind : FV) (n : Int) (ps : List PlaceM) (hnp : xs.length + ps.length ≤ 1000000) (kids : Nat → List TreeM) :
    CdL Try.prog Γ0 Try.f99.ntmps (fun n => n ∈ [0, 1]) (nthLoop Try.f99 3) (Env.of (row4E behind n ps ps.length 0)) (row4 L xs p d kids ps.length)
      (fun e A S => e = .exit 6 ∧ S = row4 L (xs ++ bindsK kids ps 0) p d kids ps.length ∧ ∃ z, A = (Env.of (row4E behind n ps ps.length ps.length)).put (some 137) z) := by
  refine CdL.wf TT_ok mixed (fun (x : Nat × List BindM) => ps.length - x.1) (fun x => x.1 ≤ ps.length ∧ x.2.length + (ps.length - x.1) ≤ 1000000 ∧ x.2 ++ bindsK kids (ps.drop x.1) x.1 = xs ++ bindsK kids ps 0) (fun x => row4E behind n ps ps.length x.1) (fun x => row4 L x.2 p d kids ps.length) (fun _ e A S => e = .exit 6 ∧ S = row4 L (xs ++ bindsK kids ps 0) p d kids ps.length ∧ ∃ z, A = (Env.of (row4E behind n ps ps.length ps.length)).put (some 137) z) (fun _ n hn => mem_contains (by
    rcases List.mem_cons.1 hn with rfl | hn
    · simp [row4]
    · rw [List.mem_singleton.1 hn]; simp [row4])) ?_ (0, xs) ⟨Nat.zero_le _, by simpa using hnp, rfl⟩
  rintro ⟨i, acc⟩ ⟨hi, hb, hacc⟩
  dsimp only at hi hb hacc ⊢
  refine cnd_mk (fun hc => ?_) (fun hc => ?_)
  · have hi2 : i < ps.length := by simpa using hc
    obtain ⟨x, hx⟩ : ∃ x, ps[i]? = some x := ⟨ps[i], List.getElem?_eq_getElem hi2⟩
    have hdx : ps.drop i = x :: ps.drop (i + 1) := by
      rw [List.drop_eq_getElem_cons hi2]
      rw [List.getElem?_eq_getElem hi2] at hx
      rw [Option.some.inj hx]
    rw [hdx, bindsK] at hacc
    have eb := rowsB_len acc
    have hlen : ∀ k, k < ps.length → (treeV kids k).length = 9 := fun k _ => rfl
    have hcl := cellsAt_len hlen
    have hml := mul_lt (sz := 9) (o := 8) hi2 (by omega)
    refine ⟨by omega, cellsPlace x, map_get _ hx, rfl, ?_⟩
    refine ⟨by omega, by omega, ?_⟩
    refine opt_mk (y := .v (.agg [.int .i64 0, .bool false, .sl .nil [], .bool false, .str ⟨#[]⟩, .sl .nil [], .sl .nil [], .bool true, .sl .some (rowsT (kids i))])) ?_ ?_
    · show (if 0 + (i : Int).toNat * 9 + 9 ≤ (cellsAt (treeV kids) ps.length).length then some (mkAgg (((cellsAt (treeV kids) ps.length).drop (0 + (i : Int).toNat * 9)).take 9)) else none) = _
      have eo : 0 + (i : Int).toNat * 9 = i * 9 := by rw [Int.toNat_natCast]; omega
      rw [eo, if_pos (by rw [hcl]; omega), cellsAt_part hlen hi2]
      rfl
    refine .inl ⟨_, rfl, rfl, ?_, by show (rowsB acc).length + 1 ≤ _; omega, by show ((rowsB acc).length + 1) * 160 ≤ _; omega, ?_⟩
    · intro c hc
      rw [List.mem_singleton.1 hc]; rfl
    refine .mk (by kernel_rfl) ?_
    have hrw : RW (rowsB acc ++ [[.str x.name, .int .i64 0, .bool false, .sl .nil [], .bool false, .str ⟨#[]⟩, .sl .nil [], .sl .nil [], .bool true, .sl .some (rowsT (kids i))]]) (rowsB (acc ++ [⟨x.name, .mk .zero true (kids i)⟩])) := by
      rw [← rowsB_app]
      refine RW.append (RW.refl _) (RW.cons ?_ (RW.refl []))
      exact .cons (.refl _) (.cons (.refl _) (.cons (.refl _) (.cons FW.nil (.cons (.refl _) (.cons (.refl _) (.cons FW.nil (.cons FW.nil (.cons (.refl _) (.cons (.refl _) (.refl _))))))))))
    refine ⟨(i + 1, acc ++ [⟨x.name, .mk .zero true (kids i)⟩]), by show ps.length - (i + 1) < ps.length - i; omega, ⟨hi2, by simp only [List.length_append, List.length_singleton]; omega, by rw [List.append_assoc]; exact hacc⟩, ?_, fun _ _ _ h => h⟩
    refine row4Cov ?_ rfl ⟨_, _, rfl, Wk.refl _, _, _, rfl, Wk.tokR hrw, rfl⟩ rfl rfl rfl (Wks.refl _) rfl hrw (fun n hn => List.mem_cons_of_mem _ (List.mem_cons_of_mem _ hn)) ?_
    · exact ⟨⟨_, rfl, Wk.refl _⟩, ⟨_, rfl, Wk.refl _⟩, ⟨_, rfl, Wk.refl _⟩, ⟨_, rfl, Wk.refl _⟩, ⟨_, rfl, Wk.refl _⟩, ⟨_, rfl, Wk.refl _⟩, ⟨_, rfl, Wk.refl _⟩, ⟨_, rfl, Wk.refl _⟩, ⟨_, rfl, Wk.int (wrap_i64 (by omega) (by omega))⟩, trivial⟩
    · intro q hq
      simp only [row4E, List.mem_cons, List.not_mem_nil, or_false] at hq
      rcases hq with rfl | rfl | rfl | rfl | rfl | rfl | rfl | rfl | rfl <;> rfl
  · have hi2 : i = ps.length := by simp at hc; omega
    subst hi2
    rw [List.drop_length, bindsK, List.append_nil] at hacc
    subst hacc
    exact ⟨rfl, rfl, _, rfl⟩
end Go.Proofs.Ytcdfbkpdemhcpaa
namespace Go.Proofs.Ytcdfbkpdemhcpaa
open Go.Pav
set_option maxRecDepth 100000
theorem bindsK_get (kids : Nat → List TreeM) : ∀ (ps : List PlaceM) (k j : Nat), (bindsK kids ps k)[j]? = ps[j]?.map fun x => ⟨x.name, .mk .zero true (kids (k + j))⟩
  | [], k, j => by simp [bindsK]
  | x :: r, k, j => by
    unfold bindsK
    cases j with
    | zero => simp
    | succ j =>
      simp only [List.getElem?_cons_succ]
      rw [bindsK_get kids r (k + 1) j, show k + 1 + j = k + (j + 1) by omega]
theorem agains_kids (f : Dat → ResM) (n : Nat) : ∀ (xs : List Dat) (ts : List TreeM) (ks : Nat → List TreeM), ts.length = n → (∀ j, j < n → ts[j]? = some (.mk .zero true (ks j))) → (∀ x ∈ xs, (f x).2 = true → (f x).1.length = n) →
    (againsM f xs ts).2 = (kidsAll f xs ks).2 ∧ ((againsM f xs ts).2 = true → (againsM f xs ts).1.length = n ∧ ∀ j, j < n → (againsM f xs ts).1[j]? = some (.mk .zero true ((kidsAll f xs ks).1 j)))
  | [], ts, ks, hn, ht, _ => ⟨rfl, fun _ => ⟨hn, ht⟩⟩
  | x :: xs, ts, ks, hn, ht, hl => by
    unfold againsM kidsAll
    cases hx : (f x).2
    · exact ⟨rfl, fun h => by cases h⟩
    · simp only [cond_true]
      have hb := hl x (by simp) hx
      refine agains_kids f n xs _ _ (by rw [addKids_len, hn]) (fun j hj => ?_) (fun y hy => hl y (by simp [hy]))
      rw [addKids_get ts _ (by rw [hb, hn]), ht j hj]
      simp only [Option.map_some, addAll]
      rw [if_pos (by omega)]
theorem bindsOf_kids (f : Dat → ResM) (ps : List PlaceM) (xs : List Dat) (hl : ∀ x ∈ xs, (f x).2 = true → (f x).1.length = ps.length) (hok : (againsM f xs (ps.map fun _ => .mk .zero true [])).2 = true) :
    bindsOf ps (againsM f xs (ps.map fun _ => .mk .zero true [])).1 = bindsK (kidsAll f xs fun _ => []).1 ps 0 := by
  obtain ⟨_, h2⟩ := agains_kids f ps.length xs (ps.map fun _ => .mk .zero true []) (fun _ => []) (by simp) (fun j hj => by rw [List.getElem?_map, List.getElem?_eq_getElem hj]; rfl) hl
  obtain ⟨h3, h4⟩ := h2 hok
  apply List.ext_getElem?
  intro j
  rw [bindsK_get]
  unfold bindsOf
  rw [List.getElem?_map]
  cases hp : ps[j]? with
  | none =>
    have : (ps.zip (againsM f xs (ps.map fun _ => .mk .zero true [])).1)[j]? = none := by
      rw [List.getElem?_eq_none_iff] at hp ⊢
      rw [List.length_zip]; omega
    rw [this]; rfl
  | some x =>
    have hj : j < ps.length := (List.getElem?_eq_some_iff.1 hp).1
    have : (ps.zip (againsM f xs (ps.map fun _ => .mk .zero true [])).1)[j]? = some (x, .mk .zero true ((kidsAll f xs fun _ => []).1 j)) := by
      rw [List.getElem?_zip_eq_some]
      exact ⟨hp, h4 j hj⟩
    rw [this]
    simp only [Option.map_some, Nat.zero_add]
theorem blt_dec (x y : Nat) : decide (x < y) = Nat.blt x y := by
  by_cases h : x < y
  · rw [decide_eq_true h]; exact (Nat.ble_eq_true_of_le h).symm
  · rw [decide_eq_false h]
    cases hb : Nat.blt x y
    · rfl
    · exact absurd (Nat.le_of_ble_eq_true hb) h
/-- rowM, written out. -/
theorem rowM_is (L : List LikeM) (a : List Dat) (o y : Dat) (b tl : List Dat) (d : Dat) (hl : ∀ x ∈ (d.items.take (d.items.length - b.length)).drop a.length, (mM L o x).2 = true → (mM L o x).1.length = (placesM L o 0).length) :
    rowM L (a ++ o :: y :: b) tl ((a ++ o :: y :: b).map (mM L)) (tl.map (mM L)) (a.length + 1) d =
      bif Nat.blt d.items.length (a.length + b.length) || (tl.isEmpty && !d.tail.isEmpty) then ([], false) else
        ResM.andThen (allM (a.map (mM L)) d.items) (bif (kidsAll (mM L o) ((d.items.take (d.items.length - b.length)).drop a.length) fun _ => []).2 then
          ResM.andThen (bindsK (kidsAll (mM L o) ((d.items.take (d.items.length - b.length)).drop a.length) fun _ => []).1 (placesM L o 0) 0, true) (ResM.andThen (allM (b.map (mM L)) (d.items.drop (d.items.length - b.length))) (firstOr (tl.map (mM L)) ([], true) (d.tail.headD (.mk 5 false [] false sEmpty [] []))))
          else ([], false)) := by
  have e1 : ∀ {α : Type} (f : Dat → α), ((a ++ o :: y :: b).map f).length - (a.length + 1 + 1) = b.length := fun f => by simp; omega
  have e2 : ∀ {α : Type} (f : Dat → α), ((a ++ o :: y :: b).map f).take a.length = a.map f := fun f => by simp
  have e3 : ∀ {α : Type} (f : Dat → α) (z : α), ((a ++ o :: y :: b).map f).getD a.length z = f o := fun f z => by simp
  have e4 : ∀ {α : Type} (f : Dat → α), ((a ++ o :: y :: b).map f).drop (a.length + 1 + 1) = b.map f := fun f => by
    have : (a ++ o :: y :: b).map f = (a.map f ++ [f o, f y]) ++ b.map f := by simp
    rw [this, List.drop_left' (by simp)]
  have e5 : (a ++ o :: y :: b).getD a.length .zero = o := by simp
  have hk := agains_kids (mM L o) (placesM L o 0).length ((d.items.take (d.items.length - b.length)).drop a.length) ((placesM L o 0).map fun _ => .mk .zero true []) (fun _ => []) (by simp) (fun j hj => by rw [List.getElem?_map, List.getElem?_eq_getElem hj]; rfl) hl
  have hb := bindsOf_kids (mM L o) (placesM L o 0) _ hl
  unfold rowM
  simp only [Nat.add_sub_cancel, e1, e2, e3, e4, e5]
  rw [← blt_dec]
  cases hok : (againsM (mM L o) ((d.items.take (d.items.length - b.length)).drop a.length) ((placesM L o 0).map fun _ => .mk .zero true [])).2
  · rw [← hk.1, hok]
    rfl
  · rw [← hk.1, hok, hb hok]
end Go.Proofs.Ytcdfbkpdemhcpaa
namespace Go.Proofs.Ytcdfbkpdemhcpaa
open Go.Pav
set_option maxRecDepth 100000
theorem rowsD_app (a b : List Dat) : rowsD (a ++ b) = rowsD a ++ rowsD b := by simp [rowsD_eq]
set_option maxHeartbeats 2000000 in
theorem row_of (L : List LikeM) (n0 : Bool) (l : List Int) (b0 : Bool) (s : ByteArray) (a : List Dat) (o y : Dat) (b tl : List Dat) (hp : Fine (.mk 5 n0 l b0 s (a ++ o :: y :: b) tl)) (ha : ∀ q ∈ a, Pm L q) (ho : Pm L o) (hob : wrongM L o = false) (hbb : ∀ q ∈ b, Pm L q) (ht : ∀ q ∈ tl, Pm L q)
    (d : Dat) (xs : List BindM) (hd : Fine d) (hkd : d.kind = 5) (hx : xs.length + sizeD (.mk 5 n0 l b0 s (a ++ o :: y :: b) tl) ≤ 1000000) :
    ∀ (r : ResM) (zs : List BindM), r = rowM L (a ++ o :: y :: b) tl ((a ++ o :: y :: b).map (mM L)) (tl.map (mM L)) (a.length + 1) d → zs = xs ++ r.1 →
    GFn Try.prog Γ0 99 (MS L xs) [.ptr 0 0, .v (encD (.mk 5 n0 l b0 s (a ++ o :: y :: b) tl)), .v (encD d), .v (.int .i64 ((a.length + 1 : Nat) : Int))] (.v (.bool r.2)) (MS L zs) := by
  have hfo : Fine o := hp.item (by simp [Dat.items])
  have hitems : ∀ x ∈ d.items, Fine x := fun x hx => hd.item hx
  have hmids : ∀ x ∈ (d.items.take (d.items.length - b.length)).drop a.length, Fine x := fun x hx => hitems x (List.mem_of_mem_take (List.mem_of_mem_drop hx))
  have hnam := (pat_ok (S := SameD) (S' := SameD) (L := L) (fun _ _ _ _ => rfl) o hfo hob).names
  have hl : ∀ x ∈ (d.items.take (d.items.length - b.length)).drop a.length, (mM L o x).2 = true → (mM L o x).1.length = (placesM L o 0).length := fun x hx hok => by
    have := congrArg List.length (hnam x (hmids x hx) hok 0)
    simpa using this
  intro r zs hr hz
  rw [rowM_is L a o y b tl d hl] at hr
  obtain ⟨_, _, _, _, htl, _, _, _⟩ := good_list hp.1
  have hpl := places_len L o 0
  have hplf := places_fn L o 0 (by omega) (by have := hfo.2.1; omega) hfo.2.1
  have hsz := hp.2.1
  have hds := hd.2.1
  simp only [sizeD, sizeL_append, sizeL] at hsz hx
  have hla := sizeL_len a
  have hlb := sizeL_len b
  have hallA := fun (h : a.length ≤ d.items.length) => all_fn L a d.items xs ha hitems h (by omega)
  have hAl := all_len L a d.items
  have el : (rowsD (a ++ o :: y :: b)).length = a.length + (b.length + 2) := by rw [rowsD_len]; simp
  have ela := rowsD_len a
  have elb := rowsD_len b
  have etl := rowsD_len tl
  have hcyo := cellsD_len o
  have ego : (rowsD (a ++ o :: y :: b))[a.length]? = some (cellsD o) := rowsD_get _ _ _ (by simp)
  have ew1 : IntKind.i64.wrap (((a.length + 1 : Nat) : Int) - 1) = (a.length : Int) := by rw [wrap_i64 (by omega) (by omega)]; omega
  have ew2 : IntKind.i64.wrap (((a.length + 1 : Nat) : Int) + 1) = ((a.length + 2 : Nat) : Int) := by rw [wrap_i64 (by omega) (by omega)]; omega
  have eA : ((rowsD (a ++ o :: y :: b)).take (IntKind.i64.wrap (((a.length + 1 : Nat) : Int) - 1)).toNat).drop (Option.getD (none : Option Int) 0).toNat = rowsD a := by
    rw [ew1, Int.toNat_natCast, rowsD_app, List.take_left' ela]
    rfl
  have eB : ((rowsD (a ++ o :: y :: b)).take (Option.getD (none : Option Int) ((rowsD (a ++ o :: y :: b)).length : Int)).toNat).drop (Option.getD (some (IntKind.i64.wrap (((a.length + 1 : Nat) : Int) + 1))) 0).toNat = rowsD b := by
    rw [Option.getD_some, Option.getD_none, ew2, Int.toNat_natCast, Int.toNat_natCast, List.take_length, rowsD_app, rowsD_eq (o :: y :: b)]
    rw [List.drop_append, ela]
    simp [rowsD_eq]
  obtain ⟨k2, n2, l2, b2, s2, i2, t2⟩ := d
  obtain ⟨k1, n1, l1, b1, s1, i1, t1⟩ := o
  simp only [items_mk, tail_mk, kind_mk] at *
  have el2 := rowsD_len i2
  have etl2 := rowsD_len t2
  have hli2 := sizeL_len i2
  simp only [sizeD] at hds
  refine GFn.intro TT_ok mixed Try.func99 rfl rfl (by rw [Try.ntmps99]; simp) ?_
  refine ⟨by decide, by show 0 ≤ IntKind.i64.wrap (((a.length + 1 : Nat) : Int) - 1); omega, by show IntKind.i64.wrap (((a.length + 1 : Nat) : Int) - 1) ≤ ((rowsD (a ++ .mk k1 n1 l1 b1 s1 i1 t1 :: y :: b)).length : Int); omega, rfl, rowsD_sz _, ?_⟩
  refine ⟨by show 0 ≤ IntKind.i64.wrap (((a.length + 1 : Nat) : Int) - 1); omega, cellsD (.mk k1 n1 l1 b1 s1 i1 t1), by rw [ew1]; exact ego, hcyo, ?_⟩
  refine ⟨by show 0 ≤ IntKind.i64.wrap (((a.length + 1 : Nat) : Int) + 1); omega, by show IntKind.i64.wrap (((a.length + 1 : Nat) : Int) + 1) ≤ ((rowsD (a ++ .mk k1 n1 l1 b1 s1 i1 t1 :: y :: b)).length : Int); omega, by show ((rowsD (a ++ .mk k1 n1 l1 b1 s1 i1 t1 :: y :: b)).length : Int) ≤ ((rowsD (a ++ .mk k1 n1 l1 b1 s1 i1 t1 :: y :: b)).length : Int); omega, rowsD_sz _, ?_⟩
  refine .mk (by kernel_rfl) ?_
  rw [eA, eB]
  have ewn : IntKind.i64.wrap (((rowsD i2).length : Int) - ((rowsD b).length : Int)) = (i2.length : Int) - b.length := by rw [wrap_i64 (by omega) (by omega), el2, elb]
  refine cnd_mk (fun h1 => ?_) (fun h1 => ?_)
  · have h1' : (i2.length : Int) - b.length < a.length := by
      have := of_decide_eq_true h1
      rw [ewn, ela] at this
      exact this
    have hd1 : Nat.blt i2.length (a.length + b.length) = true := by rw [← blt_dec]; exact decide_eq_true (by omega)
    rw [hd1, Bool.true_or, cond_true] at hr
    subst hr
    rw [List.append_nil] at hz
    subst hz
    exact ⟨.inr rfl, rfl, _, rfl, ⟨⟨⟨_, rfl, Wk.refl _⟩, trivial⟩, ⟨⟨_, rfl, Wks.refl _⟩, trivial⟩, ⟨⟨_, rfl, RW.refl _⟩, trivial⟩, rfl, rfl, rfl, rfl⟩⟩
  have h1' : a.length + b.length ≤ i2.length := by
    have := of_decide_eq_false h1
    rw [ewn, ela] at this
    omega
  have hallA' := hallA (by omega)
  have hd1 : Nat.blt i2.length (a.length + b.length) = false := by rw [← blt_dec]; exact decide_eq_false (by omega)
  rw [hd1, Bool.false_or] at hr
  refine cnd_mk (fun h2 => ?_) (fun h2 => ?_)
  · have h2' : tl = [] := by
      have : ((rowsD tl).length : Int) = 0 := by simpa using h2
      exact List.length_eq_zero_iff.1 (by omega)
    subst h2'
    refine cnd_mk (fun h3 => ?_) (fun h3 => ?_)
    · have h3' : t2 ≠ [] := by
        intro e
        subst e
        have := of_decide_eq_true h3
        simp [rowsD] at this
      have e3 : t2.isEmpty = false := by cases t2 with | nil => exact absurd rfl h3' | cons _ _ => rfl
      rw [e3] at hr
      simp only [List.isEmpty_nil, Bool.not_false, Bool.and_true, cond_true] at hr
      subst hr
      rw [List.append_nil] at hz
      subst hz
      exact ⟨.inr rfl, rfl, _, rfl, ⟨⟨⟨_, rfl, Wk.refl _⟩, trivial⟩, ⟨⟨_, rfl, Wks.refl _⟩, trivial⟩, ⟨⟨_, rfl, RW.refl _⟩, trivial⟩, rfl, rfl, rfl, rfl⟩⟩
    · have h3' : t2 = [] := by
        have := of_decide_eq_false h3
        exact List.length_eq_zero_iff.1 (by omega)
      subst h3'
      simp only [List.isEmpty_nil, Bool.not_true, Bool.and_false, cond_false] at hr
      generalize hrA : allM (a.map (mM L)) i2 = rA at *
      obtain ⟨rAb, okA⟩ := rA
      refine .own (fitsM (xs := xs) (ys := xs ++ rAb) ⟨_, _, rfl, Wk.refl _, _, _, rfl, Wk.sl _ _, _, _, rfl, Wk.refl _, rfl⟩ rfl rfl rfl rfl) hallA' ?_
      cases okA
      · simp only [ResM.andThen, cond_false] at hr
        subst hr
        subst hz
        exact ⟨.inr rfl, rfl, _, rfl, ⟨⟨⟨_, rfl, Wk.refl _⟩, trivial⟩, ⟨⟨_, rfl, Wks.refl _⟩, trivial⟩, ⟨⟨_, rfl, RW.refl _⟩, trivial⟩, rfl, rfl, rfl, rfl⟩⟩
      simp only [ResM.andThen, cond_true] at hr
      refine .pure _ rfl hplf ?_
      refine .mk (by kernel_rfl) ?_
      generalize hps : placesM L (.mk k1 n1 l1 b1 s1 i1 t1) 0 = ps at *
      have eps := rowsPlace_len ps
      have eN : ((rowsPlace ps).length : Int).toNat = ps.length := by rw [Int.toNat_natCast, eps]
      refine ⟨rfl, by show 0 ≤ ((rowsPlace ps).length : Int); omega, by show ((rowsPlace ps).length : Int) ≤ _; omega, by show ((rowsPlace ps).length : Int).toNat * 144 ≤ _; omega, ?_⟩
      refine CdL.enter (row_loop1 L (xs ++ rAb) (.mk 5 n0 l b0 s (a ++ .mk k1 n1 l1 b1 s1 i1 t1 :: y :: b) []) (.mk k2 n2 l2 b2 s2 i2 []) (.mk k1 n1 l1 b1 s1 i1 t1) (.sl .full (rowsD a)) (.sl .some (rowsD b)) ((i2.length : Int) - b.length) ps ps.length (by omega) 0 (Nat.zero_le _)) ?_ (fun n hn => rowK hn) ?_
      · refine rowCov ?_ rfl rfl rfl rfl ?_ (fun k hk => absurd hk (Nat.not_lt_zero k)) rfl (fun n hn => ?_) (fun k hk => absurd hk (Nat.not_lt_zero k)) ?_
        · refine ⟨⟨_, rfl, Wk.refl _⟩, ⟨_, rfl, Wk.refl _⟩, ⟨_, rfl, Wk.refl _⟩, ⟨_, rfl, Wk.refl _⟩, ⟨_, rfl, Wk.refl _⟩, ⟨_, rfl, Wk.refl _⟩, ⟨_, rfl, Wk.int ewn⟩, ⟨_, rfl, Wk.refl _⟩, ⟨_, rfl, Wk.of_eq ?_⟩, ⟨_, rfl, Wk.int ?_⟩, ⟨_, rfl, Wk.refl _⟩, trivial⟩
          · show AV.bsl 80 0 ((rowsPlace ps).length : Int).toNat ((rowsPlace ps).length : Int).toNat 9 = _
            rw [eN]
          · show ((((rowsPlace ps).length : Int).toNat : Nat) : Int) = _
            rw [eN]
        · show some (List.replicate ((rowsPlace ps).length : Int).toNat _).flatten = _
          rw [eN, cellsAt_const]
          congr 1
        · simp only [List.mem_cons, List.not_mem_nil, or_false] at hn
          rcases hn with rfl | rfl | rfl | rfl | rfl | rfl <;> exact List.contains_iff_mem.1 rfl
        · intro q hq
          rcases List.mem_append.1 hq with hq | hq
          · exact rowE_in q hq
          · simp only [List.mem_cons, List.not_mem_nil, or_false] at hq
            rcases hq with rfl | rfl <;> rfl
      rintro e A S ⟨rfl, rfl, z, rfl⟩
      refine ⟨by show 0 ≤ ((rowsD a).length : Int); omega, by show ((rowsD a).length : Int) ≤ (i2.length : Int) - b.length; omega, by show (i2.length : Int) - b.length ≤ ((rowsD i2).length : Int); omega, rowsD_sz i2, ?_⟩
      have eM : ((rowsD i2).take ((i2.length : Int) - b.length).toNat).drop ((rowsD a).length : Int).toNat = rowsD ((i2.take (i2.length - b.length)).drop a.length) := by
        rw [Int.toNat_natCast, ela, show ((i2.length : Int) - b.length).toNat = i2.length - b.length by omega, rowsD_eq, rowsD_eq, List.map_drop, List.map_take]
      refine CdL.enter (row_loop3 L (xs ++ rAb) (.mk 5 n0 l b0 s (a ++ .mk k1 n1 l1 b1 s1 i1 t1 :: y :: b) []) (.mk k2 n2 l2 b2 s2 i2 []) (.mk k1 n1 l1 b1 s1 i1 t1) (.sl .full (rowsD a)) (.sl .some (rowsD b)) ((i2.length : Int) - b.length) ps ps.length (by omega) ((i2.take (i2.length - b.length)).drop a.length) (by simp only [List.length_drop, List.length_take]; omega) ho (by have := hfo.2.1; omega) hmids hl 0 (fun _ => []) (Nat.zero_le _) (fun k => by simp)) ?_ (fun n hn => rowK hn) ?_
      · refine rowCov ?_ rfl rfl rfl rfl rfl (fun k hk => toksAt_lookup hk) ((toksAt_other (by omega)).trans rfl) (fun n hn => mem_rowU hn) (fun k hk => mem_rowU2 hk) ?_
        · refine ⟨⟨_, rfl, Wk.refl _⟩, ⟨_, rfl, Wk.refl _⟩, ⟨_, rfl, Wk.refl _⟩, ⟨_, rfl, Wk.refl _⟩, ⟨_, rfl, Wk.refl _⟩, ⟨_, rfl, Wk.refl _⟩, ⟨_, rfl, Wk.refl _⟩, ⟨_, rfl, Wk.refl _⟩, ⟨_, rfl, Wk.refl _⟩, ⟨_, rfl, Wk.of_eq ?_⟩, ⟨_, rfl, Wk.int ?_⟩, ⟨_, rfl, Wk.refl _⟩, trivial⟩
          · show AV.v (.sl .some (((rowsD i2).take ((i2.length : Int) - b.length).toNat).drop ((rowsD a).length : Int).toNat)) = _
            rw [eM]
          · show (((((rowsD i2).take ((i2.length : Int) - b.length).toNat).drop ((rowsD a).length : Int).toNat).length : Nat) : Int) = _
            rw [eM, rowsD_len]
        · intro q hq
          rcases List.mem_append.1 hq with hq | hq
          · exact rowE_in q hq
          · simp only [List.mem_cons, List.not_mem_nil, or_false] at hq
            rcases hq with rfl | rfl | rfl <;> rfl
      rw [List.drop_zero]
      rintro e A S (⟨rfl, hk, rfl, z, rfl⟩ | ⟨rfl, hk, hc⟩)
      rotate_left
      · rw [hk] at hr
        simp only [cond_false, List.append_nil] at hr
        subst hr
        subst hz
        exact EndG.tmp (t := 8) (.inr rfl) rfl rfl hc
      rw [hk] at hr
      simp only [cond_true] at hr
      generalize hK : (kidsAll (mM L (.mk k1 n1 l1 b1 s1 i1 t1)) ((i2.take (i2.length - b.length)).drop a.length) fun _ => []).1 = K at *
      refine CdL.enter (row_loop4 L (xs ++ rAb) (.mk 5 n0 l b0 s (a ++ .mk k1 n1 l1 b1 s1 i1 t1 :: y :: b) []) (.mk k2 n2 l2 b2 s2 i2 []) (.sl .some (rowsD b)) ((i2.length : Int) - b.length) ps (by simp only [List.length_append]; have := hAl; simp only at this; omega) K) ?_ (fun n hn => mem_contains (by
        rcases List.mem_cons.1 hn with rfl | hn
        · simp [row4]
        · rw [List.mem_singleton.1 hn]; simp [row4])) ?_
      · refine row4Cov ?_ rfl (Wks.refl _) rfl rfl rfl (Wks_cells fun k hk => ?_) ((toksAt_other (by omega)).trans rfl) (RW.refl _) (fun n hn => mem_rowU ?_) ?_
        · refine ⟨⟨_, rfl, Wk.refl _⟩, ⟨_, rfl, Wk.refl _⟩, ⟨_, rfl, Wk.refl _⟩, ⟨_, rfl, Wk.refl _⟩, ⟨_, rfl, Wk.refl _⟩, ⟨_, rfl, Wk.refl _⟩, ⟨_, rfl, Wk.refl _⟩, ⟨_, rfl, Wk.int ?_⟩, ⟨_, rfl, Wk.refl _⟩, trivial⟩
          rw [eps]
        · unfold treeF treeV
          rw [if_pos hk]
          exact ⟨_, _, rfl, Wk.refl _, _, _, rfl, Wk.refl _, _, _, rfl, Wk.refl _, _, _, rfl, Wk.refl _, _, _, rfl, Wk.refl _, _, _, rfl, Wk.refl _, _, _, rfl, Wk.refl _, _, _, rfl, Wk.refl _, _, _, rfl, Wk.tsl _ _, rfl⟩
        · simp only [List.mem_cons, List.not_mem_nil, or_false] at hn ⊢
          rcases hn with rfl | rfl | rfl | rfl | rfl <;> simp
        · intro q hq
          simp only [row4E, List.mem_cons, List.not_mem_nil, or_false] at hq
          rcases hq with rfl | rfl | rfl | rfl | rfl | rfl | rfl | rfl | rfl <;> rfl
      rintro e A S ⟨rfl, rfl, z, rfl⟩
      have eD : ((rowsD i2).take (Option.getD (none : Option Int) ((rowsD i2).length : Int)).toNat).drop (Option.getD (some ((i2.length : Int) - b.length)) 0).toNat = rowsD (i2.drop (i2.length - b.length)) := by
        rw [Option.getD_some, Option.getD_none, Int.toNat_natCast, List.take_length, show ((i2.length : Int) - b.length).toNat = i2.length - b.length by omega, rowsD_eq, rowsD_eq, List.map_drop]
      refine ⟨by show 0 ≤ (i2.length : Int) - b.length; omega, by show (i2.length : Int) - b.length ≤ ((rowsD i2).length : Int); omega, by show ((rowsD i2).length : Int) ≤ ((rowsD i2).length : Int); omega, rowsD_sz i2, ?_⟩
      have hbk : (bindsK K ps 0).length = ps.length := by
        have : ∀ (qs : List PlaceM) (k : Nat), (bindsK K qs k).length = qs.length := by
          intro qs
          induction qs with
          | nil => intro k; rfl
          | cons q r ih => intro k; unfold bindsK; simp [ih]
        exact this ps 0
      have hallB := all_fn L b (i2.drop (i2.length - b.length)) (xs ++ rAb ++ bindsK K ps 0) hbb (fun x hx => hitems x (List.mem_of_mem_drop hx)) (by simp only [List.length_drop]; omega) (by simp only [List.length_append]; have := hAl; simp only at this; omega)
      have hBl := all_len L b (i2.drop (i2.length - b.length))
      generalize hrB : allM (b.map (mM L)) (i2.drop (i2.length - b.length)) = rB at *
      obtain ⟨rBb, okB⟩ := rB
      refine .own (fitsM (xs := xs ++ rAb ++ bindsK K ps 0) (ys := xs ++ rAb ++ bindsK K ps 0 ++ rBb) ⟨_, _, rfl, Wk.refl _, _, _, rfl, Wk.refl _, _, _, rfl, Wk.of_eq (congrArg (fun q => AV.v (.sl .some q)) eD), rfl⟩ rfl rfl rfl rfl) hallB ?_
      cases okB
      · simp only [cond_false] at hr
        subst hr
        have hz' : zs = xs ++ rAb ++ bindsK K ps 0 ++ rBb := by rw [hz]; simp
        subst hz'
        exact ⟨.inr rfl, rfl, _, rfl, ⟨⟨⟨_, rfl, Wk.refl _⟩, trivial⟩, ⟨⟨_, rfl, Wks.refl _⟩, trivial⟩, ⟨⟨_, rfl, RW.refl _⟩, trivial⟩, rfl, rfl, rfl, rfl⟩⟩
      simp only [cond_true] at hr
      simp only [List.map_nil, firstOr, List.append_nil] at hr
      subst hr
      have hz' : zs = xs ++ rAb ++ bindsK K ps 0 ++ rBb := by rw [hz]; simp
      subst hz'
      exact ⟨.inr rfl, rfl, _, rfl, ⟨⟨⟨_, rfl, Wk.refl _⟩, trivial⟩, ⟨⟨_, rfl, Wks.refl _⟩, trivial⟩, ⟨⟨_, rfl, RW.refl _⟩, trivial⟩, rfl, rfl, rfl, rfl⟩⟩
  · have h2' : tl ≠ [] := by
      intro e
      subst e
      simp [rowsD] at h2
    have e2 : tl.isEmpty = false := by cases tl with | nil => exact absurd rfl h2' | cons _ _ => rfl
    obtain ⟨p', rfl⟩ : ∃ p', tl = [p'] := by
      cases tl with
      | nil => exact absurd rfl h2'
      | cons p' r' => cases r' with
        | nil => exact ⟨p', rfl⟩
        | cons z r => simp at htl
    rw [e2, Bool.false_and, cond_false] at hr
    generalize hrA : allM (a.map (mM L)) i2 = rA at *
    obtain ⟨rAb, okA⟩ := rA
    refine .own (fitsM (xs := xs) (ys := xs ++ rAb) ⟨_, _, rfl, Wk.refl _, _, _, rfl, Wk.sl _ _, _, _, rfl, Wk.refl _, rfl⟩ rfl rfl rfl rfl) hallA' ?_
    cases okA
    · simp only [ResM.andThen, cond_false] at hr
      subst hr
      subst hz
      exact ⟨.inr rfl, rfl, _, rfl, ⟨⟨⟨_, rfl, Wk.refl _⟩, trivial⟩, ⟨⟨_, rfl, Wks.refl _⟩, trivial⟩, ⟨⟨_, rfl, RW.refl _⟩, trivial⟩, rfl, rfl, rfl, rfl⟩⟩
    simp only [ResM.andThen, cond_true] at hr
    refine .pure _ rfl hplf ?_
    refine .mk (by kernel_rfl) ?_
    generalize hps : placesM L (.mk k1 n1 l1 b1 s1 i1 t1) 0 = ps at *
    have eps := rowsPlace_len ps
    have eN : ((rowsPlace ps).length : Int).toNat = ps.length := by rw [Int.toNat_natCast, eps]
    refine ⟨rfl, by show 0 ≤ ((rowsPlace ps).length : Int); omega, by show ((rowsPlace ps).length : Int) ≤ _; omega, by show ((rowsPlace ps).length : Int).toNat * 144 ≤ _; omega, ?_⟩
    refine CdL.enter (row_loop1 L (xs ++ rAb) (.mk 5 n0 l b0 s (a ++ .mk k1 n1 l1 b1 s1 i1 t1 :: y :: b) [p']) (.mk k2 n2 l2 b2 s2 i2 t2) (.mk k1 n1 l1 b1 s1 i1 t1) (.sl .full (rowsD a)) (.sl .some (rowsD b)) ((i2.length : Int) - b.length) ps ps.length (by omega) 0 (Nat.zero_le _)) ?_ (fun n hn => rowK hn) ?_
    · refine rowCov ?_ rfl rfl rfl rfl ?_ (fun k hk => absurd hk (Nat.not_lt_zero k)) rfl (fun n hn => ?_) (fun k hk => absurd hk (Nat.not_lt_zero k)) ?_
      · refine ⟨⟨_, rfl, Wk.refl _⟩, ⟨_, rfl, Wk.refl _⟩, ⟨_, rfl, Wk.refl _⟩, ⟨_, rfl, Wk.refl _⟩, ⟨_, rfl, Wk.refl _⟩, ⟨_, rfl, Wk.refl _⟩, ⟨_, rfl, Wk.int ewn⟩, ⟨_, rfl, Wk.refl _⟩, ⟨_, rfl, Wk.of_eq ?_⟩, ⟨_, rfl, Wk.int ?_⟩, ⟨_, rfl, Wk.refl _⟩, trivial⟩
        · show AV.bsl 80 0 ((rowsPlace ps).length : Int).toNat ((rowsPlace ps).length : Int).toNat 9 = _
          rw [eN]
        · show ((((rowsPlace ps).length : Int).toNat : Nat) : Int) = _
          rw [eN]
      · show some (List.replicate ((rowsPlace ps).length : Int).toNat _).flatten = _
        rw [eN, cellsAt_const]
        congr 1
      · simp only [List.mem_cons, List.not_mem_nil, or_false] at hn
        rcases hn with rfl | rfl | rfl | rfl | rfl | rfl <;> exact List.contains_iff_mem.1 rfl
      · intro q hq
        rcases List.mem_append.1 hq with hq | hq
        · exact rowE_in q hq
        · simp only [List.mem_cons, List.not_mem_nil, or_false] at hq
          rcases hq with rfl | rfl <;> rfl
    rintro e A S ⟨rfl, rfl, z, rfl⟩
    refine ⟨by show 0 ≤ ((rowsD a).length : Int); omega, by show ((rowsD a).length : Int) ≤ (i2.length : Int) - b.length; omega, by show (i2.length : Int) - b.length ≤ ((rowsD i2).length : Int); omega, rowsD_sz i2, ?_⟩
    have eM : ((rowsD i2).take ((i2.length : Int) - b.length).toNat).drop ((rowsD a).length : Int).toNat = rowsD ((i2.take (i2.length - b.length)).drop a.length) := by
      rw [Int.toNat_natCast, ela, show ((i2.length : Int) - b.length).toNat = i2.length - b.length by omega, rowsD_eq, rowsD_eq, List.map_drop, List.map_take]
    refine CdL.enter (row_loop3 L (xs ++ rAb) (.mk 5 n0 l b0 s (a ++ .mk k1 n1 l1 b1 s1 i1 t1 :: y :: b) [p']) (.mk k2 n2 l2 b2 s2 i2 t2) (.mk k1 n1 l1 b1 s1 i1 t1) (.sl .full (rowsD a)) (.sl .some (rowsD b)) ((i2.length : Int) - b.length) ps ps.length (by omega) ((i2.take (i2.length - b.length)).drop a.length) (by simp only [List.length_drop, List.length_take]; omega) ho (by have := hfo.2.1; omega) hmids hl 0 (fun _ => []) (Nat.zero_le _) (fun k => by simp)) ?_ (fun n hn => rowK hn) ?_
    · refine rowCov ?_ rfl rfl rfl rfl rfl (fun k hk => toksAt_lookup hk) ((toksAt_other (by omega)).trans rfl) (fun n hn => mem_rowU hn) (fun k hk => mem_rowU2 hk) ?_
      · refine ⟨⟨_, rfl, Wk.refl _⟩, ⟨_, rfl, Wk.refl _⟩, ⟨_, rfl, Wk.refl _⟩, ⟨_, rfl, Wk.refl _⟩, ⟨_, rfl, Wk.refl _⟩, ⟨_, rfl, Wk.refl _⟩, ⟨_, rfl, Wk.refl _⟩, ⟨_, rfl, Wk.refl _⟩, ⟨_, rfl, Wk.refl _⟩, ⟨_, rfl, Wk.of_eq ?_⟩, ⟨_, rfl, Wk.int ?_⟩, ⟨_, rfl, Wk.refl _⟩, trivial⟩
        · show AV.v (.sl .some (((rowsD i2).take ((i2.length : Int) - b.length).toNat).drop ((rowsD a).length : Int).toNat)) = _
          rw [eM]
        · show (((((rowsD i2).take ((i2.length : Int) - b.length).toNat).drop ((rowsD a).length : Int).toNat).length : Nat) : Int) = _
          rw [eM, rowsD_len]
      · intro q hq
        rcases List.mem_append.1 hq with hq | hq
        · exact rowE_in q hq
        · simp only [List.mem_cons, List.not_mem_nil, or_false] at hq
          rcases hq with rfl | rfl | rfl <;> rfl
    rw [List.drop_zero]
    rintro e A S (⟨rfl, hk, rfl, z, rfl⟩ | ⟨rfl, hk, hc⟩)
    rotate_left
    · rw [hk] at hr
      simp only [cond_false, List.append_nil] at hr
      subst hr
      subst hz
      exact EndG.tmp (t := 8) (.inr rfl) rfl rfl hc
    rw [hk] at hr
    simp only [cond_true] at hr
    generalize hK : (kidsAll (mM L (.mk k1 n1 l1 b1 s1 i1 t1)) ((i2.take (i2.length - b.length)).drop a.length) fun _ => []).1 = K at *
    refine CdL.enter (row_loop4 L (xs ++ rAb) (.mk 5 n0 l b0 s (a ++ .mk k1 n1 l1 b1 s1 i1 t1 :: y :: b) [p']) (.mk k2 n2 l2 b2 s2 i2 t2) (.sl .some (rowsD b)) ((i2.length : Int) - b.length) ps (by simp only [List.length_append]; have := hAl; simp only at this; omega) K) ?_ (fun n hn => mem_contains (by
      rcases List.mem_cons.1 hn with rfl | hn
      · simp [row4]
      · rw [List.mem_singleton.1 hn]; simp [row4])) ?_
    · refine row4Cov ?_ rfl (Wks.refl _) rfl rfl rfl (Wks_cells fun k hk => ?_) ((toksAt_other (by omega)).trans rfl) (RW.refl _) (fun n hn => mem_rowU ?_) ?_
      · refine ⟨⟨_, rfl, Wk.refl _⟩, ⟨_, rfl, Wk.refl _⟩, ⟨_, rfl, Wk.refl _⟩, ⟨_, rfl, Wk.refl _⟩, ⟨_, rfl, Wk.refl _⟩, ⟨_, rfl, Wk.refl _⟩, ⟨_, rfl, Wk.refl _⟩, ⟨_, rfl, Wk.int ?_⟩, ⟨_, rfl, Wk.refl _⟩, trivial⟩
        rw [eps]
      · unfold treeF treeV
        rw [if_pos hk]
        exact ⟨_, _, rfl, Wk.refl _, _, _, rfl, Wk.refl _, _, _, rfl, Wk.refl _, _, _, rfl, Wk.refl _, _, _, rfl, Wk.refl _, _, _, rfl, Wk.refl _, _, _, rfl, Wk.refl _, _, _, rfl, Wk.refl _, _, _, rfl, Wk.tsl _ _, rfl⟩
      · simp only [List.mem_cons, List.not_mem_nil, or_false] at hn ⊢
        rcases hn with rfl | rfl | rfl | rfl | rfl <;> simp
      · intro q hq
        simp only [row4E, List.mem_cons, List.not_mem_nil, or_false] at hq
        rcases hq with rfl | rfl | rfl | rfl | rfl | rfl | rfl | rfl | rfl <;> rfl
    rintro e A S ⟨rfl, rfl, z, rfl⟩
    have eD : ((rowsD i2).take (Option.getD (none : Option Int) ((rowsD i2).length : Int)).toNat).drop (Option.getD (some ((i2.length : Int) - b.length)) 0).toNat = rowsD (i2.drop (i2.length - b.length)) := by
      rw [Option.getD_some, Option.getD_none, Int.toNat_natCast, List.take_length, show ((i2.length : Int) - b.length).toNat = i2.length - b.length by omega, rowsD_eq, rowsD_eq, List.map_drop]
    refine ⟨by show 0 ≤ (i2.length : Int) - b.length; omega, by show (i2.length : Int) - b.length ≤ ((rowsD i2).length : Int); omega, by show ((rowsD i2).length : Int) ≤ ((rowsD i2).length : Int); omega, rowsD_sz i2, ?_⟩
    have hbk : (bindsK K ps 0).length = ps.length := by
      have : ∀ (qs : List PlaceM) (k : Nat), (bindsK K qs k).length = qs.length := by
        intro qs
        induction qs with
        | nil => intro k; rfl
        | cons q r ih => intro k; unfold bindsK; simp [ih]
      exact this ps 0
    have hallB := all_fn L b (i2.drop (i2.length - b.length)) (xs ++ rAb ++ bindsK K ps 0) hbb (fun x hx => hitems x (List.mem_of_mem_drop hx)) (by simp only [List.length_drop]; omega) (by simp only [List.length_append]; have := hAl; simp only at this; omega)
    have hBl := all_len L b (i2.drop (i2.length - b.length))
    generalize hrB : allM (b.map (mM L)) (i2.drop (i2.length - b.length)) = rB at *
    obtain ⟨rBb, okB⟩ := rB
    refine .own (fitsM (xs := xs ++ rAb ++ bindsK K ps 0) (ys := xs ++ rAb ++ bindsK K ps 0 ++ rBb) ⟨_, _, rfl, Wk.refl _, _, _, rfl, Wk.refl _, _, _, rfl, Wk.of_eq (congrArg (fun q => AV.v (.sl .some q)) eD), rfl⟩ rfl rfl rfl rfl) hallB ?_
    cases okB
    · simp only [cond_false] at hr
      subst hr
      have hz' : zs = xs ++ rAb ++ bindsK K ps 0 ++ rBb := by rw [hz]; simp
      subst hz'
      exact ⟨.inr rfl, rfl, _, rfl, ⟨⟨⟨_, rfl, Wk.refl _⟩, trivial⟩, ⟨⟨_, rfl, Wks.refl _⟩, trivial⟩, ⟨⟨_, rfl, RW.refl _⟩, trivial⟩, rfl, rfl, rfl, rfl⟩⟩
    simp only [cond_true] at hr
    have hcp' := cellsD_len p'
    have hlx : (xs ++ rAb ++ bindsK K ps 0 ++ rBb).length + sizeD p' ≤ 1000000 := by
      simp only [List.length_append]
      simp only [sizeL] at hx
      have := hAl
      have := hBl
      simp only at *
      omega
    refine cnd_mk (fun h3 => ?_) (fun h3 => ?_)
    · have h3' : ((rowsD t2).length : Int) > 0 := of_decide_eq_true h3
      obtain ⟨q, hq⟩ : ∃ q, t2[0]? = some q := ⟨t2[0]'(by omega), List.getElem?_eq_getElem (by omega)⟩
      have hh : t2.headD (.mk 5 false [] false sEmpty [] []) = q := by
        cases t2 with
        | nil => simp at hq
        | cons z r => simp at hq; subst hq; rfl
      have hqf : Fine q := hd.tl (d := .mk k2 n2 l2 b2 s2 i2 t2) (by simp only [tail_mk]; exact List.mem_of_getElem? hq)
      have hPr := ht p' (by simp) q _ hqf hlx
      simp only [List.map_cons, List.map_nil, firstOr, hh] at hr
      generalize mM L p' q = rT at *
      refine ⟨by decide, cellsD q, rowsD_get t2 0 q hq, cellsD_len q, ?_⟩
      obtain ⟨k4, n4, l4, b4, s4, i4, t4⟩ := q
      refine ⟨by decide, cellsD p', rfl, hcp', ?_⟩
      obtain ⟨k5, n5, l5, b5, s5, i5, t5⟩ := p'
      refine .own (fitsM (xs := xs ++ rAb ++ bindsK K ps 0 ++ rBb) (ys := xs ++ rAb ++ bindsK K ps 0 ++ rBb ++ rT.1) (Wks.refl _) rfl rfl rfl rfl) hPr ?_
      refine .mk (by kernel_rfl) ?_
      subst hr
      have hz' : zs = xs ++ rAb ++ bindsK K ps 0 ++ rBb ++ rT.1 := by rw [hz]; simp
      subst hz'
      exact ⟨.inr rfl, rfl, _, rfl, ⟨⟨⟨_, rfl, Wk.refl _⟩, trivial⟩, ⟨⟨_, rfl, Wks.refl _⟩, trivial⟩, ⟨⟨_, rfl, RW.refl _⟩, trivial⟩, rfl, rfl, rfl, rfl⟩⟩
    · have h3' : t2 = [] := by
        have := of_decide_eq_false h3
        exact List.length_eq_zero_iff.1 (by omega)
      subst h3'
      have hPr := ht p' (by simp) (.mk 5 false [] false sEmpty [] []) _ fine_nil hlx
      simp only [List.map_cons, List.map_nil, firstOr, List.headD_nil] at hr
      generalize mM L p' (.mk 5 false [] false sEmpty [] []) = rT at *
      refine ⟨by decide, cellsD p', rfl, hcp', ?_⟩
      obtain ⟨k5, n5, l5, b5, s5, i5, t5⟩ := p'
      refine .own (fitsM (xs := xs ++ rAb ++ bindsK K ps 0 ++ rBb) (ys := xs ++ rAb ++ bindsK K ps 0 ++ rBb ++ rT.1) ⟨_, _, rfl, Wk.refl _, _, _, rfl, Wk.refl _, _, _, rfl, Wk.fw (FW.agg (.cons (.refl _) (.cons (.refl _) (.cons FW.nil (.cons (.refl _) (.cons (.refl _) (.cons FW.nil (.cons FW.nil (.refl _))))))))), rfl⟩ rfl rfl rfl rfl) hPr ?_
      refine .mk (by kernel_rfl) ?_
      subst hr
      have hz' : zs = xs ++ rAb ++ bindsK K ps 0 ++ rBb ++ rT.1 := by rw [hz]; simp
      subst hz'
      exact ⟨.inr rfl, rfl, _, rfl, ⟨⟨⟨_, rfl, Wk.refl _⟩, trivial⟩, ⟨⟨_, rfl, Wks.refl _⟩, trivial⟩, ⟨⟨_, rfl, RW.refl _⟩, trivial⟩, rfl, rfl, rfl, rfl⟩⟩
end Go.Proofs.Ytcdfbkpdemhcpaa
namespace Go.Proofs.Ytcdfbkpdemhcpaa
open Go.Pav
set_option maxRecDepth 100000
theorem match_fn (L : List LikeM) : ∀ p, Fine p → wrongM L p = false → Pm L p := by
  refine Dat.ind_ fun k n l b s it tl hi ht hp hw => ?_
  rw [wrongM_mk, Bool.or_eq_false_iff, Bool.or_eq_false_iff] at hw
  obtain ⟨⟨hw1, hw2⟩, hw3⟩ := hw
  have hI : ∀ q ∈ it, wrongM L q = false → Pm L q := fun q hq h => hi q hq (hp.item (d := .mk k n l b s it tl) hq) h
  have hT : ∀ q ∈ tl, Pm L q := fun q hq => ht q hq (hp.tl (d := .mk k n l b s it tl) hq) (wrongT_mem hw3 q hq)
  refine match_of L _ hp fun hk => ?_
  simp only [kind_mk] at hk
  subst hk
  have hIn : ∀ q ∈ it, againM L q = false → Pm L q := by
    intro q hq ha
    refine hI q hq ?_
    rcases wrong_items hw2 with hno | ⟨a, o, y, b', rfl, hy, hno⟩
    · exact (hno q hq).2
    · by_cases hqy : q = y
      · subst hqy; rw [hy] at ha; cases ha
      · refine (hno q ?_).2
        simp only [List.mem_append, List.mem_cons] at hq ⊢
        rcases hq with h | h | h | h
        · exact .inl h
        · exact .inr (.inl h)
        · exact absurd h hqy
        · exact .inr (.inr h)
  refine list_of L _ hp rfl hw2 hIn hT ?_
  intro d xs i hd hkd hb hfi
  simp only [items_mk, tail_mk] at hfi ⊢
  rcases wrong_items hw2 with hno | ⟨a, o, y, b', rfl, hy, hno⟩
  · rw [findIdx_none fun x hx => (hno x hx).1] at hfi; cases hfi
  · rw [findIdx_at a o y b' hy fun x hx => (hno x hx).1] at hfi
    have he : a.length = i := by simpa using hfi
    subst he
    exact row_of L n l b s a o y b' tl hp (fun q hq => hI q (by simp [hq]) (hno q (by simp [hq])).2) (hI o (by simp) (hno o (by simp)).2) (hno o (by simp)).2 (fun q hq => hI q (by simp [hq]) (hno q (by simp [hq])).2) hT d xs hd hkd hb _ _ rfl rfl
end Go.Proofs.Ytcdfbkpdemhcpaa
namespace Go.Proofs.Ytcdfbkpdemhcpaa
open Go.Pav
set_option maxRecDepth 100000
theorem toList_loop (b : ByteArray) : ∀ n i r, b.data.toList.length - i = n → ByteArray.toList.loop b i r = r.reverse ++ b.data.toList.drop i := by
  intro n
  induction n with
  | zero =>
    intro i r h
    unfold ByteArray.toList.loop
    have hn : ¬ i < b.size := by show ¬ i < b.data.toList.length; omega
    rw [if_neg hn, List.drop_eq_nil_of_le (by omega), List.append_nil]
  | succ n ih =>
    intro i r h
    unfold ByteArray.toList.loop
    have hl : i < b.data.toList.length := by omega
    have hlt : i < b.size := hl
    rw [if_pos hlt, ih (i + 1) _ (by omega), List.drop_eq_getElem_cons hl]
    have : b.get! i = b.data.toList[i] := by
      show b.data[i]! = _
      rw [getElem!_pos b.data i hlt]
      rfl
    rw [this, List.reverse_cons, List.append_assoc]
    rfl
theorem toList_data (b : ByteArray) : b.toList = b.data.toList := by
  unfold ByteArray.toList
  rw [toList_loop b _ 0 [] rfl]
  rfl
theorem ba_ext {a b : ByteArray} (h : a.toList = b.toList) : a = b := by
  rw [toList_data, toList_data] at h
  cases a; cases b
  simp only [ByteArray.mk.injEq]
  exact Array.ext' h
def seenSB (l : List PlaceM) : List (ByteArray × Bool) := l.map fun x => (x.name, true)
theorem beq_seqS (a b : ByteArray) : (a == b) = seqS b a := by
  have e : (a == b) = (a.data == b.data) := rfl
  rw [e, Bool.eq_iff_iff, beq_iff_eq, seqS_iff, toList_data, toList_data]
  exact ⟨fun h => by rw [h], fun h => (Array.ext' h).symm⟩
theorem findSB_seen (l : List PlaceM) (s : ByteArray) : findSB (seenSB l) s = (l.map (·.name)).any (fun t => seqS t s) := by
  induction l with
  | nil => rfl
  | cons x r ih =>
    unfold findSB seenSB at ih ⊢
    simp only [List.map_cons, List.find?_cons, List.any_cons, beq_seqS]
    cases h : seqS x.name s
    · simpa [beq_seqS] using ih
    · rfl
theorem findSB_none {l : List PlaceM} {s : ByteArray} (h : findSB (seenSB l) s = false) : (seenSB l).find? (fun p => s == p.1) = none := by
  unfold findSB at h
  split at h
  · rename_i p hp
    have := List.mem_of_find?_eq_some hp
    unfold seenSB at this
    obtain ⟨x, _, rfl⟩ := List.mem_map.1 this
    cases h
  · assumption
theorem seenSB_app (l : List PlaceM) (x : PlaceM) : seenSB l ++ [(x.name, true)] = seenSB (l ++ [x]) := by simp [seenSB]
theorem GoodD_size {d : Dat} (h : GoodD d = true) : sizeD d ≤ 100000 := by
  have hn := within_nonneg d 5000 200 (by omega)
  unfold GoodD at h
  generalize withinD d 5000 200 = x at *
  cases hx : decide (0 ≤ x)
  · rw [hx] at h; simp at h
  · have := (hn.1 (by simpa using hx)).1
    omega
theorem Check_fn (L : List LikeM) (p : Dat) : PFn Try.prog Γ0 33 [encD p, encLikes L] (.int .i64 (checkM L p)) := by
  unfold checkM
  have hGf := Good_fn p
  cases hg : GoodD p
  · obtain ⟨k, n, l, b, s, it, tl⟩ := p
    rw [hg] at hGf
    refine PFn.intro TT_ok mixed Try.func33 rfl rfl (by rw [Try.ntmps33]; simp) fun hB => ?_
    refine .pure _ rfl hGf ?_
    exact ⟨.inr rfl, res1 rfl rfl⟩
  simp only [Bool.not_true, cond_false]
  rw [hg] at hGf
  have hsz : sizeD p ≤ 100000 := GoodD_size hg
  have hpl := places_len L p 0
  have hPf := places_fn L p 0 (by omega) (by omega) hsz
  have hWf := wrong_fn L p
  unfold Pwr at hWf
  generalize placesM L p 0 = ps at *
  generalize wrongM L p = wr at *
  obtain ⟨k, n, l, b, s, it, tl⟩ := p
  refine PFn.intro TT_ok mixed Try.func33 rfl rfl (by rw [Try.ntmps33]; simp) fun hB => ?_
  refine .pure _ rfl hGf ?_
  refine .pure _ rfl hPf ?_
  have el : (rowsPlace ps).length = ps.length := rowsPlace_len ps
  refine CdL.enter (CdL.wf TT_ok mixed (fun i : Nat => ps.length - i) (fun i => i ≤ ps.length ∧ dupM (ps.drop i) ((ps.take i).map (·.name)) = dupM ps [])
    (fun i => [(1, .v (encLikes L)), (2, .ptr 2 0), (5, .mp 11), (14, .v (.sl .some (rowsPlace ps))), (15, .v (.int .i64 ps.length)), (16, .v (.int .i64 i))])
    (fun i => ⟨[(2, (cellsD (.mk k n l b s it tl)).map .v)], [(11, ((seenSB (ps.take i)).map rowSB, BIG2, 2))], [2, 11]⟩)
    (fun _ e A S => (e = .exit 0 ∧ dupM ps [] = false ∧ A.get 1 = some (.v (encLikes L)) ∧ A.get 2 = some (.ptr 2 0) ∧ S.H.lookup 2 = some ((cellsD (.mk k n l b s it tl)).map .v)) ∨ (e = .ret ∧ dupM ps [] = true ∧ A.get 4 = some (.v (.int .i64 5)))) (fun _ _ h => h.elim) ?_ 0 ⟨Nat.zero_le _, rfl⟩) ⟨⟨⟨_, rfl, Wk.refl _⟩, ⟨_, rfl, Wk.refl _⟩, ⟨_, rfl, Wk.refl _⟩, ⟨_, rfl, Wk.refl _⟩, ⟨_, rfl, Wk.int (by rw [el])⟩, ⟨_, rfl, Wk.refl _⟩, trivial⟩, ⟨⟨_, rfl, Wks.refl _⟩, trivial⟩, ⟨⟨_, rfl, RW.refl _⟩, trivial⟩, rfl, rfl, rfl, rfl⟩ (fun _ h => h.elim) ?_
  · rintro i ⟨hi, hd⟩
    refine cnd_mk (fun h => ?_) (fun h => ?_)
    · have hi2 : i < ps.length := by simpa using h
      obtain ⟨x, hx⟩ : ∃ x, ps[i]? = some x := ⟨ps[i], List.getElem?_eq_getElem hi2⟩
      have hdrop : ps.drop i = x :: ps.drop (i + 1) := by
        rw [List.drop_eq_getElem_cons hi2]
        rw [List.getElem?_eq_getElem hi2] at hx
        rw [Option.some.inj hx]
      have htake : ps.take (i + 1) = ps.take i ++ [x] := by rw [List.take_add_one, hx]; rfl
      rw [hdrop, dupM, ← findSB_seen] at hd
      have hget : (rowsPlace ps)[i]? = some [.str x.name, .int .i64 x.deep] := by unfold rowsPlace; rw [List.getElem?_map, hx]; rfl
      refine ⟨by omega, _, hget, rfl, ?_⟩
      refine ⟨seenSB (ps.take i), rfl, rfl, ?_⟩
      refine cnd_mk (fun h => ?_) (fun h => ?_)
      · rw [h] at hd
        exact .inr ⟨rfl, hd.symm, rfl⟩
      · rw [h, Bool.false_or] at hd
        refine ⟨seenSB (ps.take i), rfl, findSB_none h, ?_⟩
        refine ⟨i + 1, by show ps.length - (i + 1) < ps.length - i; omega, ⟨hi2, ?_⟩, ?_, fun _ _ _ h => h⟩
        · rw [htake, List.map_append]; exact hd
        show Covers _ _ [(1, .v (encLikes L)), (2, .ptr 2 0), (5, .mp 11), (14, .v (.sl .some (rowsPlace ps))), (15, .v (.int .i64 ps.length)), (16, .v (.int .i64 ((i + 1 : Nat) : Int)))] ⟨[(2, (cellsD (.mk k n l b s it tl)).map .v)], [(11, ((seenSB (ps.take (i + 1))).map rowSB, BIG2, 2))], [2, 11]⟩
        rw [htake, ← seenSB_app]
        exact ⟨⟨⟨_, rfl, Wk.refl _⟩, ⟨_, rfl, Wk.refl _⟩, ⟨_, rfl, Wk.refl _⟩, ⟨_, rfl, Wk.refl _⟩, ⟨_, rfl, Wk.refl _⟩, ⟨_, rfl, Wk.int (wrap_i64 (by omega) (by omega))⟩, trivial⟩, ⟨⟨_, rfl, Wks.refl _⟩, trivial⟩, ⟨⟨_, rfl, RW.refl _⟩, trivial⟩, rfl, rfl, rfl, rfl⟩
    · have hi2 : i = ps.length := by simp at h; omega
      subst hi2
      rw [List.drop_length, dupM] at hd
      exact .inl ⟨rfl, hd.symm, rfl, rfl, rfl⟩
  · rintro e A S (⟨rfl, hd, h1, h2, h3⟩ | ⟨rfl, hd, h4⟩)
    · rw [hd]
      simp only [cond_false]
      refine opt_mk h2 ?_
      refine opt_mk h3 ?_
      refine opt_mk (rfl : partA _ _ 0 = some (.v (encD (.mk k n l b s it tl)))) ?_
      refine opt_mk h1 ?_
      refine .pure _ rfl hWf ?_
      cases wr
      · exact ⟨.inr rfl, res1 rfl rfl⟩
      · exact ⟨.inr rfl, res1 rfl rfl⟩
    · rw [hd]
      exact ⟨.inr rfl, res1 h4 rfl⟩
end Go.Proofs.Ytcdfbkpdemhcpaa
namespace Go.Proofs.Ytcdfbkpdemhcpaa
open Go.Pav
set_option maxRecDepth 100000
theorem Pm_at {L : List LikeM} {o : Dat} (l t : Nat) (hl : 1 < l) (ht : 1 < t) (h : Pm L o) (x : Dat) (hx : Fine x) (hb : sizeD o ≤ 1000000) :
    GFn Try.prog Γ0 47 (MS' L 8 500 []) [.ptr 8 0, .v (encD o), .v (encD x)] (.v (.bool (mM L o x).2)) (MS' L 8 500 (mM L o x).1) := by
  have h1 := h x [] hx (by simpa using hb)
  rw [List.nil_append] at h1
  exact (h1.swap 0 8).swap 1 500
theorem FW.tup {xs ys : List FV} (h : FWs xs ys) : FW (.tup xs) (.tup ys) := fun M v k => by
  unfold FVR at k ⊢
  obtain ⟨vs, h1, h2⟩ := k
  exact ⟨vs, h1, FWs.ok h h2⟩
theorem res2 {t u : Nat} {A : Env} {S : ASt} {x y : AV} {r : FV} (h : A.get t = some x) (k : A.get u = some y) (hr : FV.tup [frz S.view.H 8 x, frz S.view.H 8 y] = r) : ∃ xs, resAll TT A S [.tmp t, .tmp u] = some xs ∧ resF S xs = r := ⟨[x, y], by simp [resAll, resOne, h, k], hr⟩
/-- What Match gives back. -/
def encM : Option (List BindM) → FV
  | none => .tup [.sl .some [], .bool false]
  | some l => .tup [.sl .some (rowsB l), .bool true]
theorem check_zero {L : List LikeM} {p : Dat} (h : (checkM L p != 0) = false) : GoodD p = true ∧ wrongM L p = false := by
  unfold checkM at h
  cases hg : GoodD p
  · rw [hg] at h; simp at h
  · rw [hg] at h
    cases hw : wrongM L p
    · exact ⟨rfl, rfl⟩
    · rw [hw] at h
      cases hd : dupM (placesM L p 0) [] <;> rw [hd] at h <;> simp at h
theorem check_vals (L : List LikeM) (p : Dat) : checkM L p = 0 ∧ GoodD p = true ∧ wrongM L p = false ∨ checkM L p = 5 ∨ checkM L p = 12 := by
  unfold checkM
  cases GoodD p <;> cases dupM (placesM L p 0) [] <;> cases wrongM L p <;> simp
theorem Match_fn (L : List LikeM) (p d : Dat) : PFn Try.prog Γ0 19 [encD p, encD d, encLikes L] (encM (MatchM SameD L p d)) := by
  unfold MatchM
  have hC := Check_fn L p
  have hG := Good_fn d
  rcases check_vals L p with ⟨hc, h1, h2⟩ | hc | hc
  · rw [hc] at hC ⊢
    have hsz := GoodD_size h1
    have hf := Fine.of_good h1
    cases hg : GoodD d
    · rw [hg] at hG
      refine PFn.res (r := .tup [.sl .nil [], .bool false]) ?_ (FW.tup (.cons FW.nil (.refl _)))
      obtain ⟨k1, n1, l1, b1, s1, i1, t1⟩ := p
      obtain ⟨k2, n2, l2, b2, s2, i2, t2⟩ := d
      refine PFn.intro TT_ok mixed Try.func19 rfl rfl (by rw [Try.ntmps19]; simp) fun hB => ?_
      refine .pure _ rfl hC ?_
      refine .pure _ rfl hG ?_
      exact ⟨.inr rfl, res2 rfl rfl rfl⟩
    · have hm := Pm_at 8 500 (by omega) (by omega) (match_fn L p hf h2) d (Fine.of_good hg) (by omega)
      rw [hg] at hG
      have e0 : ((0 : Int) != 0) = false := rfl
      simp only [Bool.not_true, Bool.or_false, cond_false, e0]
      change GFn _ _ _ _ _ (.v (.bool (matchM SameD L p d).2)) (MS' L 8 500 (matchM SameD L p d).1) at hm
      generalize matchM SameD L p d = r at *
      obtain ⟨rb, ok⟩ := r
      obtain ⟨k1, n1, l1, b1, s1, i1, t1⟩ := p
      obtain ⟨k2, n2, l2, b2, s2, i2, t2⟩ := d
      cases ok
      · refine PFn.res (r := .tup [.sl .nil [], .bool false]) ?_ (FW.tup (.cons FW.nil (.refl _)))
        refine PFn.intro TT_ok mixed Try.func19 rfl rfl (by rw [Try.ntmps19]; simp) fun hB => ?_
        refine .pure _ rfl hC ?_
        refine .pure _ rfl hG ?_
        refine .adopt 8 1 500 66 10 rfl rfl (.inl rfl) rfl (fun c hc => by cases hc) ?_
        refine .own (fitsM' (xs := []) (ys := rb) (Wks.refl _) rfl rfl rfl ⟨by show 8 ∈ [500, 8, 4, 3]; simp, by show 500 ∈ [500, 8, 4, 3]; simp⟩) hm ?_
        exact ⟨.inr rfl, res2 rfl rfl rfl⟩
      · refine PFn.intro TT_ok mixed Try.func19 rfl rfl (by rw [Try.ntmps19]; simp) fun hB => ?_
        refine .pure _ rfl hC ?_
        refine .pure _ rfl hG ?_
        refine .adopt 8 1 500 66 10 rfl rfl (.inl rfl) rfl (fun c hc => by cases hc) ?_
        refine .own (fitsM' (xs := []) (ys := rb) (Wks.refl _) rfl rfl rfl ⟨by show 8 ∈ [500, 8, 4, 3]; simp, by show 500 ∈ [500, 8, 4, 3]; simp⟩) hm ?_
        exact ⟨.inr rfl, res2 rfl rfl rfl⟩
  all_goals
    rw [hc] at hC ⊢
    refine PFn.res (r := .tup [.sl .nil [], .bool false]) ?_ (FW.tup (.cons FW.nil (.refl _)))
    obtain ⟨k1, n1, l1, b1, s1, i1, t1⟩ := p
    obtain ⟨k2, n2, l2, b2, s2, i2, t2⟩ := d
    refine PFn.intro TT_ok mixed Try.func19 rfl rfl (by rw [Try.ntmps19]; simp) fun hB => ?_
    refine .pure _ rfl hC ?_
    exact ⟨.inr rfl, res2 rfl rfl rfl⟩
end Go.Proofs.Ytcdfbkpdemhcpaa
namespace Go.Proofs.Ytcdfbkpdemhcpaa
open Go.Pav
set_option maxRecDepth 100000
theorem strs_app (l : List ByteArray) (s : ByteArray) : strs (l ++ [s]) = strs l ++ [[.str s]] := by simp [strs]
theorem strs_one (l : List ByteArray) : ∀ c ∈ strs l, c.length = 1 := by
  intro c hc
  unfold strs at hc
  obtain ⟨x, _, rfl⟩ := List.mem_map.1 hc
  rfl
theorem addName_len (l : List ByteArray) (s : ByteArray) : (addName l s).length ≤ l.length + 1 := by
  unfold addName
  cases l.any fun x => seqS x s <;> simp
def namesOf (ps : List PlaceM) (l : List ByteArray) : List ByteArray := ps.foldl (fun l x => addName l x.name) l
theorem Names_fn (L : List LikeM) (p : Dat) : PFn Try.prog Γ0 32 [encD p, encLikes L] (.sl .some (strs (namesM L p))) := by
  unfold namesM
  have hGf := Good_fn p
  cases hg : GoodD p
  · obtain ⟨k, n, l, b, s, it, tl⟩ := p
    rw [hg] at hGf
    refine PFn.res (r := .sl .nil []) ?_ FW.nil
    refine PFn.intro TT_ok mixed Try.func32 rfl rfl (by rw [Try.ntmps32]; simp) fun hB => ?_
    refine .pure _ rfl hGf ?_
    exact ⟨.inr rfl, res1 rfl rfl⟩
  simp only [cond_true]
  rw [hg] at hGf
  have hsz : sizeD p ≤ 100000 := GoodD_size hg
  have hpl := places_len L p 0
  have hPf := places_fn L p 0 (by omega) (by omega) hsz
  generalize placesM L p 0 = ps at *
  change PFn _ _ _ _ (.sl .some (strs (namesOf ps [])))
  obtain ⟨k, n, l, b, s, it, tl⟩ := p
  refine PFn.intro TT_ok mixed Try.func32 rfl rfl (by rw [Try.ntmps32]; simp) fun hB => ?_
  refine .pure _ rfl hGf ?_
  refine .pure _ rfl hPf ?_
  have el : (rowsPlace ps).length = ps.length := rowsPlace_len ps
  refine CdL.adopt 5 100 9 1 rfl (.inl rfl) rfl (fun c hc => by cases hc) ?_
  refine CdL.enter (CdL.wf TT_ok mixed (fun x : Nat × List ByteArray => ps.length - x.1) (fun x => x.1 ≤ ps.length ∧ x.2.length ≤ x.1 ∧ namesOf (ps.drop x.1) x.2 = namesOf ps [])
    (fun x => [(5, .tsl 100 (strs x.2)), (12, .v (.sl .some (rowsPlace ps))), (13, .v (.int .i64 ps.length)), (14, .v (.int .i64 x.1))])
    (fun x => ⟨[], [(100, (strs x.2, 9, 1))], [100]⟩)
    (fun _ e A S => e = .exit 0 ∧ A.get 5 = some (.tsl 100 (strs (namesOf ps [])))) (fun _ _ h => h.elim) ?_ (0, []) ⟨Nat.zero_le _, Nat.le_refl _, rfl⟩) ⟨⟨⟨_, rfl, Wk.refl _⟩, ⟨_, rfl, Wk.refl _⟩, ⟨_, rfl, Wk.int (by rw [el])⟩, ⟨_, rfl, Wk.refl _⟩, trivial⟩, trivial, ⟨⟨_, rfl, RW.refl _⟩, trivial⟩, rfl, rfl, rfl, rfl⟩ (fun _ h => h.elim) ?_
  · rintro ⟨i, acc⟩ ⟨hi, ha, hd⟩
    dsimp only at hi ha hd ⊢
    refine cnd_mk (fun h => ?_) (fun h => ?_)
    · have hi2 : i < ps.length := by simpa using h
      obtain ⟨x, hx⟩ : ∃ x, ps[i]? = some x := ⟨ps[i], List.getElem?_eq_getElem hi2⟩
      have hdrop : ps.drop i = x :: ps.drop (i + 1) := by
        rw [List.drop_eq_getElem_cons hi2]
        rw [List.getElem?_eq_getElem hi2] at hx
        rw [Option.some.inj hx]
      rw [hdrop] at hd
      change namesOf (ps.drop (i + 1)) (addName acc x.name) = _ at hd
      have hal := addName_len acc x.name
      have hget : (rowsPlace ps)[i]? = some [.str x.name, .int .i64 x.deep] := by unfold rowsPlace; rw [List.getElem?_map, hx]; rfl
      refine ⟨by omega, _, hget, rfl, ?_⟩
      refine .lent 8 (.bool (acc.any fun t => seqS x.name t)) rfl rfl rfl (containsS_fn acc x.name) ?_
      have hcov : addName acc x.name = (bif acc.any fun t => seqS x.name t then acc else acc ++ [x.name]) := by
        unfold addName
        rw [show (fun t => seqS t x.name) = fun t => seqS x.name t from funext fun t => seqS_symm _ _]
      cases hb : acc.any fun t => seqS x.name t
      · rw [hb] at hcov
        simp only [cond_false] at hcov
        have es : (strs acc).length = acc.length := strs_len acc
        refine .inl ⟨_, rfl, rfl, ?_, ?_, ?_, ?_⟩
        · intro c hc
          rw [List.mem_singleton.1 hc]; rfl
        · show (strs acc).length + 1 ≤ _
          omega
        · show ((strs acc).length + 1) * 16 ≤ _
          omega
        · refine ⟨(i + 1, acc ++ [x.name]), by show ps.length - (i + 1) < ps.length - i; omega, ⟨hi2, by show (acc ++ [x.name]).length ≤ i + 1; rw [← hcov]; omega, by rw [← hcov]; exact hd⟩, ?_, fun _ _ _ h => h⟩
          show Covers _ _ [(5, .tsl 100 (strs (acc ++ [x.name]))), (12, .v (.sl .some (rowsPlace ps))), (13, .v (.int .i64 ps.length)), (14, .v (.int .i64 ((i + 1 : Nat) : Int)))] ⟨[], [(100, (strs (acc ++ [x.name]), 9, 1))], [100]⟩
          rw [strs_app]
          exact ⟨⟨⟨_, rfl, Wk.refl _⟩, ⟨_, rfl, Wk.refl _⟩, ⟨_, rfl, Wk.refl _⟩, ⟨_, rfl, Wk.int (wrap_i64 (by omega) (by omega))⟩, trivial⟩, trivial, ⟨⟨_, rfl, RW.refl _⟩, trivial⟩, rfl, rfl, rfl, rfl⟩
      · rw [hb] at hcov
        simp only [cond_true] at hcov
        refine ⟨(i + 1, acc), by show ps.length - (i + 1) < ps.length - i; omega, ⟨hi2, by show acc.length ≤ i + 1; omega, by rw [hcov] at hd; exact hd⟩, ?_, fun _ _ _ h => h⟩
        exact ⟨⟨⟨_, rfl, Wk.refl _⟩, ⟨_, rfl, Wk.refl _⟩, ⟨_, rfl, Wk.refl _⟩, ⟨_, rfl, Wk.int (wrap_i64 (by omega) (by omega))⟩, trivial⟩, trivial, ⟨⟨_, rfl, RW.refl _⟩, trivial⟩, rfl, rfl, rfl, rfl⟩
    · have hi2 : i = ps.length := by simp at h; omega
      subst hi2
      rw [List.drop_length] at hd
      rw [← hd]
      exact ⟨rfl, rfl⟩
  · rintro e A S ⟨rfl, h⟩
    refine opt_mk h ?_
    exact ⟨.inr rfl, res1 rfl rfl⟩
theorem Depth_fn (L : List LikeM) (p : Dat) (v : ByteArray) : PFn Try.prog Γ0 35 [encD p, .str v, encLikes L] (.int .i64 (depthM L p v)) := by
  unfold depthM
  have hGf := Good_fn p
  cases hg : GoodD p
  · obtain ⟨k, n, l, b, s, it, tl⟩ := p
    rw [hg] at hGf
    refine PFn.intro TT_ok mixed Try.func35 rfl rfl (by rw [Try.ntmps35]; simp) fun hB => ?_
    refine .pure _ rfl hGf ?_
    exact ⟨.inr rfl, res1 rfl rfl⟩
  simp only [cond_true]
  rw [hg] at hGf
  have hsz : sizeD p ≤ 100000 := GoodD_size hg
  have hpl := places_len L p 0
  have hPf := places_fn L p 0 (by omega) (by omega) hsz
  generalize placesM L p 0 = ps at *
  obtain ⟨k, n, l, b, s, it, tl⟩ := p
  refine PFn.intro TT_ok mixed Try.func35 rfl rfl (by rw [Try.ntmps35]; simp) fun hB => ?_
  refine .pure _ rfl hGf ?_
  refine .pure _ rfl hPf ?_
  have el : (rowsPlace ps).length = ps.length := rowsPlace_len ps
  refine CdL.enter (CdL.wf TT_ok mixed (fun i : Nat => ps.length - i) (fun i => i ≤ ps.length ∧ depthOf (ps.drop i) v = depthOf ps v)
    (fun i => [(1, .v (.str v)), (13, .v (.sl .some (rowsPlace ps))), (14, .v (.int .i64 ps.length)), (15, .v (.int .i64 i))])
    (fun i => ASt.nil)
    (fun _ e A S => (e = .exit 0 ∧ depthOf ps v = -1) ∨ (e = .ret ∧ A.get 6 = some (.v (.int .i64 (depthOf ps v))))) (fun _ _ h => h.elim) ?_ 0 ⟨Nat.zero_le _, rfl⟩) ⟨⟨⟨_, rfl, Wk.refl _⟩, ⟨_, rfl, Wk.refl _⟩, ⟨_, rfl, Wk.int (by rw [el])⟩, ⟨_, rfl, Wk.refl _⟩, trivial⟩, trivial, trivial, rfl, rfl, rfl, rfl⟩ (fun _ h => h.elim) ?_
  · rintro i ⟨hi, hd⟩
    refine cnd_mk (fun h => ?_) (fun h => ?_)
    · have hi2 : i < ps.length := by simpa using h
      obtain ⟨x, hx⟩ : ∃ x, ps[i]? = some x := ⟨ps[i], List.getElem?_eq_getElem hi2⟩
      have hdrop : ps.drop i = x :: ps.drop (i + 1) := by
        rw [List.drop_eq_getElem_cons hi2]
        rw [List.getElem?_eq_getElem hi2] at hx
        rw [Option.some.inj hx]
      rw [hdrop, depthOf] at hd
      have hget : (rowsPlace ps)[i]? = some [.str x.name, .int .i64 x.deep] := by unfold rowsPlace; rw [List.getElem?_map, hx]; rfl
      refine ⟨by omega, _, hget, rfl, ?_⟩
      refine cnd_mk (fun h => ?_) (fun h => ?_)
      · have hb : seqS x.name v = true := h
        rw [hb] at hd
        rw [← hd]
        exact .inr ⟨rfl, rfl⟩
      · have hb : seqS x.name v = false := h
        rw [hb] at hd
        refine ⟨i + 1, by show ps.length - (i + 1) < ps.length - i; omega, ⟨hi2, hd⟩, ?_, fun _ _ _ h => h⟩
        exact ⟨⟨⟨_, rfl, Wk.refl _⟩, ⟨_, rfl, Wk.refl _⟩, ⟨_, rfl, Wk.refl _⟩, ⟨_, rfl, Wk.int (wrap_i64 (by omega) (by omega))⟩, trivial⟩, trivial, trivial, rfl, rfl, rfl, rfl⟩
    · have hi2 : i = ps.length := by simp at h; omega
      subst hi2
      rw [List.drop_length, depthOf] at hd
      exact .inl ⟨rfl, hd.symm⟩
  · rintro e A S (⟨rfl, h⟩ | ⟨rfl, h⟩)
    · rw [h]; exact ⟨.inr rfl, res1 rfl rfl⟩
    · exact ⟨.inr rfl, res1 h rfl⟩
end Go.Proofs.Ytcdfbkpdemhcpaa
