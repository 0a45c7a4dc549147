/- Part 1 of the lemmas for this: MatchNames returns true for every input, and each argument reads afterwards as it read before (no further condition). -/
import Derived.Calls
import Derived.OwnWalk
import Derived.Orders
import Derived.Maps.AppendAt
import Derived.Below
import Derived.Laws.Slices
import Derived.Laws.Tables
namespace Go.Pav

/-- What is known of a slice's address and capacity. -/
inductive SK where
  | nil | full | nonnil | some
  deriving DecidableEq, Repr

/-- A value all of whose memory is never written again. -/
inductive FV where
  | any
  | bool (b : Bool)
  | int (k : IntKind) (n : Int)
  | str (s : ByteArray)
  | sl (k : SK) (xs : List (List FV))
  | fptr (cells : List FV)
  | nilp
  | agg (cells : List FV)
  | tup (vs : List FV)
  | fn (f : FuncId) (first caps : List FV)
  | nilfn
  | iface (t : TypeId) (v : FV)
  | nilif

/-- A value that may lead to cells of one's own: boxes (ptr: box l, cell off), slices that may be appended to (tsl: token t), slices that lie in a box (bsl: box l, first cell off, length, capacity, cells of an element); token t's slice as it was when it had m elements (tk), and a pointer to a cell of that slice's block (pp); a map that is one's own (mp). -/
inductive AV where
  | v (x : FV)
  | tsl (t : Nat) (xs : List (List FV))
  | ptr (l off : Nat)
  | bsl (l off n c sz : Nat)
  | tk (t m : Nat)
  | pp (t m off : Nat)
  | mp (t : Nat)
  | agg (cells : List AV)
  | tup (vs : List AV)
  | fn (f : FuncId) (first caps : List AV)
  | iface (t : TypeId) (v : AV)

/-- Memory that is never written again: block, cell. -/
abbrev Mem := Nat → Nat → Option Value

def SK.ok : SK → Option Addr → Nat → Nat → Prop
  | .nil, a, n, c => a = none ∧ n = 0 ∧ c = 0
  | .full, _, n, c => n = c
  | .nonnil, a, _, _ => a ≠ none
  | .some, _, _, _ => True

mutual
def FVR (M : Mem) : FV → Value → Prop
  | .any, _ => True
  | .bool b, v => v = .bool b
  | .int k n, v => v = .int k n
  | .str s, v => v = .string s
  | .sl k xs, v => ∃ a n c, v = .slice a n c ∧ n = xs.length ∧ (n ≤ c ∧ n ≤ 140737488355328) ∧ k.ok a n c ∧ (a = none → c = 0) ∧
      (xs = [] ∨ ∃ b off sz, a = some ⟨b, off, none⟩ ∧ Rws M xs b off sz)
  | .fptr cs, v => ∃ b off, v = .pointer (some ⟨b, off, none⟩) ∧ Cls M cs b off
  | .nilp, v => v = .pointer none
  | .agg cs, v => ∃ vs, v = .agg vs ∧ FVRs M cs vs.toList
  | .tup cs, v => ∃ vs, v = .tuple vs ∧ FVRs M cs vs.toList
  | .fn f fs cs, v => ∃ vs ws, v = .func (.func f) vs ws ∧ FVRs M fs vs.toList ∧ FVRs M cs ws.toList
  | .nilfn, v => v = .nilFunc
  | .iface t x, v => ∃ u, v = .iface t u ∧ FVR M x u
  | .nilif, v => v = .nilIface
def FVRs (M : Mem) : List FV → List Value → Prop
  | [], vs => vs = []
  | x :: r, vs => ∃ u us, vs = u :: us ∧ FVR M x u ∧ FVRs M r us
def Cls (M : Mem) : List FV → Nat → Nat → Prop
  | [], _, _ => True
  | x :: r, b, o => (∃ u, M b o = some u ∧ u.oneCell' = true ∧ FVR M x u) ∧ Cls M r b (o + 1)
def Rws (M : Mem) : List (List FV) → Nat → Nat → Nat → Prop
  | [], _, _, _ => True
  | c :: r, b, off, sz => c.length = sz ∧ Cls M c b off ∧ Rws M r b (off + sz) sz
end

/-- A token: how long its slice is, the slice's value when it had n elements, the block that is its own (none: length and capacity are one). -/
structure Tok where
  len : Nat
  val : Nat → Value
  own : Option Nat

/-- Names: a box's block, a token. -/
structure Nam where
  box : Nat → Option Nat
  tok : Nat → Option Tok

mutual
def AVR (M : Mem) (ρ : Nam) : AV → Value → Prop
  | .v x, v => FVR M x v
  | .tsl t xs, v => FVR M (.sl .some xs) v ∧ ∃ i, ρ.tok t = some i ∧ xs.length ≤ i.len ∧ v = i.val xs.length
  | .ptr l off, v => ∃ b, ρ.box l = some b ∧ v = .pointer (some ⟨b, off, none⟩)
  | .bsl l off n c _, v => (n ≤ c ∧ n ≤ 140737488355328) ∧ ∃ b, ρ.box l = some b ∧ v = .slice (some ⟨b, off, none⟩) n c
  | .tk t m, v => (∃ g c, v = .slice (some ⟨g, 0, none⟩) m c) ∧ ∃ i, ρ.tok t = some i ∧ m ≤ i.len ∧ v = i.val m
  | .pp t m off, v => ∃ i g c, ρ.tok t = some i ∧ m ≤ i.len ∧ i.val m = .slice (some ⟨g, 0, none⟩) m c ∧ v = .pointer (some ⟨g, off, none⟩)
  | .mp t, v => ∃ i g c, ρ.tok t = some i ∧ i.val 0 = .slice (some ⟨g, 0, none⟩) 0 c ∧ v = .map (some g)
  | .agg cs, v => ∃ vs, v = .agg vs ∧ AVRs M ρ cs vs.toList
  | .tup cs, v => ∃ vs, v = .tuple vs ∧ AVRs M ρ cs vs.toList
  | .fn f fs cs, v => ∃ vs ws, v = .func (.func f) vs ws ∧ AVRs M ρ fs vs.toList ∧ AVRs M ρ cs ws.toList
  | .iface t x, v => ∃ u, v = .iface t u ∧ AVR M ρ x u
def AVRs (M : Mem) (ρ : Nam) : List AV → List Value → Prop
  | [], vs => vs = []
  | x :: r, vs => ∃ u us, vs = u :: us ∧ AVR M ρ x u ∧ AVRs M ρ r us
end

/-! ### more is known -/
def Mem.le (M M' : Mem) : Prop := ∀ b o v, M b o = some v → M' b o = some v
theorem Mem.le_refl (M : Mem) : M.le M := fun _ _ _ h => h
theorem Mem.le_trans {M M' M'' : Mem} (h : M.le M') (h' : M'.le M'') : M.le M'' := fun b o v e => h' b o v (h b o v e)

mutual
theorem FVR.mono {M M' : Mem} (h : M.le M') : ∀ (x : FV) (v : Value), FVR M x v → FVR M' x v
  | .any, _, _ => by unfold FVR; trivial
  | .bool _, _, e => by unfold FVR at e ⊢; exact e
  | .int _ _, _, e => by unfold FVR at e ⊢; exact e
  | .str _, _, e => by unfold FVR at e ⊢; exact e
  | .sl k xs, v, e => by
    unfold FVR at e ⊢
    obtain ⟨a, n, c, h1, h2, h3, h4, h5, h6⟩ := e
    refine ⟨a, n, c, h1, h2, h3, h4, h5, ?_⟩
    rcases h6 with h6 | ⟨b, off, sz, h6, h7⟩
    · exact .inl h6
    · exact .inr ⟨b, off, sz, h6, Rws.mono h xs b off sz h7⟩
  | .fptr cs, _, e => by
    unfold FVR at e ⊢
    obtain ⟨b, off, h1, h2⟩ := e
    exact ⟨b, off, h1, Cls.mono h cs b off h2⟩
  | .nilp, _, e => by unfold FVR at e ⊢; exact e
  | .agg cs, _, e => by
    unfold FVR at e ⊢
    obtain ⟨vs, h1, h2⟩ := e
    exact ⟨vs, h1, FVRs.mono h cs _ h2⟩
  | .tup cs, _, e => by
    unfold FVR at e ⊢
    obtain ⟨vs, h1, h2⟩ := e
    exact ⟨vs, h1, FVRs.mono h cs _ h2⟩
  | .fn _ fs cs, _, e => by
    unfold FVR at e ⊢
    obtain ⟨vs, ws, h1, h2, h3⟩ := e
    exact ⟨vs, ws, h1, FVRs.mono h fs _ h2, FVRs.mono h cs _ h3⟩
  | .nilfn, _, e => by unfold FVR at e ⊢; exact e
  | .iface _ x, _, e => by
    unfold FVR at e ⊢
    obtain ⟨u, h1, h2⟩ := e
    exact ⟨u, h1, FVR.mono h x u h2⟩
  | .nilif, _, e => by unfold FVR at e ⊢; exact e
theorem FVRs.mono {M M' : Mem} (h : M.le M') : ∀ (xs : List FV) (vs : List Value), FVRs M xs vs → FVRs M' xs vs
  | [], _, e => by unfold FVRs at e ⊢; exact e
  | x :: r, _, e => by
    unfold FVRs at e ⊢
    obtain ⟨u, us, h1, h2, h3⟩ := e
    exact ⟨u, us, h1, FVR.mono h x u h2, FVRs.mono h r us h3⟩
theorem Cls.mono {M M' : Mem} (h : M.le M') : ∀ (xs : List FV) (b o : Nat), Cls M xs b o → Cls M' xs b o
  | [], _, _, _ => by unfold Cls; trivial
  | x :: r, b, o, e => by
    unfold Cls at e ⊢
    obtain ⟨⟨u, h1, h2, h3⟩, h4⟩ := e
    exact ⟨⟨u, h _ _ _ h1, h2, FVR.mono h x u h3⟩, Cls.mono h r b (o + 1) h4⟩
theorem Rws.mono {M M' : Mem} (h : M.le M') : ∀ (xs : List (List FV)) (b o sz : Nat), Rws M xs b o sz → Rws M' xs b o sz
  | [], _, _, _, _ => by unfold Rws; trivial
  | c :: r, b, o, sz, e => by
    unfold Rws at e ⊢
    obtain ⟨h1, h2, h3⟩ := e
    exact ⟨h1, Cls.mono h c b o h2, Rws.mono h r b (o + sz) sz h3⟩
end

structure Nam.le (ρ ρ' : Nam) : Prop where
  box : ∀ l b, ρ.box l = some b → ρ'.box l = some b
  tok : ∀ t i, ρ.tok t = some i → ∃ i', ρ'.tok t = some i' ∧ i.len ≤ i'.len ∧ ∀ n, n ≤ i.len → i'.val n = i.val n
theorem Nam.le_refl (ρ : Nam) : ρ.le ρ := ⟨fun _ _ h => h, fun _ i h => ⟨i, h, Nat.le_refl _, fun _ _ => rfl⟩⟩
theorem Nam.le_trans {ρ ρ' ρ'' : Nam} (h : ρ.le ρ') (k : ρ'.le ρ'') : ρ.le ρ'' :=
  ⟨fun l b e => k.box l b (h.box l b e), fun t i e => by
    obtain ⟨i', e', h1, h2⟩ := h.tok t i e
    obtain ⟨i'', e'', h3, h4⟩ := k.tok t i' e'
    exact ⟨i'', e'', Nat.le_trans h1 h3, fun n hn => (h4 n (Nat.le_trans hn h1)).trans (h2 n hn)⟩⟩

mutual
theorem AVR.mono {M M' : Mem} {ρ ρ' : Nam} (h : M.le M') (k : ρ.le ρ') : ∀ (x : AV) (v : Value), AVR M ρ x v → AVR M' ρ' x v
  | .v x, v, e => by unfold AVR at e ⊢; exact FVR.mono h x v e
  | .tsl t xs, v, e => by
    unfold AVR at e ⊢
    obtain ⟨e1, i, e2, e3, e4⟩ := e
    obtain ⟨i', h1, h2, h3⟩ := k.tok t i e2
    exact ⟨FVR.mono h _ v e1, i', h1, Nat.le_trans e3 h2, e4.trans (h3 _ e3).symm⟩
  | .ptr _ _, _, e => by
    unfold AVR at e ⊢
    obtain ⟨b, e1, e2⟩ := e
    exact ⟨b, k.box _ _ e1, e2⟩
  | .bsl _ _ _ _ _, _, e => by
    unfold AVR at e ⊢
    obtain ⟨e0, b, e1, e2⟩ := e
    exact ⟨e0, b, k.box _ _ e1, e2⟩
  | .tk _ m, _, e => by
    unfold AVR at e ⊢
    obtain ⟨e1, i, e2, e3, e4⟩ := e
    obtain ⟨i', h1, h2, h3⟩ := k.tok _ i e2
    exact ⟨e1, i', h1, Nat.le_trans e3 h2, e4.trans (h3 _ e3).symm⟩
  | .pp _ m _, _, e => by
    unfold AVR at e ⊢
    obtain ⟨i, g, c, e2, e3, e4, e5⟩ := e
    obtain ⟨i', h1, h2, h3⟩ := k.tok _ i e2
    exact ⟨i', g, c, h1, Nat.le_trans e3 h2, (h3 _ e3).trans e4, e5⟩
  | .mp _, _, e => by
    unfold AVR at e ⊢
    obtain ⟨i, g, c, e2, e4, e5⟩ := e
    obtain ⟨i', h1, h2, h3⟩ := k.tok _ i e2
    exact ⟨i', g, c, h1, (h3 _ (Nat.zero_le _)).trans e4, e5⟩
  | .agg cs, _, e => by
    unfold AVR at e ⊢
    obtain ⟨vs, h1, h2⟩ := e
    exact ⟨vs, h1, AVRs.mono h k cs _ h2⟩
  | .tup cs, _, e => by
    unfold AVR at e ⊢
    obtain ⟨vs, h1, h2⟩ := e
    exact ⟨vs, h1, AVRs.mono h k cs _ h2⟩
  | .fn _ fs cs, _, e => by
    unfold AVR at e ⊢
    obtain ⟨vs, ws, h1, h2, h3⟩ := e
    exact ⟨vs, ws, h1, AVRs.mono h k fs _ h2, AVRs.mono h k cs _ h3⟩
  | .iface _ x, _, e => by
    unfold AVR at e ⊢
    obtain ⟨u, h1, h2⟩ := e
    exact ⟨u, h1, AVR.mono h k x u h2⟩
theorem AVRs.mono {M M' : Mem} {ρ ρ' : Nam} (h : M.le M') (k : ρ.le ρ') : ∀ (xs : List AV) (vs : List Value), AVRs M ρ xs vs → AVRs M' ρ' xs vs
  | [], _, e => by unfold AVRs at e ⊢; exact e
  | x :: r, _, e => by
    unfold AVRs at e ⊢
    obtain ⟨u, us, h1, h2, h3⟩ := e
    exact ⟨u, us, h1, AVR.mono h k x u h2, AVRs.mono h k r us h3⟩
end

/-! ### what is asked of values and lists -/
theorem FVRs.get {M : Mem} : ∀ {xs : List FV} {vs : List Value}, FVRs M xs vs → ∀ (i : Nat) x, xs[i]? = some x → ∃ v, vs[i]? = some v ∧ FVR M x v
  | [], _, _, i, x, hi => by simp at hi
  | y :: r, _, e, i, x, hi => by
    unfold FVRs at e
    obtain ⟨u, us, rfl, h1, h2⟩ := e
    cases i with
    | zero => simp at hi; subst hi; exact ⟨u, by simp, h1⟩
    | succ i => exact (FVRs.get h2 i x (by simpa using hi)).imp fun v hv => by simpa using hv
theorem FVRs.len {M : Mem} : ∀ {xs : List FV} {vs : List Value}, FVRs M xs vs → vs.length = xs.length
  | [], _, e => by unfold FVRs at e; subst e; rfl
  | y :: r, _, e => by
    unfold FVRs at e
    obtain ⟨u, us, rfl, h1, h2⟩ := e
    simp [FVRs.len h2]
theorem AVRs.len {M : Mem} {ρ : Nam} : ∀ {xs : List AV} {vs : List Value}, AVRs M ρ xs vs → vs.length = xs.length
  | [], _, e => by unfold AVRs at e; subst e; rfl
  | y :: r, _, e => by
    unfold AVRs at e
    obtain ⟨u, us, rfl, h1, h2⟩ := e
    simp [AVRs.len h2]
theorem AVRs.get {M : Mem} {ρ : Nam} : ∀ {xs : List AV} {vs : List Value}, AVRs M ρ xs vs → ∀ (i : Nat) x, xs[i]? = some x → ∃ v, vs[i]? = some v ∧ AVR M ρ x v
  | [], _, _, i, x, hi => by simp at hi
  | y :: r, _, e, i, x, hi => by
    unfold AVRs at e
    obtain ⟨u, us, rfl, h1, h2⟩ := e
    cases i with
    | zero => simp at hi; subst hi; exact ⟨u, by simp, h1⟩
    | succ i => exact (AVRs.get h2 i x (by simpa using hi)).imp fun v hv => by simpa using hv
theorem AVRs.set {M : Mem} {ρ : Nam} : ∀ {xs : List AV} {vs : List Value}, AVRs M ρ xs vs → ∀ i x v, AVR M ρ x v → AVRs M ρ (xs.set i x) (vs.set i v)
  | [], _, e, i, x, v, h => by unfold AVRs at e; subst e; simp [AVRs]
  | y :: r, _, e, i, x, v, h => by
    unfold AVRs at e
    obtain ⟨u, us, rfl, h1, h2⟩ := e
    cases i with
    | zero => simp only [List.set_cons_zero]; unfold AVRs; exact ⟨v, us, rfl, h, h2⟩
    | succ i => simp only [List.set_cons_succ]; unfold AVRs; exact ⟨u, _, rfl, h1, AVRs.set h2 i x v h⟩
theorem AVRs.append {M : Mem} {ρ : Nam} : ∀ {xs ys : List AV} {vs us : List Value}, AVRs M ρ xs vs → AVRs M ρ ys us → AVRs M ρ (xs ++ ys) (vs ++ us)
  | [], _, _, _, e, h => by unfold AVRs at e; subst e; simpa using h
  | y :: r, _, _, _, e, h => by
    unfold AVRs at e
    obtain ⟨u, us, rfl, h1, h2⟩ := e
    simp only [List.cons_append]
    unfold AVRs
    exact ⟨u, _, rfl, h1, AVRs.append h2 h⟩
theorem AVRs.take {M : Mem} {ρ : Nam} : ∀ {xs : List AV} {vs : List Value} (n : Nat), AVRs M ρ xs vs → AVRs M ρ (xs.take n) (vs.take n)
  | _, _, 0, _ => by simp [AVRs]
  | [], _, n + 1, e => by unfold AVRs at e; subst e; simp [AVRs]
  | y :: r, _, n + 1, e => by
    unfold AVRs at e
    obtain ⟨u, us, rfl, h1, h2⟩ := e
    simp only [List.take_succ_cons]
    unfold AVRs
    exact ⟨u, _, rfl, h1, AVRs.take n h2⟩
theorem AVRs.drop {M : Mem} {ρ : Nam} : ∀ {xs : List AV} {vs : List Value} (n : Nat), AVRs M ρ xs vs → AVRs M ρ (xs.drop n) (vs.drop n)
  | _, _, 0, e => by simpa using e
  | [], _, n + 1, e => by unfold AVRs at e; subst e; simp [AVRs]
  | y :: r, _, n + 1, e => by
    unfold AVRs at e
    obtain ⟨u, us, rfl, h1, h2⟩ := e
    simp only [List.drop_succ_cons]
    exact AVRs.drop n h2
theorem AVRs_v {M : Mem} {ρ : Nam} : ∀ {xs : List FV} {vs : List Value}, AVRs M ρ (xs.map AV.v) vs ↔ FVRs M xs vs
  | [], vs => by simp [AVRs, FVRs]
  | x :: r, vs => by
    simp only [List.map_cons]
    unfold AVRs FVRs
    simp only [AVRs_v (xs := r)]
    constructor
    · rintro ⟨u, us, h1, h2, h3⟩; unfold AVR at h2; exact ⟨u, us, h1, h2, h3⟩
    · rintro ⟨u, us, h1, h2, h3⟩; exact ⟨u, us, h1, by unfold AVR; exact h2, h3⟩
theorem Cls.get {M : Mem} : ∀ {xs : List FV} {b o : Nat}, Cls M xs b o → ∀ (i : Nat) x, xs[i]? = some x → ∃ u, M b (o + i) = some u ∧ u.oneCell' = true ∧ FVR M x u
  | [], _, _, _, i, x, hi => by simp at hi
  | y :: r, b, o, e, i, x, hi => by
    unfold Cls at e
    obtain ⟨h1, h2⟩ := e
    cases i with
    | zero => simp at hi; subst hi; exact h1
    | succ i => have := Cls.get h2 i x (by simpa using hi); rwa [Nat.add_assoc, Nat.add_comm 1 i] at this
theorem Cls.drop {M : Mem} : ∀ {xs : List FV} {b o : Nat} (n : Nat), Cls M xs b o → Cls M (xs.drop n) b (o + n)
  | _, _, _, 0, e => by simpa using e
  | [], _, _, n + 1, e => by simp [Cls]
  | y :: r, b, o, n + 1, e => by
    unfold Cls at e
    have := Cls.drop n e.2
    rw [List.drop_succ_cons]
    rwa [Nat.add_assoc, Nat.add_comm 1 n] at this
theorem Rws.get {M : Mem} : ∀ {xs : List (List FV)} {b off sz : Nat}, Rws M xs b off sz → ∀ (i : Nat) c, xs[i]? = some c → c.length = sz ∧ Cls M c b (off + i * sz)
  | [], _, _, _, _, i, x, hi => by simp at hi
  | y :: r, b, off, sz, e, i, x, hi => by
    unfold Rws at e
    obtain ⟨h1, h2, h3⟩ := e
    cases i with
    | zero => simp at hi; subst hi; exact ⟨h1, by simpa using h2⟩
    | succ i =>
      have := Rws.get h3 i x (by simpa using hi)
      rwa [Nat.add_assoc, show sz + i * sz = (i + 1) * sz by rw [Nat.add_mul, Nat.one_mul, Nat.add_comm]] at this
theorem Rws.mk {M : Mem} {b sz : Nat} : ∀ {xs : List (List FV)} {off : Nat}, (∀ (i : Nat) c, xs[i]? = some c → c.length = sz ∧ Cls M c b (off + i * sz)) → Rws M xs b off sz
  | [], _, _ => by simp [Rws]
  | y :: r, off, h => by
    unfold Rws
    have h0 := h 0 y (by simp)
    refine ⟨h0.1, by simpa using h0.2, Rws.mk fun i c hi => ?_⟩
    have := h (i + 1) c (by simpa using hi)
    rwa [Nat.add_assoc, show sz + i * sz = (i + 1) * sz by rw [Nat.add_mul, Nat.one_mul, Nat.add_comm]]
theorem Rws.drop {M : Mem} {xs : List (List FV)} {b off sz : Nat} (h : Rws M xs b off sz) (n : Nat) : Rws M (xs.drop n) b (off + n * sz) sz :=
  Rws.mk fun i c hi => by
    rw [List.getElem?_drop] at hi
    have := h.get (n + i) c hi
    rwa [Nat.add_assoc, ← Nat.add_mul]
theorem Rws.take {M : Mem} {xs : List (List FV)} {b off sz : Nat} (h : Rws M xs b off sz) (n : Nat) : Rws M (xs.take n) b off sz :=
  Rws.mk fun i c hi => h.get i c (by rw [List.getElem?_take] at hi; split at hi <;> simp_all)
theorem Rws.append {M : Mem} {xs ys : List (List FV)} {b off sz : Nat} (h : Rws M xs b off sz) (k : Rws M ys b (off + xs.length * sz) sz) : Rws M (xs ++ ys) b off sz :=
  Rws.mk fun i c hi => by
    rcases Nat.lt_or_ge i xs.length with hl | hl
    · rw [List.getElem?_append_left hl] at hi; exact h.get i c hi
    · rw [List.getElem?_append_right hl] at hi
      have := k.get _ c hi
      rwa [Nat.add_assoc, ← Nat.add_mul, Nat.add_sub_cancel' hl] at this
end Go.Pav
namespace Go.Pav
open Go.RowKit

/-- One's own: boxes and their cells; tokens: what their slice holds, its elements' type and size; the names in use. -/
structure View where
  H : Nat → Option (List AV)
  T : Nat → Option (List (List FV) × TypeId × Nat)
  U : Nat → Bool

/-- A token whose elements' type is marked so has one element more, which may still be written; one that is marked so twice is a map. -/
def BIG : Nat := 1099511627776
def BIG2 : Nat := 2199023255552
def plen (e : TypeId) (n : Nat) : Nat := if e < BIG then n else if e < BIG2 then n + 1 else 0
def realE (e : TypeId) : TypeId := if e < BIG then e else e - BIG
/-- Without what may still be written. -/
def headV (v : Value) (n : Nat) : Value := match v with | .slice a _ c => .slice a n c | v => v
def slv (e : TypeId) (i : Tok) (n : Nat) : Value := if e < BIG then i.val n else if e < BIG2 then headV (i.val (n + 1)) n else i.val 0
def eff (e : TypeId) (xs : List (List FV)) : List (List FV) := if e < BIG2 then xs else []
/-- What a token's block holds: cells, or a map's entries. -/
def ObjOk (M : Mem) (e : TypeId) (xs : List (List FV)) (cur : Array Value) (o : Obj) : Prop :=
  if e < BIG2 then o = .cells cur (realE e) (0, 0) else ∃ es : Array MapEntry, o = .map es xs.length ∧ es.size = xs.length ∧ ∀ (i : Nat) r, xs[i]? = some r → ∃ k v, es[i]? = some ⟨k, v, i⟩ ∧ FVRs M r [k, v]
def HOk (M : Mem) (w : World) (g : Nat) (e : TypeId) (xs : List (List FV)) (cur : Array Value) : Prop := ∃ o, w.heap[g]? = some o ∧ ObjOk M e xs cur o
theorem HOk.lt {M : Mem} {w : World} {g : Nat} {e : TypeId} {xs : List (List FV)} {cur : Array Value} (h : HOk M w g e xs cur) : g < w.heap.size := by
  obtain ⟨o, h1, _⟩ := h
  exact (Array.getElem?_eq_some_iff.1 h1).1
theorem ObjOk.mono {M M' : Mem} {e : TypeId} {xs : List (List FV)} {cur : Array Value} {o : Obj} (hM : M.le M') (h : ObjOk M e xs cur o) : ObjOk M' e xs cur o := by
  unfold ObjOk at h ⊢
  split
  · rename_i he; rw [if_pos he] at h; exact h
  · rename_i he
    rw [if_neg he] at h
    obtain ⟨es, h1, h2, h3⟩ := h
    exact ⟨es, h1, h2, fun i r hi => by obtain ⟨k, v, h4, h5⟩ := h3 i r hi; exact ⟨k, v, h4, FVRs.mono hM _ _ h5⟩⟩
theorem HOk.tr {M M' : Mem} {w w' : World} {g : Nat} {e : TypeId} {xs : List (List FV)} {cur : Array Value} (hw : w'.heap[g]? = w.heap[g]?) (hM : M.le M') (h : HOk M w g e xs cur) : HOk M' w' g e xs cur := by
  obtain ⟨o, h1, h2⟩ := h
  exact ⟨o, hw.trans h1, h2.mono hM⟩
theorem HOk.cells {M : Mem} {w : World} {g : Nat} {e : TypeId} {xs : List (List FV)} {cur : Array Value} (he : e < BIG2) (h : HOk M w g e xs cur) : w.heap[g]? = some (.cells cur (realE e) (0, 0)) := by
  obtain ⟨o, h1, h2⟩ := h
  unfold ObjOk at h2
  rw [if_pos he] at h2
  rw [h1, h2]
theorem HOk.ofCells {M : Mem} {w : World} {g : Nat} {e : TypeId} {xs : List (List FV)} {cur : Array Value} (he : e < BIG2) (h : w.heap[g]? = some (.cells cur (realE e) (0, 0))) : HOk M w g e xs cur := ⟨_, h, by unfold ObjOk; rw [if_pos he]⟩
theorem big_lt {e : Nat} (h : e < BIG) : e < BIG2 := by unfold BIG at h; unfold BIG2; omega
theorem big_lt2 {e : Nat} (h : e < BIG) : e + BIG < BIG2 := by unfold BIG at *; unfold BIG2; omega
theorem nbig2 : ¬ (BIG2 < BIG) := by decide
theorem plen_of {e : TypeId} (h : e < BIG) (n : Nat) : plen e n = n := if_pos h
theorem realE_of {e : TypeId} (h : e < BIG) : realE e = e := if_pos h
theorem slv_of {e : TypeId} (h : e < BIG) (i : Tok) (n : Nat) : slv e i n = i.val n := if_pos h
theorem eff_of {e : TypeId} (h : e < BIG2) (xs : List (List FV)) : eff e xs = xs := if_pos h
theorem nbig (e : Nat) : ¬ (e + BIG < BIG) := Nat.not_lt.2 (Nat.le_add_left _ _)
theorem plen_big {e : Nat} (h : e < BIG) (n : Nat) : plen (e + BIG) n = n + 1 := (if_neg (nbig e)).trans (if_pos (big_lt2 h))
theorem realE_big (e : Nat) : realE (e + BIG) = e := by unfold realE; rw [if_neg (nbig e)]; exact Nat.add_sub_cancel _ _
theorem slv_big {e : Nat} (h : e < BIG) (i : Tok) (n : Nat) : slv (e + BIG) i n = headV (i.val (n + 1)) n := (if_neg (nbig e)).trans (if_pos (big_lt2 h))
theorem plen_le {e : Nat} (h : e < BIG2) (n : Nat) : n ≤ plen e n := by unfold plen; split <;> (try split) <;> omega
/-- What a token's state says of the world. -/
def TokOk (M : Mem) (w : World) (i : Tok) (xs : List (List FV)) (e : TypeId) (sz : Nat) : Prop :=
  i.len = plen e xs.length ∧ match i.own with
  | none => e < BIG ∧ ∃ a, i.val xs.length = .slice a xs.length xs.length
  | some g => ∃ cap cur, i.val (plen e xs.length) = .slice (some ⟨g, 0, none⟩) (plen e xs.length) cap ∧ HOk M w g e xs cur ∧ plen e xs.length ≤ cap ∧ cap ≤ maxLen ∧ cur.size = cap * sz ∧ ∀ o, xs.length * sz ≤ o → M g o = none

/-- A block that is one's own, to be written. -/
def Owned (ρ : Nam) (S : View) (b : Nat) : Prop :=
  (∃ l cs, S.H l = some cs ∧ ρ.box l = some b) ∨ (∃ t x i, S.T t = some x ∧ ρ.tok t = some i ∧ i.own = some b)

structure St (M : Mem) (ρ : Nam) (w : World) (S : View) : Prop where
  mem : ∀ b o v, M b o = some v → w.cell? ⟨b, o, none⟩ = some v
  box : ∀ l cs, S.H l = some cs → ∃ b c ty, ρ.box l = some b ∧ w.heap[b]? = some (.cells c ty (0, 0)) ∧ AVRs M ρ cs c.toList ∧ (∀ u ∈ c.toList, u.oneCell' = true) ∧ ∀ o, M b o = none
  tok : ∀ t xs e sz, S.T t = some (xs, e, sz) → ∃ i, ρ.tok t = some i ∧ FVR M (.sl .some (eff e xs)) (slv e i xs.length) ∧ (∀ c ∈ xs, c.length = sz) ∧ TokOk M w i xs e sz
  boxes : ∀ l l' b cs cs', S.H l = some cs → S.H l' = some cs' → ρ.box l = some b → ρ.box l' = some b → l = l'
  toks : ∀ t t' x x' i i' b, S.T t = some x → S.T t' = some x' → ρ.tok t = some i → ρ.tok t' = some i' → i.own = some b → i'.own = some b → t = t'
  mixed : ∀ l t cs x i b, S.H l = some cs → S.T t = some x → ρ.box l = some b → ρ.tok t = some i → i.own = some b → False
  free : ∀ n, S.U n = false → ρ.box n = none ∧ ρ.tok n = none
  freeH : ∀ n, S.U n = false → S.H n = none ∧ S.T n = none

/-- What was there and isn't of O is as it was; more is known. -/
structure Fr (M : Mem) (w : World) (M' : Mem) (w' : World) (O : Nat → Prop) : Prop where
  os : w'.os = w.os
  tape : w'.tape = w.tape
  output : w'.output = w.output
  size : w.heap.size ≤ w'.heap.size
  block : ∀ b, b < w.heap.size → ¬ O b → w'.heap[b]? = w.heap[b]?
  mem : M.le M'
  memf : ∀ b, b < w.heap.size → ¬ O b → ∀ o, M' b o = M b o

theorem Fr.refl (M : Mem) (w : World) (O : Nat → Prop) : Fr M w M w O := ⟨rfl, rfl, rfl, Nat.le_refl _, fun _ _ _ => rfl, M.le_refl, fun _ _ _ _ => rfl⟩
theorem Fr.trans {M M1 M2 : Mem} {w w1 w2 : World} {O O1 : Nat → Prop} (h : Fr M w M1 w1 O) (k : Fr M1 w1 M2 w2 O1) (hO : ∀ b, O1 b → O b ∨ w.heap.size ≤ b) : Fr M w M2 w2 O :=
  ⟨k.os.trans h.os, k.tape.trans h.tape, k.output.trans h.output, Nat.le_trans h.size k.size,
    fun b hb hn => (k.block b (Nat.lt_of_lt_of_le hb h.size) (fun ho => (hO b ho).elim hn (fun hl => by omega))).trans (h.block b hb hn),
    Mem.le_trans h.mem k.mem,
    fun b hb hn o => (k.memf b (Nat.lt_of_lt_of_le hb h.size) (fun ho => (hO b ho).elim hn (fun hl => by omega)) o).trans (h.memf b hb hn o)⟩
theorem Fr.mono {M M' : Mem} {w w' : World} {O O' : Nat → Prop} (h : Fr M w M' w' O) (hO : ∀ b, O b → O' b) : Fr M w M' w' O' :=
  ⟨h.os, h.tape, h.output, h.size, fun b hb hn => h.block b hb (fun ho => hn (hO b ho)), h.mem, fun b hb hn => h.memf b hb (fun ho => hn (hO b ho))⟩

/-- One step: from (M, ρ, w) with S to (M', ρ', w') with S'. -/
structure Nx (M : Mem) (ρ : Nam) (w : World) (S : View) (M' : Mem) (ρ' : Nam) (w' : World) (S' : View) : Prop where
  st : St M' ρ' w' S'
  fr : Fr M w M' w' (Owned ρ S)
  own : ∀ b, Owned ρ' S' b → Owned ρ S b ∨ w.heap.size ≤ b

theorem Nx.refl {M : Mem} {ρ : Nam} {w : World} {S : View} (h : St M ρ w S) : Nx M ρ w S M ρ w S := ⟨h, Fr.refl _ _ _, fun _ hb => .inl hb⟩
theorem Nx.trans {M M1 M2 : Mem} {ρ ρ1 ρ2 : Nam} {w w1 w2 : World} {S S1 S2 : View} (h : Nx M ρ w S M1 ρ1 w1 S1) (k : Nx M1 ρ1 w1 S1 M2 ρ2 w2 S2) : Nx M ρ w S M2 ρ2 w2 S2 :=
  ⟨k.st, h.fr.trans k.fr h.own, fun b hb => (k.own b hb).elim (h.own b) (fun hl => .inr (Nat.le_trans h.fr.size hl))⟩

/-! ### a block that is one's own exists, and nothing of it is known for ever (a box), or its head alone (a token) -/
theorem St.owned_lt {M : Mem} {ρ : Nam} {w : World} {S : View} (h : St M ρ w S) {b : Nat} (hb : Owned ρ S b) : b < w.heap.size := by
  rcases hb with ⟨l, cs, h1, h2⟩ | ⟨t, x, i, h1, h2, h3⟩
  · obtain ⟨b', c, ty, h4, h5, _⟩ := h.box l cs h1
    rw [h2] at h4
    obtain rfl := Option.some.inj h4
    exact (Array.getElem?_eq_some_iff.1 h5).1
  · obtain ⟨xs, e, sz⟩ := x
    obtain ⟨i', h4, _, _, h5⟩ := h.tok t xs e sz h1
    rw [h2] at h4
    obtain rfl := Option.some.inj h4
    unfold TokOk at h5
    rw [h3] at h5
    obtain ⟨_, cap, cur, _, h6, _⟩ := h5
    exact h6.lt
theorem St.mem_lt {M : Mem} {ρ : Nam} {w : World} {S : View} (h : St M ρ w S) {b o : Nat} {v : Value} (hv : M b o = some v) : b < w.heap.size :=
  World.block_lt_of_cell? w _ (h.mem b o v hv)
theorem St.mem_new {M : Mem} {ρ : Nam} {w : World} {S : View} (h : St M ρ w S) {b : Nat} (hb : w.heap.size ≤ b) (o : Nat) : M b o = none := by
  cases hv : M b o with
  | none => rfl
  | some v => have := h.mem_lt hv; omega

/-- The world has grown, or been drawn from: what was there is as it was. -/
theorem St.grow {M : Mem} {ρ : Nam} {w w' : World} {S : View} (h : St M ρ w S) (hb : ∀ b, b < w.heap.size → w'.heap[b]? = w.heap[b]?) : St M ρ w' S where
  mem := fun b o v hv => (World.cell?_of_block (w := w) (w' := w') (a := ⟨b, o, none⟩) (hb b (h.mem_lt hv))).trans (h.mem b o v hv)
  box := fun l cs hl => by
    obtain ⟨b, c, ty, h1, h2, h3⟩ := h.box l cs hl
    exact ⟨b, c, ty, h1, (hb b (Array.getElem?_eq_some_iff.1 h2).1).trans h2, h3⟩
  tok := fun t xs e sz ht => by
    obtain ⟨i, h1, h2, hr, h3, h4⟩ := h.tok t xs e sz ht
    refine ⟨i, h1, h2, hr, h3, ?_⟩
    cases ho : i.own with
    | none => rw [ho] at h4; exact h4
    | some g =>
      rw [ho] at h4
      obtain ⟨cap, cur, h5, h6, h7⟩ := h4
      exact ⟨cap, cur, h5, h6.tr (hb g h6.lt) M.le_refl, h7⟩
  boxes := h.boxes
  toks := h.toks
  mixed := h.mixed
  free := h.free
  freeH := h.freeH

theorem Nx.grow {M : Mem} {ρ : Nam} {w w' : World} {S : View} (h : St M ρ w S) (hb : ∀ b, b < w.heap.size → w'.heap[b]? = w.heap[b]?) (ho : w'.os = w.os) (ht : w'.tape = w.tape) (hu : w'.output = w.output) (hs : w.heap.size ≤ w'.heap.size) : Nx M ρ w S M ρ w' S :=
  ⟨h.grow hb, ⟨ho, ht, hu, hs, fun b hlt _ => hb b hlt, M.le_refl, fun _ _ _ _ => rfl⟩, fun _ hb => .inl hb⟩
theorem Nx.drew {M : Mem} {ρ : Nam} {w : World} {S : View} (h : St M ρ w S) : Nx M ρ w S M ρ w.drew S := Nx.grow h (fun _ _ => rfl) rfl rfl rfl (Nat.le_refl _)

/-! ### a new box -/
def View.addBox (S : View) (l : Nat) (cs : List AV) : View := { S with H := fun n => if n = l then some cs else S.H n, U := fun n => n == l || S.U n }
def Nam.addBox (ρ : Nam) (l b : Nat) : Nam := { ρ with box := fun n => if n = l then some b else ρ.box n }
theorem Nam.le_addBox {ρ : Nam} {l b : Nat} (h : ρ.box l = none) : ρ.le (ρ.addBox l b) := ⟨fun n c hn => by
    simp only [Nam.addBox]
    split
    · rename_i e; subst e; rw [h] at hn; cases hn
    · exact hn, fun t i hi => ⟨i, hi, Nat.le_refl _, fun _ _ => rfl⟩⟩
theorem Nx.addBox {M : Mem} {ρ : Nam} {w : World} {S : View} (h : St M ρ w S) (l : Nat) (hl : S.U l = false) (cs : List AV) (c : Array Value) (ty : TypeId) (hc : AVRs M ρ cs c.toList) (h1 : ∀ u ∈ c.toList, u.oneCell' = true) :
    Nx M ρ w S M (ρ.addBox l w.heap.size) (w.alloc (.cells c ty)) (S.addBox l cs) := by
  have hold : ∀ b, b < w.heap.size → (w.alloc (.cells c ty)).heap[b]? = w.heap[b]? := fun b hb => Below.heap_alloc w _ b hb
  have hle : ρ.le (ρ.addBox l w.heap.size) := Nam.le_addBox (h.free l hl).1
  have hg := h.grow hold
  have hS : S.H l = none := (h.freeH l hl).1
  have hlt : ∀ n b cs, S.H n = some cs → ρ.box n = some b → b < w.heap.size := fun n b cs h2 h3 => h.owned_lt (.inl ⟨n, cs, h2, h3⟩)
  refine ⟨⟨hg.mem, ?_, ?_, ?_, h.toks, ?_, ?_, ?_⟩, ⟨rfl, rfl, rfl, by simp, fun b hb _ => hold b hb, M.le_refl, fun _ _ _ _ => rfl⟩, ?_⟩
  · intro n ds hn
    simp only [View.addBox] at hn
    split at hn
    · rename_i e
      subst e
      obtain rfl := Option.some.inj hn
      exact ⟨w.heap.size, c, ty, by simp [Nam.addBox], heap_alloc_new w _, AVRs.mono M.le_refl hle _ _ hc, h1, fun o => h.mem_new (Nat.le_refl _) o⟩
    · obtain ⟨b, c', ty', h2, h3, h4, h5⟩ := hg.box n ds hn
      exact ⟨b, c', ty', hle.box n b h2, h3, AVRs.mono M.le_refl hle _ _ h4, h5⟩
  · intro t xs e sz ht
    exact hg.tok t xs e sz ht
  · intro n n' b ds ds' hn hn' hb hb'
    simp only [View.addBox, Nam.addBox] at hn hn' hb hb'
    split at hn <;> split at hn' <;> rename_i e e'
    · rw [e, e']
    · simp only [e, if_true, e', if_false] at hb hb'
      have := hlt n' b ds' hn' hb'
      obtain rfl := Option.some.inj hb
      omega
    · simp only [e, if_false, e', if_true] at hb hb'
      have := hlt n b ds hn hb
      obtain rfl := Option.some.inj hb'
      omega
    · simp only [e, e', if_false] at hb hb'
      exact h.boxes n n' b ds ds' hn hn' hb hb'
  · intro n t ds x i b hn ht hb hi ho
    simp only [View.addBox, Nam.addBox] at hn hb ht hi
    split at hn <;> rename_i e
    · simp only [e, if_true] at hb
      obtain rfl := Option.some.inj hb
      have := h.owned_lt (.inr ⟨t, x, i, ht, hi, ho⟩)
      omega
    · simp only [e, if_false] at hb
      exact h.mixed n t ds x i b hn ht hb hi ho
  · intro n hn
    simp only [View.addBox, Bool.or_eq_false_iff, beq_eq_false_iff_ne] at hn
    have := h.free n hn.2
    simp only [Nam.addBox, if_neg hn.1]
    exact this
  · intro n hn
    simp only [View.addBox, Bool.or_eq_false_iff, beq_eq_false_iff_ne] at hn
    have := h.freeH n hn.2
    simp only [View.addBox, if_neg hn.1]
    exact this
  · intro b hb
    rcases hb with ⟨n, ds, h2, h3⟩ | ⟨t, x, i, h2, h3, h4⟩
    · simp only [View.addBox, Nam.addBox] at h2 h3
      split at h2 <;> rename_i e
      · simp only [e, if_true] at h3
        exact .inr (by rw [← Option.some.inj h3]; exact Nat.le_refl _)
      · simp only [e, if_false] at h3
        exact .inl (.inl ⟨n, ds, h2, h3⟩)
    · exact .inl (.inr ⟨t, x, i, h2, h3, h4⟩)

/-! ### a box is written -/
def View.setBox (S : View) (l : Nat) (cs : List AV) : View := { S with H := fun n => if n = l then some cs else S.H n }
theorem View.setBox_some {S : View} {l n : Nat} {cs cs0 ds : List AV} (h : (S.setBox l cs).H n = some ds) (hl : S.H l = some cs0) : ∃ d, S.H n = some d := by
  simp only [View.setBox] at h
  split at h
  · rename_i e
    exact ⟨cs0, e ▸ hl⟩
  · exact ⟨ds, h⟩
theorem Nx.setBox {M : Mem} {ρ : Nam} {w w' : World} {S : View} (h : St M ρ w S) (l b : Nat) (cs0 cs : List AV) (hl : S.H l = some cs0) (hb : ρ.box l = some b) (c : Array Value) (ty : TypeId)
    (hw : w'.heap[b]? = some (.cells c ty (0, 0))) (hold : ∀ k, k ≠ b → w'.heap[k]? = w.heap[k]?) (hos : w'.os = w.os) (hta : w'.tape = w.tape) (hou : w'.output = w.output) (hsz : w'.heap.size = w.heap.size)
    (hc : AVRs M ρ cs c.toList) (h1 : ∀ u ∈ c.toList, u.oneCell' = true) :
    Nx M ρ w S M ρ w' (S.setBox l cs) := by
  obtain ⟨b0, c0, ty0, h2, h3, h4, h5, h6⟩ := h.box l cs0 hl
  rw [hb] at h2
  obtain rfl := Option.some.inj h2
  have hown : Owned ρ S b := .inl ⟨l, cs0, hl, hb⟩
  refine ⟨⟨?_, ?_, ?_, ?_, h.toks, ?_, h.free, ?_⟩, ⟨hos, hta, hou, by omega, fun k _ hk => hold k (fun e => hk (e ▸ hown)), M.le_refl, fun _ _ _ _ => rfl⟩, ?_⟩
  · intro k o v hv
    have hne : k ≠ b := fun e => by rw [e, h6 o] at hv; cases hv
    exact (World.cell?_of_block (w := w) (w' := w') (a := ⟨k, o, none⟩) (hold k hne)).trans (h.mem k o v hv)
  · intro n ds hn
    simp only [View.setBox] at hn
    split at hn
    · rename_i e
      subst e
      obtain rfl := Option.some.inj hn
      exact ⟨b, c, ty, hb, hw, hc, h1, h6⟩
    · rename_i e
      obtain ⟨k, c', ty', h7, h8, h9⟩ := h.box n ds hn
      exact ⟨k, c', ty', h7, (hold k (fun e' => e (h.boxes n l b ds cs0 hn hl (e' ▸ h7) hb))).trans h8, h9⟩
  · intro t xs e sz ht
    obtain ⟨i, h7, h8, hr, h9, h10⟩ := h.tok t xs e sz ht
    refine ⟨i, h7, h8, hr, h9, ?_⟩
    cases ho : i.own with
    | none => rw [ho] at h10; exact h10
    | some g =>
      rw [ho] at h10
      obtain ⟨cap, cur, h11, h12, h13⟩ := h10
      exact ⟨cap, cur, h11, h12.tr (hold g (fun e' => h.mixed l t cs0 _ i b hl ht hb h7 (e' ▸ ho))) M.le_refl, h13⟩
  · intro n n' k ds ds' hn hn' hb1 hb2
    have e1 := View.setBox_some hn hl
    have e2 := View.setBox_some hn' hl
    exact h.boxes n n' k _ _ e1.choose_spec e2.choose_spec hb1 hb2
  · intro n t ds x i k hn ht hb1 hi ho
    have e1 := View.setBox_some hn hl
    exact h.mixed n t _ x i k e1.choose_spec ht hb1 hi ho
  · intro n hn
    have := h.freeH n hn
    simp only [View.setBox]
    split
    · rename_i e; rw [e, hl] at this; cases this.1
    · exact this
  · intro k hk
    rcases hk with ⟨n, ds, h7, h8⟩ | ⟨t, x, i, h7, h8, h9⟩
    · have e1 := View.setBox_some h7 hl
      exact .inl (.inl ⟨n, _, e1.choose_spec, h8⟩)
    · exact .inl (.inr ⟨t, x, i, h7, h8, h9⟩)

/-! ### a new block that is known for ever -/
def Mem.addBlock (M : Mem) (b : Nat) (cs : List Value) : Mem := fun k o => if k = b then cs[o]? else M k o
theorem Nx.addFrozen {M : Mem} {ρ : Nam} {w : World} {S : View} (h : St M ρ w S) (c : Array Value) (ty : TypeId) :
    Nx M ρ w S (M.addBlock w.heap.size c.toList) ρ (w.alloc (.cells c ty)) S := by
  have hold : ∀ b, b < w.heap.size → (w.alloc (.cells c ty)).heap[b]? = w.heap[b]? := fun b hb => Below.heap_alloc w _ b hb
  have hle : M.le (M.addBlock w.heap.size c.toList) := fun b o v hv => by
    simp only [Mem.addBlock]
    rw [if_neg (by have := h.mem_lt hv; omega)]
    exact hv
  have hsame : ∀ b, b < w.heap.size → ∀ o, M.addBlock w.heap.size c.toList b o = M b o := fun b hb o => by simp only [Mem.addBlock]; rw [if_neg (by omega)]
  have hg := h.grow hold
  refine ⟨⟨?_, ?_, ?_, h.boxes, h.toks, h.mixed, h.free, h.freeH⟩, ⟨rfl, rfl, rfl, by simp, fun b hb _ => hold b hb, hle, fun b hb _ o => hsame b hb o⟩, fun _ hb => .inl hb⟩
  · intro b o v hv
    simp only [Mem.addBlock] at hv
    split at hv
    · rename_i e
      subst e
      rw [cell_of_row _ _ o c ty (0, 0) (heap_alloc_new w _)]
      simpa using hv
    · exact hg.mem b o v hv
  · intro l cs hl
    obtain ⟨b, c', ty', h1, h2, h3, h4, h5⟩ := hg.box l cs hl
    have hb : b < w.heap.size := h.owned_lt (.inl ⟨l, cs, hl, h1⟩)
    exact ⟨b, c', ty', h1, h2, AVRs.mono hle ρ.le_refl _ _ h3, h4, fun o => (hsame b hb o).trans (h5 o)⟩
  · intro t xs e sz ht
    obtain ⟨i, h1, h2, hr, h3, h4⟩ := hg.tok t xs e sz ht
    refine ⟨i, h1, FVR.mono hle _ _ h2, hr, h3, ?_⟩
    cases ho : i.own with
    | none => rw [ho] at h4; exact h4
    | some g =>
      rw [ho] at h4
      obtain ⟨cap, cur, h5, h6, h7, h8, h9, h10⟩ := h4
      have hb : g < w.heap.size := h.owned_lt (.inr ⟨t, _, i, ht, h1, ho⟩)
      exact ⟨cap, cur, h5, h6.tr rfl hle, h7, h8, h9, fun o hn => (hsame g hb o).trans (h10 o hn)⟩
end Go.Pav
namespace Go.Pav
open Go.RowKit

/-- The cells cs are the rows xs, sz cells each. -/
def RowsOf (M : Mem) (xs : List (List FV)) (cs : List Value) (sz : Nat) : Prop :=
  cs.length = xs.length * sz ∧ ∀ (r : Nat) c, xs[r]? = some c → c.length = sz ∧ ∀ (j : Nat) x, c[j]? = some x → ∃ u, cs[r * sz + j]? = some u ∧ u.oneCell' = true ∧ FVR M x u

theorem RowsOf.mono {M M' : Mem} (h : M.le M') {xs : List (List FV)} {cs : List Value} {sz : Nat} (k : RowsOf M xs cs sz) : RowsOf M' xs cs sz :=
  ⟨k.1, fun r c hr => ⟨(k.2 r c hr).1, fun j x hj => by
    obtain ⟨u, h1, h2, h3⟩ := (k.2 r c hr).2 j x hj
    exact ⟨u, h1, h2, FVR.mono h _ _ h3⟩⟩⟩
theorem RowsOf.nil (M : Mem) (sz : Nat) : RowsOf M [] [] sz := ⟨by simp, fun r c hr => by simp at hr⟩
theorem RowsOf.one {M : Mem} : ∀ {c : List FV} {cs : List Value}, FVRs M c cs → (∀ u ∈ cs, u.oneCell' = true) → RowsOf M [c] cs c.length
  | c, cs, h, h1 => ⟨by simp [FVRs.len h], fun r d hr => by
      cases r with
      | zero =>
        simp at hr
        subst hr
        refine ⟨rfl, fun j x hj => ?_⟩
        obtain ⟨u, h2, h3⟩ := FVRs.get h j x hj
        exact ⟨u, by simpa using h2, h1 u (List.mem_of_getElem? h2), h3⟩
      | succ r => simp at hr⟩
theorem RowsOf.append {M : Mem} {xs ys : List (List FV)} {cs ds : List Value} {sz : Nat} (h : RowsOf M xs cs sz) (k : RowsOf M ys ds sz) : RowsOf M (xs ++ ys) (cs ++ ds) sz := by
  refine ⟨by simp [h.1, k.1, Nat.add_mul], fun r c hr => ?_⟩
  rcases Nat.lt_or_ge r xs.length with hl | hl
  · rw [List.getElem?_append_left hl] at hr
    obtain ⟨h1, h2⟩ := h.2 r c hr
    refine ⟨h1, fun j x hj => ?_⟩
    obtain ⟨u, h3, h4⟩ := h2 j x hj
    exact ⟨u, by rw [List.getElem?_append_left (List.getElem?_eq_some_iff.1 h3).1]; exact h3, h4⟩
  · rw [List.getElem?_append_right hl] at hr
    obtain ⟨h1, h2⟩ := k.2 _ c hr
    refine ⟨h1, fun j x hj => ?_⟩
    obtain ⟨u, h3, h4⟩ := h2 j x hj
    have e : r * sz = xs.length * sz + (r - xs.length) * sz := by rw [← Nat.add_mul, Nat.add_sub_cancel' hl]
    refine ⟨u, ?_, h4⟩
    rw [List.getElem?_append_right (by rw [h.1]; omega), h.1]
    rw [show r * sz + j - xs.length * sz = (r - xs.length) * sz + j by omega]
    exact h3
theorem RowsOf.oneCell {M : Mem} {xs : List (List FV)} {cs : List Value} {sz : Nat} (h : RowsOf M xs cs sz) : ∀ u ∈ cs, u.oneCell' = true := by
  intro u hu
  obtain ⟨o, ho⟩ := List.getElem?_of_mem hu
  have hlt : o < xs.length * sz := by have := (List.getElem?_eq_some_iff.1 ho).1; rw [h.1] at this; exact this
  have hsz : 0 < sz := Nat.pos_of_ne_zero fun e => by subst e; simp at hlt
  have hr : o / sz < xs.length := (Nat.div_lt_iff_lt_mul hsz).2 hlt
  obtain ⟨h1, h2⟩ := h.2 (o / sz) _ (List.getElem?_eq_getElem hr)
  have hj : o % sz < (xs[o / sz]).length := by rw [h1]; exact Nat.mod_lt _ hsz
  obtain ⟨u', h3, h4, _⟩ := h2 (o % sz) _ (List.getElem?_eq_getElem hj)
  rw [Nat.mul_comm, Nat.div_add_mod, ho] at h3
  rw [Option.some.inj h3]
  exact h4
/-- Rows that lie at the head of a block that is known. -/
theorem RowsOf.rws {M : Mem} {xs : List (List FV)} {cs : List Value} {sz g : Nat} (h : RowsOf M xs cs sz) (hM : ∀ (o : Nat) u, cs[o]? = some u → M g o = some u) : Rws M xs g 0 sz :=
  Rws.mk fun i c hi => by
    obtain ⟨h1, h2⟩ := h.2 i c hi
    refine ⟨h1, ?_⟩
    rw [Nat.zero_add]
    have key : ∀ (d : List FV) (k : Nat), (∀ (j : Nat) x, d[j]? = some x → ∃ u, cs[i * sz + (k + j)]? = some u ∧ u.oneCell' = true ∧ FVR M x u) → Cls M d g (i * sz + k) := by
      intro d
      induction d with
      | nil => intro k _; unfold Cls; trivial
      | cons x r ih =>
        intro k hk
        unfold Cls
        obtain ⟨u, h3, h4, h5⟩ := hk 0 x (by simp)
        refine ⟨⟨u, hM _ u (by simpa using h3), h4, h5⟩, ?_⟩
        rw [Nat.add_assoc]
        refine ih (k + 1) fun j y hj => ?_
        have := hk (j + 1) y (by simpa using hj)
        rwa [show k + 1 + j = k + (j + 1) by omega]
    simpa using key c 0 (by simpa using h2)
/-- Rows that are known, as a list of cells that the world holds. -/
theorem Rws.cells {M : Mem} {w : World} (hm : ∀ b o v, M b o = some v → w.cell? ⟨b, o, none⟩ = some v) {xs : List (List FV)} {b off sz sz' : Nat} (h : Rws M xs b off sz) (hx : ∀ c ∈ xs, c.length = sz') :
    ∃ cs, RowsOf M xs cs sz' ∧ ∀ (j : Nat) u, cs[j]? = some u → w.cell? ((⟨b, off, none⟩ : Addr).add j) = some u ∧ M b (off + j) = some u := by
  have hM : ∀ j, j < xs.length * sz' → ∃ u, M b (off + j) = some u := by
    intro j hj
    have hsz : 0 < sz' := Nat.pos_of_ne_zero fun e => by subst e; simp at hj
    have hr : j / sz' < xs.length := (Nat.div_lt_iff_lt_mul hsz).2 hj
    obtain ⟨h1, h2⟩ := h.get (j / sz') _ (List.getElem?_eq_getElem hr)
    have e : sz = sz' := by rw [← h1]; exact hx _ (List.getElem_mem hr)
    subst e
    have hj' : j % sz < (xs[j / sz]).length := by rw [h1]; exact Nat.mod_lt _ hsz
    obtain ⟨u, h3, _⟩ := h2.get (j % sz) _ (List.getElem?_eq_getElem hj')
    rw [Nat.add_assoc, Nat.mul_comm, Nat.div_add_mod] at h3
    exact ⟨u, h3⟩
  refine ⟨(List.range (xs.length * sz')).map fun j => (M b (off + j)).getD undef, ⟨by simp, fun r c hr => ?_⟩, fun j u hu => ?_⟩
  · obtain ⟨h1, h2⟩ := h.get r c hr
    have hc := hx c (List.mem_of_getElem? hr)
    have e : sz = sz' := by rw [← h1]; exact hc
    subst e
    refine ⟨hc, fun j x hj => ?_⟩
    obtain ⟨u, h3, h4, h5⟩ := h2.get j x hj
    have hlt : r * sz + j < xs.length * sz := by
      have a1 := (List.getElem?_eq_some_iff.1 hr).1
      have a2 := (List.getElem?_eq_some_iff.1 hj).1
      have : (r + 1) * sz ≤ xs.length * sz := Nat.mul_le_mul_right _ a1
      rw [Nat.add_mul, Nat.one_mul] at this
      omega
    refine ⟨u, ?_, h4, h5⟩
    rw [List.getElem?_map, List.getElem?_range hlt, Option.map_some, ← Nat.add_assoc, h3]
    rfl
  · have hlt : j < xs.length * sz' := by have := (List.getElem?_eq_some_iff.1 hu).1; simpa using this
    rw [List.getElem?_map, List.getElem?_range hlt, Option.map_some] at hu
    obtain ⟨u', hu'⟩ := hM j hlt
    rw [hu'] at hu
    obtain rfl := Option.some.inj hu
    simp only [Option.getD_some]
    exact ⟨by rw [Addr.add_lit]; exact hm _ _ _ hu', hu'⟩
/-- A slice that is known, as a list of cells that the world holds. -/
theorem FVR.sl_cells {M : Mem} {w : World} (hm : ∀ b o v, M b o = some v → w.cell? ⟨b, o, none⟩ = some v) {k : SK} {xs : List (List FV)} {v : Value} (h : FVR M (.sl k xs) v) {sz : Nat} (hx : ∀ c ∈ xs, c.length = sz) :
    ∃ a n c cs, v = .slice a n c ∧ n = xs.length ∧ (n ≤ c ∧ n ≤ 140737488355328) ∧ k.ok a n c ∧ (a = none → c = 0) ∧ RowsOf M xs cs sz ∧ ∀ ad, a = some ad → ∀ (j : Nat) u, cs[j]? = some u → w.cell? (ad.add j) = some u ∧ M ad.block (ad.off + j) = some u := by
  unfold FVR at h
  obtain ⟨a, n, c, h1, h2, h3, h4, h5, h6⟩ := h
  rcases h6 with rfl | ⟨b, off, sz0, rfl, h7⟩
  · exact ⟨a, n, c, [], h1, h2, h3, h4, h5, RowsOf.nil M sz, fun ad _ j u hj => by simp at hj⟩
  · obtain ⟨cs, h8, h9⟩ := h7.cells hm hx
    refine ⟨_, n, c, cs, h1, h2, h3, h4, h5, h8, fun ad had j u hj => ?_⟩
    obtain rfl := Option.some.inj had
    exact h9 j u hj

/-! ### a token's slice has grown -/
def View.setTok (S : View) (t : Nat) (x : List (List FV) × TypeId × Nat) : View := { S with T := fun n => if n = t then some x else S.T n, U := fun n => n == t || S.U n }
def Nam.setTok (ρ : Nam) (t : Nat) (i : Tok) : Nam := { ρ with tok := fun n => if n = t then some i else ρ.tok n }
def Mem.setHead (M : Mem) (g : Nat) (cs : List Value) : Mem := fun k o => if k = g then (match cs[o]? with | some u => some u | none => M k o) else M k o

/-- t's slice has become one of its own block g, which was its own before, or is new: its cells are cs. -/
theorem Nx.setTokG {M : Mem} {ρ : Nam} {w w' : World} {S : View} (h : St M ρ w S) (t : Nat) (i : Tok) (hi : ρ.tok t = some i ∨ ρ.tok t = none ∧ S.U t = false)
    (xs : List (List FV)) (e : TypeId) (hE2 : e < BIG2) (sz g cap : Nat) (cur : Array Value) (cs : List Value)
    (hg : (ρ.tok t = some i ∧ i.own = some g ∧ ∃ x, S.T t = some x) ∨ w.heap.size ≤ g)
    (hw : w'.heap[g]? = some (.cells cur (realE e) (0, 0))) (hcap : plen e xs.length ≤ cap) (hbig : xs.length ≤ 140737488355328) (hmax : cap ≤ maxLen) (hcur : cur.size = cap * sz) (hcs : cur.toList.take (xs.length * sz) = cs)
    (hrows : RowsOf M xs cs sz) (hx : ∀ c ∈ xs, c.length = sz)
    (hle : ρ.tok t = some i → i.len ≤ plen e xs.length ∧ (i.len = plen e xs.length → i.val (plen e xs.length) = .slice (some ⟨g, 0, none⟩) (plen e xs.length) cap))
    (hM : ∀ (o : Nat) u, M g o = some u → cs[o]? = some u)
    (hgrow : w.grownBy w' (some g)) :
    ∃ M' ρ' v', v' = .slice (some ⟨g, 0, none⟩) (plen e xs.length) cap ∧ Nx M ρ w S M' ρ' w' (S.setTok t (xs, e, sz)) ∧ ρ.le ρ' ∧ AVR M' ρ' (.tk t (plen e xs.length)) v' ∧ FVR M' (.sl .some xs) (.slice (some ⟨g, 0, none⟩) xs.length cap) ∧ (∀ n, n ≠ t → ρ'.tok n = ρ.tok n) ∧ ρ'.box = ρ.box := by
  have hpl := plen_le hE2 xs.length
  have hMle : M.le (M.setHead g cs) := fun b o v hv => by
    simp only [Mem.setHead]
    split
    · rename_i e1
      subst e1
      rw [hM o v hv]
    · exact hv
  let i' : Tok := ⟨plen e xs.length, fun n => if n = plen e xs.length then .slice (some ⟨g, 0, none⟩) (plen e xs.length) cap else if ρ.tok t = none then undef else i.val n, some g⟩
  have hρ : ρ.le (ρ.setTok t i') := by
    refine ⟨fun _ _ hb => hb, fun n j hj => ?_⟩
    simp only [Nam.setTok]
    split
    · rename_i e1
      subst e1
      rcases hi with hi | hi
      · rw [hi] at hj
        obtain rfl := Option.some.inj hj
        refine ⟨i', rfl, (hle hi).1, fun m hm => ?_⟩
        show (if m = plen e xs.length then _ else if ρ.tok n = none then undef else i.val m) = _
        split
        · rename_i e2
          subst e2
          have e3 : i.len = plen e xs.length := Nat.le_antisymm (hle hi).1 hm
          exact ((hle hi).2 e3).symm
        · rw [if_neg (by rw [hi]; simp)]
      · rw [hi.1] at hj; cases hj
    · exact ⟨j, hj, Nat.le_refl _, fun _ _ => rfl⟩
  have hcell : ∀ (o : Nat), w'.cell? ⟨g, o, none⟩ = cur[o]? := fun o => cell_of_row _ g o cur (realE e) (0, 0) hw
  have hcslen : cs.length ≤ cur.size := by rw [← hcs]; simp; omega
  have hcsget : ∀ (o : Nat) u, cs[o]? = some u → cur[o]? = some u := fun o u ho => by
    rw [← hcs, List.getElem?_take] at ho
    split at ho
    · simpa using ho
    · cases ho
  have hother : ∀ b, b < w.heap.size → b ≠ g → w'.heap[b]? = w.heap[b]? := fun b hb hn => hgrow.block b hb (by simpa using hn)
  have hownlt : ∀ b, Owned ρ S b → b < w.heap.size := fun b hb => h.owned_lt hb
  -- boxes and other tokens are not of block g
  have hbox : ∀ l ds b, S.H l = some ds → ρ.box l = some b → b ≠ g := fun l ds b h1 h2 e1 => by
    subst e1
    rcases hg with ⟨h3, h4, x, h5⟩ | h3
    · exact h.mixed l t ds x i b h1 h5 h2 h3 h4
    · have := hownlt b (.inl ⟨l, ds, h1, h2⟩); omega
  have htok : ∀ n x j b, n ≠ t → S.T n = some x → ρ.tok n = some j → j.own = some b → b ≠ g := fun n x j b hn h1 h2 h3 e1 => by
    subst e1
    rcases hg with ⟨h4, h5, y, h6⟩ | h4
    · exact hn (h.toks n t x y j i b h1 h6 h2 h4 h3 h5)
    · have := hownlt b (.inr ⟨n, x, j, h1, h2, h3⟩); omega
  have hMother : ∀ b o, b ≠ g → M.setHead g cs b o = M b o := fun b o hb => by simp only [Mem.setHead]; rw [if_neg hb]
  have hval : FVR (M.setHead g cs) (.sl .some xs) (.slice (some ⟨g, 0, none⟩) xs.length cap) := by
    unfold FVR
    refine ⟨_, _, _, rfl, rfl, ⟨Nat.le_trans hpl hcap, hbig⟩, trivial, (fun e1 => by cases e1), .inr ⟨g, 0, sz, rfl, (hrows.mono hMle).rws fun o u ho => ?_⟩⟩
    simp [Mem.setHead, ho]
  refine ⟨M.setHead g cs, ρ.setTok t i', _, rfl, ⟨⟨?_, ?_, ?_, ?_, ?_, ?_, ?_, ?_⟩, ⟨hgrow.os, hgrow.tape, hgrow.output, hgrow.size, ?_, hMle, ?_⟩, ?_⟩, hρ, ?_, hval, ?_, rfl⟩
  · intro b o v hv
    by_cases e1 : b = g
    · subst e1
      rw [hcell]
      simp only [Mem.setHead, if_true] at hv
      split at hv
      · rename_i u hu
        obtain rfl := Option.some.inj hv
        exact hcsget o _ hu
      · exact hcsget o v (hM o v hv)
    · rw [hMother b o e1] at hv
      exact (World.cell?_of_block (w := w) (w' := w') (a := ⟨b, o, none⟩) (hother b (h.mem_lt hv) e1)).trans (h.mem b o v hv)
  · intro l ds hl
    obtain ⟨b, c, ty, h1, h2, h3, h4, h5⟩ := h.box l ds hl
    have hne := hbox l ds b hl h1
    have hb := hownlt b (.inl ⟨l, ds, hl, h1⟩)
    exact ⟨b, c, ty, h1, (hother b hb hne).trans h2, AVRs.mono hMle hρ _ _ h3, h4, fun o => (hMother b o hne).trans (h5 o)⟩
  · intro n ys e1 sz1 hn
    simp only [View.setTok] at hn
    split at hn
    · rename_i e2
      subst e2
      obtain ⟨rfl, rfl, rfl⟩ : xs = ys ∧ e = e1 ∧ sz = sz1 := by simpa using hn
      refine ⟨i', by simp [Nam.setTok], ?_, hx, rfl, cap, cur, ?_, .ofCells hE2 hw, hcap, hmax, hcur, ?_⟩
      · have hsl : slv e i' xs.length = .slice (some ⟨g, 0, none⟩) xs.length cap := by
          have hp : i'.val (plen e xs.length) = .slice (some ⟨g, 0, none⟩) (plen e xs.length) cap := if_pos rfl
          unfold slv
          split
          · rename_i he
            rw [plen_of he] at hp
            exact hp
          · rename_i he
            have he2 : plen e xs.length = xs.length + 1 := (if_neg he).trans (if_pos hE2)
            rw [he2] at hp
            rw [hp]
            rfl
        rw [hsl, eff_of hE2]
        exact hval
      · show (if plen e xs.length = plen e xs.length then _ else _) = _
        rw [if_pos rfl]
      · intro o ho
        simp only [Mem.setHead, if_true]
        have hcl : cs[o]? = none := List.getElem?_eq_none (by rw [hrows.1]; exact ho)
        rw [hcl]
        cases hMo : M g o with
        | none => rfl
        | some v => rw [hM o v hMo] at hcl; cases hcl
    · rename_i e2
      obtain ⟨j, h1, h2, hr, h3, h4⟩ := h.tok n ys e1 sz1 hn
      refine ⟨j, by simp only [Nam.setTok]; rw [if_neg e2]; exact h1, FVR.mono hMle _ _ h2, hr, h3, ?_⟩
      cases ho : j.own with
      | none => rw [ho] at h4; exact h4
      | some b =>
        rw [ho] at h4
        obtain ⟨cap', cur', h5, h6, h7, h8, h9, h10⟩ := h4
        have hne := htok n _ j b e2 hn h1 ho
        have hb := hownlt b (.inr ⟨n, _, j, hn, h1, ho⟩)
        exact ⟨cap', cur', h5, h6.tr (hother b hb hne) hMle, h7, h8, h9, fun o hl => (hMother b o hne).trans (h10 o hl)⟩
  · exact h.boxes
  · intro n n' x x' j j' b h1 h2 h3 h4 h5 h6
    simp only [View.setTok, Nam.setTok] at h1 h2 h3 h4
    split at h1 <;> split at h2 <;> rename_i e1 e2
    · rw [e1, e2]
    · simp only [e1, if_true, e2, if_false] at h3 h4
      obtain rfl := Option.some.inj h3
      exact absurd (Option.some.inj h5).symm (htok n' x' j' b e2 h2 h4 h6)
    · simp only [e1, if_false, e2, if_true] at h3 h4
      obtain rfl := Option.some.inj h4
      exact absurd (Option.some.inj h6).symm (htok n x j b e1 h1 h3 h5)
    · simp only [e1, e2, if_false] at h3 h4
      exact h.toks n n' x x' j j' b h1 h2 h3 h4 h5 h6
  · intro l n ds x j b h1 h2 h3 h4 h5
    simp only [View.setTok, Nam.setTok] at h2 h4
    split at h2 <;> rename_i e1
    · simp only [e1, if_true] at h4
      obtain rfl := Option.some.inj h4
      exact hbox l ds b h1 h3 (Option.some.inj h5).symm
    · simp only [e1, if_false] at h4
      exact h.mixed l n ds x j b h1 h2 h3 h4 h5
  · intro n hn
    simp only [View.setTok, Bool.or_eq_false_iff, beq_eq_false_iff_ne] at hn
    have := h.free n hn.2
    simp only [Nam.setTok, if_neg hn.1]
    exact this
  · intro n hn
    simp only [View.setTok, Bool.or_eq_false_iff, beq_eq_false_iff_ne] at hn
    have := h.freeH n hn.2
    simp only [View.setTok, if_neg hn.1]
    exact this
  · intro b hb hn
    refine hother b hb fun e1 => ?_
    subst e1
    rcases hg with ⟨h1, h2, x, h3⟩ | h1
    · exact hn (.inr ⟨t, x, i, h3, h1, h2⟩)
    · omega
  · intro b hb hn o
    refine hMother b o fun e1 => ?_
    subst e1
    rcases hg with ⟨h1, h2, x, h3⟩ | h1
    · exact hn (.inr ⟨t, x, i, h3, h1, h2⟩)
    · omega
  · intro b hb
    rcases hb with ⟨l, ds, h1, h2⟩ | ⟨n, x, j, h1, h2, h3⟩
    · exact .inl (.inl ⟨l, ds, h1, h2⟩)
    · simp only [View.setTok, Nam.setTok] at h1 h2
      split at h1 <;> rename_i e1
      · simp only [e1, if_true] at h2
        obtain rfl := Option.some.inj h2
        have e2 : g = b := Option.some.inj h3
        subst e2
        rcases hg with ⟨h4, h5, y, h6⟩ | h4
        · exact .inl (.inr ⟨t, y, i, h6, h4, h5⟩)
        · exact .inr h4
      · simp only [e1, if_false] at h2
        exact .inl (.inr ⟨n, x, j, h1, h2, h3⟩)
  · unfold AVR
    refine ⟨⟨_, _, rfl⟩, i', by simp [Nam.setTok], Nat.le_refl _, ?_⟩
    show _ = (if plen e xs.length = plen e xs.length then _ else _)
    rw [if_pos rfl]
  · intro n hn
    simp only [Nam.setTok, if_neg hn]
theorem Nx.setTok {M : Mem} {ρ : Nam} {w w' : World} {S : View} (h : St M ρ w S) (t : Nat) (i : Tok) (hi : ρ.tok t = some i ∨ ρ.tok t = none ∧ S.U t = false)
    (xs : List (List FV)) (e : TypeId) (he : e < BIG) (sz g cap : Nat) (cur : Array Value) (cs : List Value)
    (hg : (ρ.tok t = some i ∧ i.own = some g ∧ ∃ x, S.T t = some x) ∨ w.heap.size ≤ g)
    (hw : w'.heap[g]? = some (.cells cur e (0, 0))) (hcap : xs.length ≤ cap) (hbig : xs.length ≤ 140737488355328) (hmax : cap ≤ maxLen) (hcur : cur.size = cap * sz) (hcs : cur.toList.take (xs.length * sz) = cs)
    (hrows : RowsOf M xs cs sz) (hx : ∀ c ∈ xs, c.length = sz)
    (hle : ρ.tok t = some i → i.len ≤ xs.length ∧ (i.len = xs.length → i.val xs.length = .slice (some ⟨g, 0, none⟩) xs.length cap))
    (hM : ∀ (o : Nat) u, M g o = some u → cs[o]? = some u)
    (hgrow : w.grownBy w' (some g)) :
    ∃ M' ρ' v', v' = .slice (some ⟨g, 0, none⟩) xs.length cap ∧ Nx M ρ w S M' ρ' w' (S.setTok t (xs, e, sz)) ∧ ρ.le ρ' ∧ AVR M' ρ' (.tsl t xs) v' ∧ (∀ n, n ≠ t → ρ'.tok n = ρ.tok n) ∧ ρ'.box = ρ.box := by
  have hp := plen_of he xs.length
  obtain ⟨M', ρ', v', h1, h2, h3, h4, h5, h6⟩ := Nx.setTokG h t i hi xs e (big_lt he) sz g cap cur cs hg (by rw [realE_of he]; exact hw) (by rw [hp]; exact hcap) hbig hmax hcur hcs hrows hx (by rw [hp]; exact hle) hM hgrow
  rw [hp] at h1 h4
  refine ⟨M', ρ', v', h1, h2, h3, ?_, h6⟩
  unfold AVR at h4 ⊢
  exact ⟨by rw [h1]; exact h5, h4.2⟩
end Go.Pav
namespace Go.Pav
open Go.RowKit

/-! ### types -/
inductive TK where
  | bool | int (k : IntKind) | string
  | slice (e : TypeId)
  | struct (fs : List (Nat × TypeId × Nat))   -- a field's offset, type, size
  | array (n : Nat) (e : TypeId)
  | other
structure TI where
  kind : TK
  sz : Nat
  by_ : Nat
  zero : List FV
def TI.agg (i : TI) : Bool := match i.kind with | .struct _ | .array _ _ => true | _ => false

/-- A constant of one cell, as it is known. -/
def absC0 : Value → FV
  | .bool b => .bool b
  | .int k n => .int k n
  | .string s => .str s
  | .slice none 0 0 => .sl .nil []
  | .pointer none => .nilp
  | .nilFunc => .nilfn
  | .nilIface => .nilif
  | _ => .any
theorem absC0_ok (M : Mem) (v : Value) : FVR M (absC0 v) v := by
  cases v <;> simp only [absC0] <;> (try split) <;> (try simp_all [FVR, SK.ok])
  exact ⟨none, 0, 0, ⟨rfl, rfl, rfl⟩, rfl, ⟨Nat.le_refl _, Nat.zero_le _⟩, ⟨rfl, rfl, rfl⟩, fun _ => rfl⟩

theorem absC0s_ok (M : Mem) : ∀ vs : List Value, FVRs M (vs.map absC0) vs
  | [] => by rw [List.map_nil]; unfold FVRs; rfl
  | v :: r => by
    rw [List.map_cons]
    unfold FVRs
    exact ⟨v, r, rfl, absC0_ok M v, absC0s_ok M r⟩
/-- A constant, as it is known. -/
def absC (v : Value) : FV := match v with | .agg cs => .agg (cs.toList.map absC0) | v => absC0 v
theorem absC_ok (M : Mem) (v : Value) : FVR M (absC v) v := by
  unfold absC
  split
  · unfold FVR; exact ⟨_, rfl, absC0s_ok M _⟩
  · exact absC0_ok M v

structure TypeOk (P : Program) (t : TypeId) (i : TI) : Prop where
  info : ∃ f, P.info? t = some f ∧ f.size = i.sz ∧ f.bytes = i.by_ ∧ ∃ z, f.zero = some z ∧ z.cells.toList.length = i.zero.length ∧ z.cells.size = i.sz ∧ (∀ u ∈ z.cells.toList, u.oneCell' = true) ∧ (∀ M, FVRs M i.zero z.cells.toList) ∧ (i.agg = true → z = .agg z.cells) ∧ (i.agg = false → z.oneCell' = true)
  desc : ∃ d, P.underlying t = some d ∧ match i.kind with
    | .bool => d = .bool
    | .int k => d = .int k
    | .string => d = .string
    | .slice e => d = .slice e
    | .struct fs => ∃ as, d = .struct as ∧ as.toList.map (fun f => (f.offset, f.type)) = fs.map (fun f => (f.1, f.2.1)) ∧ ∀ f ∈ fs, (P.info? f.2.1).map (·.size) = some f.2.2
    | .array n e => d = .array n e
    | .other => (∀ as, d ≠ .struct as) ∧ (∀ n e, d ≠ .array n e)
def TTok (P : Program) (TT : TypeId → Option TI) : Prop := ∀ t i, TT t = some i → TypeOk P t i

/-! ### environments -/
def Env := Nat → Option AV
def Env.get (A : Env) (t : Nat) : Option AV := A t
def Env.put (A : Env) (d : Option Nat) (x : AV) : Env := match d with | some d => fun t => bif Nat.beq t d then some x else A t | none => A
/-- An environment that is written out. -/
def Env.of (l : List (Nat × AV)) : Env := fun t => l.lookup t
theorem Env.ext' {A B : Env} (h : ∀ t, A.get t = B.get t) : A = B := funext h
abbrev Glo := Nat → Option FV
def ev (Γ : Glo) (A : Env) : Operand → Option AV
  | .tmp t => A.get t
  | .const v => some (.v (absC v))
  | .global g => (Γ g).map .v
  | .func f => some (.v (.fn f [] []))
def Glob (M : Mem) (Γ : Glo) : Prop := ∀ g x, Γ g = some x → FVR M x (.pointer (some ⟨g, 0, none⟩))
theorem Glob.mono {M M' : Mem} {Γ : Glo} (h : Glob M Γ) (k : M.le M') : Glob M' Γ := fun g x e => FVR.mono k _ _ (h g x e)

/-- The frame's slots. -/
structure TR (M : Mem) (ρ : Nam) (N : Nat) (A : Env) (a : Act) : Prop where
  size : a.tmps.size = N
  defers : a.defers = []
  get : ∀ t x, A.get t = some x → AVR M ρ x (a.tmps.getD t undef)
theorem TR.mono {M M' : Mem} {ρ ρ' : Nam} {N : Nat} {A : Env} {a : Act} (h : TR M ρ N A a) (hM : M.le M') (hρ : ρ.le ρ') : TR M' ρ' N A a :=
  ⟨h.size, h.defers, fun t x e => AVR.mono hM hρ _ _ (h.get t x e)⟩
theorem Env.get_put (A : Env) (d t : Nat) (x : AV) : (A.put (some d) x).get t = if t = d then some x else A.get t := by
  simp only [Env.put, Env.get]
  by_cases h : t = d
  · subst h; simp
  · rw [if_neg h]
    have : Nat.beq t d = false := by rw [← Bool.not_eq_true, Nat.beq_eq]; exact h
    rw [this]
    rfl
theorem TR.put {M : Mem} {ρ : Nam} {N : Nat} {A : Env} {a : Act} (h : TR M ρ N A a) {d : Option Nat} (hd : ∀ t, d = some t → t < N) {x : AV} {v : Value} (hv : AVR M ρ x v) : TR M ρ N (A.put d x) (a.put d v) := by
  cases d with
  | none => exact h
  | some d =>
    refine ⟨by simp [Act.put, h.size], h.defers, fun t y e => ?_⟩
    rw [Env.get_put] at e
    by_cases ht : t = d
    · subst ht
      rw [if_pos rfl] at e
      obtain rfl := Option.some.inj e
      have hlt : t < a.tmps.size := by rw [h.size]; exact hd t rfl
      simpa [Act.put, Array.getD_eq_getD_getElem?, hlt] using hv
    · rw [if_neg ht] at e
      have := h.get t y e
      simp only [Act.put, Array.getD_eq_getD_getElem?] at this ⊢
      rw [Array.getElem?_setIfInBounds_ne (Ne.symm ht)]
      exact this
theorem TR.ev {M : Mem} {ρ : Nam} {N : Nat} {A : Env} {a : Act} {Γ : Glo} (h : TR M ρ N A a) (hG : Glob M Γ) {x : Operand} {y : AV} (e : ev Γ A x = some y) : AVR M ρ y (a.eval x) := by
  cases x with
  | tmp t => exact h.get t y e
  | const v => simp only [Pav.ev, Option.some.injEq] at e; subst e; unfold AVR; exact absC_ok M v
  | global g =>
    simp only [Pav.ev, Option.map_eq_some_iff] at e
    obtain ⟨z, h1, rfl⟩ := e
    unfold AVR
    exact hG g z h1
  | func f =>
    simp only [Pav.ev, Option.some.injEq] at e
    subst e
    unfold AVR FVR
    exact ⟨#[], #[], rfl, by simp [FVRs], by simp [FVRs]⟩

/-! ### one operation -/
/-- The operands are known, as far as the environment says. -/
def OpsR (M : Mem) (ρ : Nam) (Γ : Glo) (A : Env) (a : Act) (xs : List Operand) : Prop := ∀ x ∈ xs, ∀ y, ev Γ A x = some y → AVR M ρ y (a.eval x)
theorem TR.ops {M : Mem} {ρ : Nam} {N : Nat} {A : Env} {a : Act} {Γ : Glo} (h : TR M ρ N A a) (hG : Glob M Γ) (xs : List Operand) : OpsR M ρ Γ A a xs := fun _ _ _ e => h.ev hG e

def View.sameAt (S S' : View) (n : Nat) : Prop := S.H n = S'.H n ∧ S.T n = S'.T n ∧ S.U n = S'.U n
theorem View.ext' {S S' : View} (h : ∀ n, S.sameAt S' n) : S = S' := by
  obtain ⟨H, T, U⟩ := S
  obtain ⟨H', T', U'⟩ := S'
  have h1 : H = H' := funext fun n => (h n).1
  have h2 : T = T' := funext fun n => (h n).2.1
  have h3 : U = U' := funext fun n => (h n).2.2
  subst h1; subst h2; subst h3; rfl
/-- S with S''s names of fp. -/
def View.patch (S : View) (fp : List Nat) (S' : View) : View := ⟨fun n => if n ∈ fp then S'.H n else S.H n, fun n => if n ∈ fp then S'.T n else S.T n, fun n => if n ∈ fp then S'.U n else S.U n⟩
theorem View.patch_nil (S S' : View) : S.patch [] S' = S := View.ext' fun n => by simp [View.sameAt, View.patch]

/-- Operation o, the environment being A, the state S: it gives x and leaves S'; it touches the names of fp alone. -/
def OpOk (P : Program) (Γ : Glo) (o : Oper) (A : Env) (S : View) (x : AV) (S' : View) (fp : List Nat) : Prop :=
  (∀ n, n ∉ fp → S'.sameAt S n) ∧
  ∀ S2, (∀ n ∈ fp, S2.sameAt S n) → ∀ M ρ w a, OpsR M ρ Γ A a o.op.operands.toList → Glob M Γ → St M ρ w S2 →
    ∀ (K : Act → World → Prop) (Q : Exit → Act → World → Prop), (∀ M' ρ' w' v, Nx M ρ w S2 M' ρ' w' (S2.patch fp S') → ρ.le ρ' → AVR M' ρ' x v → K (a.put o.dst v) w') → o.wp P a w K Q

/-- An operation that ends at once. -/
theorem OpOk.of_run {P : Program} {Γ : Glo} {o : Oper} {A : Env} {S : View} {x : AV} {S' : View} {fp : List Nat} (hs : ∀ n, n ∉ fp → S'.sameAt S n)
    (h : ∀ S2, (∀ n ∈ fp, S2.sameAt S n) → ∀ M ρ w a, OpsR M ρ Γ A a o.op.operands.toList → Glob M Γ → St M ρ w S2 →
      ∃ M' ρ' w' v, ((execOp a.eval o).run P w = .ok (.value v) w' ∨ (execOp a.eval o).run P w = .ok .skip w' ∧ v = undef) ∧ Nx M ρ w S2 M' ρ' w' (S2.patch fp S') ∧ ρ.le ρ' ∧ AVR M' ρ' x v) : OpOk P Γ o A S x S' fp := by
  refine ⟨hs, fun S2 h2 M ρ w a ho hG hSt K Q hK => ?_⟩
  obtain ⟨M', ρ', w', v, hr, h3, h4, h5⟩ := h S2 h2 M ρ w a ho hG hSt
  unfold Oper.wp
  rcases hr with hr | ⟨hr, hv⟩
  · rw [hr]; exact hK M' ρ' w' v h3 h4 h5
  · rw [hr]; subst hv; exact hK M' ρ' w' _ h3 h4 h5
/-- An operation that turns nothing. -/
theorem OpOk.pure {P : Program} {Γ : Glo} {o : Oper} {A : Env} {S : View} {x : AV}
    (h : ∀ M ρ w a, OpsR M ρ Γ A a o.op.operands.toList → (∃ S2, St M ρ w S2) → ∃ v, (execOp a.eval o).run P w = .ok (.value v) w ∧ AVR M ρ x v) : OpOk P Γ o A S x S [] :=
  OpOk.of_run (fun _ _ => ⟨rfl, rfl, rfl⟩) fun S2 _ M ρ w a ho _ hSt => by
    obtain ⟨v, h1, h2⟩ := h M ρ w a ho ⟨S2, hSt⟩
    exact ⟨M, ρ, w, v, .inl h1, by rw [View.patch_nil]; exact Nx.refl hSt, ρ.le_refl, h2⟩
end Go.Pav
namespace Go.Pav
open Go.RowKit

/-- A known value of one cell. -/
def FV.one : FV → Bool
  | .any | .agg _ | .tup _ => false
  | _ => true
def AV.one : AV → Bool
  | .v x => x.one
  | .agg _ | .tup _ => false
  | _ => true
theorem FVR.one {M : Mem} {x : FV} {v : Value} (h : FVR M x v) (h1 : x.one = true) : v.oneCell' = true := by
  cases x <;> simp [FV.one] at h1 <;> unfold FVR at h
  case sl => obtain ⟨a, n, c, rfl, _⟩ := h; rfl
  case fptr => obtain ⟨b, o, rfl, _⟩ := h; rfl
  case fn => obtain ⟨vs, ws, rfl, _⟩ := h; rfl
  case iface => obtain ⟨u, rfl, _⟩ := h; rfl
  all_goals (subst h; rfl)
theorem AVR.one {M : Mem} {ρ : Nam} {x : AV} {v : Value} (h : AVR M ρ x v) (h1 : x.one = true) : v.oneCell' = true := by
  cases x <;> simp [AV.one] at h1 <;> unfold AVR at h
  case v x => exact h.one h1
  case tsl => exact h.1.one rfl
  case ptr => obtain ⟨b, _, rfl⟩ := h; rfl
  case bsl => obtain ⟨_, b, _, rfl⟩ := h; rfl
  case tk => obtain ⟨⟨a, c, rfl⟩, _⟩ := h; rfl
  case pp => obtain ⟨i, g, c, _, _, _, rfl⟩ := h; rfl
  case mp => obtain ⟨i, g, c, _, _, rfl⟩ := h; rfl
  case fn => obtain ⟨vs, ws, rfl, _⟩ := h; rfl
  case iface => obtain ⟨u, rfl, _⟩ := h; rfl
theorem AVRs.one {M : Mem} {ρ : Nam} : ∀ {xs : List AV} {vs : List Value}, AVRs M ρ xs vs → xs.all AV.one = true → ∀ u ∈ vs, u.oneCell' = true
  | [], _, h, _ => by unfold AVRs at h; subst h; intro u hu; cases hu
  | x :: r, _, h, h1 => by
    unfold AVRs at h
    obtain ⟨u, us, rfl, h2, h3⟩ := h
    simp only [List.all_cons, Bool.and_eq_true] at h1
    intro v hv
    rcases List.mem_cons.1 hv with rfl | hv
    · exact h2.one h1.1
    · exact AVRs.one h3 h1.2 v hv
theorem oneCell_cells {v : Value} (h : v.oneCell' = true) : v.cells = #[v] := by cases v <;> simp_all [Value.cells, Value.oneCell']

/-- All of a list's values lead to no cells of one's own. -/
def allV : List AV → Option (List FV)
  | [] => some []
  | .v x :: r => (allV r).map (x :: ·)
  | _ :: _ => none
theorem allV_eq : ∀ {xs : List AV} {ys : List FV}, allV xs = some ys → xs = ys.map AV.v
  | [], ys, h => by simp [allV] at h; subst h; rfl
  | .v x :: r, ys, h => by
    simp only [allV, Option.map_eq_some_iff] at h
    obtain ⟨zs, h1, rfl⟩ := h
    simp [allV_eq h1]
  | .tsl _ _ :: _, _, h => by simp [allV] at h
  | .ptr _ _ :: _, _, h => by simp [allV] at h
  | .bsl _ _ _ _ _ :: _, _, h => by simp [allV] at h
  | .tk _ _ :: _, _, h => by simp [allV] at h
  | .pp _ _ _ :: _, _, h => by simp [allV] at h
  | .mp _ :: _, _, h => by simp [allV] at h
  | .agg _ :: _, _, h => by simp [allV] at h
  | .tup _ :: _, _, h => by simp [allV] at h
  | .fn _ _ _ :: _, _, h => by simp [allV] at h
  | .iface _ _ :: _, _, h => by simp [allV] at h
def mkAgg (xs : List AV) : AV := match allV xs with | some ys => .v (.agg ys) | none => .agg xs
theorem mkAgg_ok {M : Mem} {ρ : Nam} {xs : List AV} {vs : Array Value} (h : AVRs M ρ xs vs.toList) : AVR M ρ (mkAgg xs) (.agg vs) := by
  unfold mkAgg
  split
  · rename_i ys hy
    unfold AVR FVR
    rw [allV_eq hy] at h
    exact ⟨vs, rfl, AVRs_v.1 h⟩
  · unfold AVR
    exact ⟨vs, rfl, h⟩
/-- The cells of a value. -/
def cellsOf : AV → Option (List AV)
  | .v (.agg xs) => if (xs.map AV.v).all AV.one then some (xs.map .v) else none
  | .agg xs => if xs.all AV.one then some xs else none
  | x => if x.one then some [x] else none
theorem cellsOf_ok {M : Mem} {ρ : Nam} {x : AV} {v : Value} {cs : List AV} (h : AVR M ρ x v) (hc : cellsOf x = some cs) : AVRs M ρ cs v.cells.toList ∧ cs.all AV.one = true := by
  have key : ∀ {y : AV}, AVR M ρ y v → y.one = true → AVRs M ρ [y] v.cells.toList ∧ [y].all AV.one = true := by
    intro y hy h1
    rw [oneCell_cells (hy.one h1)]
    refine ⟨?_, by simp [h1]⟩
    unfold AVRs
    exact ⟨v, [], rfl, hy, by unfold AVRs; rfl⟩
  unfold cellsOf at hc
  split at hc
  · split at hc
    · rename_i h1
      obtain rfl := Option.some.inj hc
      unfold AVR FVR at h
      obtain ⟨vs, rfl, h2⟩ := h
      exact ⟨AVRs_v.2 h2, h1⟩
    · cases hc
  · split at hc
    · rename_i h1
      obtain rfl := Option.some.inj hc
      unfold AVR at h
      obtain ⟨vs, rfl, h2⟩ := h
      exact ⟨h2, h1⟩
    · cases hc
  · split at hc
    · rename_i h1
      obtain rfl := Option.some.inj hc
      exact key h h1
    · cases hc

section
variable {P : Program} {TT : TypeId → Option TI} {Γ : Glo} {o : Oper} {A : Env} {S : View}

theorem isAgg_run {t : TypeId} {i : TI} (h : TypeOk P t i) (w : World) : (isAgg t).run P w = .ok i.agg w := by
  obtain ⟨d, hd, h2⟩ := h.desc
  unfold isAgg TI.agg
  simp only [Sem.run_bind, run_underlying hd, Result.andThen_ok]
  revert h2
  cases i.kind <;> simp only <;> intro h2
  case struct fs => obtain ⟨as, rfl, _⟩ := h2; rfl
  case other =>
    cases d <;> first | rfl | (exact absurd rfl (h2.1 _)) | (exact absurd rfl (h2.2 _ _))
  all_goals (subst h2; rfl)
theorem sizeOf_run {t : TypeId} {i : TI} (h : TypeOk P t i) (w : World) : (sizeOf t).run P w = .ok i.sz w := by
  obtain ⟨f, hf, h2, _⟩ := h.info
  simp [sizeOf, typeInfo, hf, h2]

theorem ok_move {x : Operand} {y : AV} (ho : o.op = .move x ∨ o.op = .assign x) (hx : ev Γ A x = some y) : OpOk P Γ o A S y S [] :=
  OpOk.pure fun M ρ w a h _ => by
    refine ⟨a.eval x, ?_, h x ?_ y hx⟩
    · rcases ho with ho | ho <;> simp [execOp, ho]
    · rcases ho with ho | ho <;> simp [ho, Op.operands]
theorem ok_pick {c x y : Operand} {b : Bool} {z : AV} (ho : o.op = .pick c x y) (hc : ev Γ A c = some (.v (.bool b))) (hz : ev Γ A (if b then x else y) = some z) : OpOk P Γ o A S z S [] :=
  OpOk.pure fun M ρ w a h _ => by
    have h1 := h c (by simp [ho, Op.operands]) _ hc
    unfold AVR FVR at h1
    refine ⟨a.eval (if b then x else y), ?_, h _ ?_ z hz⟩
    · simp [execOp, ho, h1, asBool]; cases b <;> rfl
    · cases b <;> simp [ho, Op.operands]
/-- '&&', '||' of two truths. -/
theorem ok_pick2 {c x y : Operand} {b p q : Bool} (ho : o.op = .pick c x y) (hc : ev Γ A c = some (.v (.bool b))) (hx : b = true → ev Γ A x = some (.v (.bool p))) (hy : b = false → ev Γ A y = some (.v (.bool q))) : OpOk P Γ o A S (.v (.bool (bif b then p else q))) S [] := by
  cases b
  · exact ok_pick ho hc (by simpa using hy rfl)
  · exact ok_pick ho hc (by simpa using hx rfl)

/-- What a test or a sum of two numbers comes to. -/
def intBin (op : BinOp) (k : IntKind) (a b : Int) : Option FV :=
  match op with
  | .add => some (.int k (k.wrap (a + b)))
  | .sub => some (.int k (k.wrap (a - b)))
  | .mul => some (.int k (k.wrap (a * b)))
  | .eql => some (.bool (a == b))
  | .neq => some (.bool (a != b))
  | .lss => some (.bool (a < b))
  | .leq => some (.bool (a ≤ b))
  | .gtr => some (.bool (a > b))
  | .geq => some (.bool (a ≥ b))
  | _ => none
theorem ok_intBin {op : BinOp} {t u : TypeId} {x y : Operand} {k : IntKind} {a b : Int} {z : FV} (ho : o.op = .binOp op t x y u) (hx : ev Γ A x = some (.v (.int k a))) (hy : ev Γ A y = some (.v (.int k b))) (hz : intBin op k a b = some z) : OpOk P Γ o A S (.v z) S [] :=
  OpOk.pure fun M ρ w ac h _ => by
    have h1 := h x (by simp [ho, Op.operands]) _ hx
    have h2 := h y (by simp [ho, Op.operands]) _ hy
    unfold AVR FVR at h1 h2
    cases op <;> simp [intBin] at hz <;> subst hz <;>
      (refine ⟨_, ?_, (by unfold AVR FVR; rfl)⟩; simp [execOp, ho, h1, h2, eqGuard, binOp, Op.intArith, Op.intCmp])
def strBin (op : BinOp) (a b : ByteArray) : Option FV :=
  match op with
  | .eql => some (.bool (a.toList == b.toList))
  | .neq => some (.bool !(a.toList == b.toList))
  | _ => none
theorem ok_strBin {op : BinOp} {t u : TypeId} {x y : Operand} {a b : ByteArray} {z : FV} (ho : o.op = .binOp op t x y u) (hx : ev Γ A x = some (.v (.str a))) (hy : ev Γ A y = some (.v (.str b))) (hz : strBin op a b = some z) : OpOk P Γ o A S (.v z) S [] :=
  OpOk.pure fun M ρ w ac h _ => by
    have h1 := h x (by simp [ho, Op.operands]) _ hx
    have h2 := h y (by simp [ho, Op.operands]) _ hy
    unfold AVR FVR at h1 h2
    cases op <;> simp [strBin] at hz <;> subst hz <;>
      (refine ⟨_, ?_, (by unfold AVR FVR; rfl)⟩; simp [execOp, ho, h1, h2, eqGuard, binOp, Op.stringOp])
theorem ok_strAdd {t u : TypeId} {x y : Operand} {a b : ByteArray} (ho : o.op = .binOp .add t x y u) (hx : ev Γ A x = some (.v (.str a))) (hy : ev Γ A y = some (.v (.str b))) (hb : a.size + b.size ≤ 9223372036854775807) : OpOk P Γ o A S (.v (.str (a ++ b))) S [] :=
  OpOk.pure fun M ρ w ac h _ => by
    have h1 := h x (by simp [ho, Op.operands]) _ hx
    have h2 := h y (by simp [ho, Op.operands]) _ hy
    unfold AVR FVR at h1 h2
    have hm : ¬ (((a.size + b.size : Nat) : Int) > IntKind.i64.max) := by
      have e : IntKind.i64.max = 9223372036854775807 := by decide
      rw [e]; omega
    refine ⟨.string (a ++ b), ?_, by unfold AVR FVR; rfl⟩
    simp only [execOp, ho, h1, h2, eqGuard, binOp, Op.stringOp, if_neg hm]
    simp
def boolBin (op : BinOp) (a b : Bool) : Option FV :=
  match op with
  | .eql => some (.bool (a == b))
  | .neq => some (.bool !(a == b))
  | _ => none
theorem ok_boolBin {op : BinOp} {t u : TypeId} {x y : Operand} {a b : Bool} {z : FV} {i : TI} (ho : o.op = .binOp op t x y u) (hx : ev Γ A x = some (.v (.bool a))) (hy : ev Γ A y = some (.v (.bool b))) (ht : TypeOk P t i) (hk : i.kind = .bool) (hz : boolBin op a b = some z) : OpOk P Γ o A S (.v z) S [] :=
  OpOk.pure fun M ρ w ac h _ => by
    have h1 := h x (by simp [ho, Op.operands]) _ hx
    have h2 := h y (by simp [ho, Op.operands]) _ hy
    unfold AVR FVR at h1 h2
    obtain ⟨d, hd, h3⟩ := ht.desc
    rw [hk] at h3
    subst h3
    have he : (Op.equal t (.bool a) (.bool b)).run P w = .ok (a == b) w := by
      show (Op.equalIn (9999 + 1) t (.bool a) (.bool b)).run P w = _
      unfold Op.equalIn
      simp [run_underlying hd]
    cases op <;> simp [boolBin] at hz <;> subst hz
    · refine ⟨_, ?_, (by unfold AVR FVR; rfl)⟩
      simp only [execOp, ho, h1, h2, eqGuard, binOp]
      simp [he]
    · refine ⟨_, ?_, (by unfold AVR FVR; rfl)⟩
      simp only [execOp, ho, h1, h2, eqGuard, binOp]
      simp [he]
theorem ok_not {t : TypeId} {x : Operand} {a : Bool} (ho : o.op = .unOp .not t x) (hx : ev Γ A x = some (.v (.bool a))) : OpOk P Γ o A S (.v (.bool !a)) S [] :=
  OpOk.pure fun M ρ w ac h _ => by
    have h1 := h x (by simp [ho, Op.operands]) _ hx
    unfold AVR FVR at h1
    (refine ⟨_, ?_, (by unfold AVR FVR; rfl)⟩; simp [execOp, ho, h1, Op.unary])
theorem ok_neg {t : TypeId} {x : Operand} {k : IntKind} {a : Int} (ho : o.op = .unOp .neg t x) (hx : ev Γ A x = some (.v (.int k a))) : OpOk P Γ o A S (.v (.int k (k.wrap (0 - a)))) S [] :=
  OpOk.pure fun M ρ w ac h _ => by
    have h1 := h x (by simp [ho, Op.operands]) _ hx
    unfold AVR FVR at h1
    (refine ⟨_, ?_, (by unfold AVR FVR; rfl)⟩; simp [execOp, ho, h1, Op.unary, Op.intArith])

/-! ### tuples, fields -/
theorem ok_extract {x : Operand} {i : Nat} {xs : List AV} {y : AV} (ho : o.op = .extract x i) (hx : ev Γ A x = some (.tup xs)) (hi : xs[i]? = some y) : OpOk P Γ o A S y S [] :=
  OpOk.pure fun M ρ w ac h _ => by
    have h1 := h x (by simp [ho, Op.operands]) _ hx
    unfold AVR at h1
    obtain ⟨vs, h2, h3⟩ := h1
    obtain ⟨v, h4, h5⟩ := AVRs.get h3 i y hi
    refine ⟨v, ?_, h5⟩
    have h6 : vs[i]? = some v := by simpa using h4
    simp [execOp, ho, h2, Instr.extract, h6]
theorem ok_extractv {x : Operand} {i : Nat} {xs : List FV} {y : FV} (ho : o.op = .extract x i) (hx : ev Γ A x = some (.v (.tup xs))) (hi : xs[i]? = some y) : OpOk P Γ o A S (.v y) S [] :=
  OpOk.pure fun M ρ w ac h _ => by
    have h1 := h x (by simp [ho, Op.operands]) _ hx
    unfold AVR FVR at h1
    obtain ⟨vs, h2, h3⟩ := h1
    obtain ⟨v, h4, h5⟩ := FVRs.get h3 i y hi
    refine ⟨v, ?_, by unfold AVR; exact h5⟩
    have h6 : vs[i]? = some v := by simpa using h4
    simp [execOp, ho, h2, Instr.extract, h6]
/-- A part of type t of cells, at a place. -/
def partA (i : TI) (cs : List AV) (off : Nat) : Option AV := if i.agg then (if off + i.sz ≤ cs.length then some (mkAgg ((cs.drop off).take i.sz)) else none) else cs[off]?
theorem part_ok {M : Mem} {ρ : Nam} {t : TypeId} {i : TI} (ht : TypeOk P t i) {cs : List AV} {vs : Array Value} (h : AVRs M ρ cs vs.toList) {off : Nat} {y : AV} (hy : partA i cs off = some y) (w : World) : ∃ v, (part t vs off).run P w = .ok v w ∧ AVR M ρ y v := by
  unfold partA at hy
  unfold part
  simp only [Sem.run_bind, isAgg_run ht, Result.andThen_ok]
  split at hy
  · rename_i ha
    split at hy
    · obtain rfl := Option.some.inj hy
      refine ⟨.agg (vs.extract off (off + i.sz)), by simp [ha, sizeOf_run ht], mkAgg_ok ?_⟩
      have := (h.drop off).take i.sz
      rw [Array.toList_extract, List.extract_eq_take_drop, Nat.add_sub_cancel_left]
      exact this
    · cases hy
  · rename_i ha
    obtain ⟨v, h1, h2⟩ := AVRs.get h off y hy
    have h3 : vs[off]? = some v := by simpa using h1
    exact ⟨v, by simp [ha, h3], h2⟩
/-- The cells of a struct's or an array's value. -/
def aggOf : AV → Option (List AV)
  | .v (.agg xs) => some (xs.map .v)
  | .agg xs => some xs
  | _ => none
theorem aggOf_ok {M : Mem} {ρ : Nam} {x : AV} {v : Value} {cs : List AV} (h : AVR M ρ x v) (hc : aggOf x = some cs) : ∃ vs, v = .agg vs ∧ AVRs M ρ cs vs.toList := by
  unfold aggOf at hc
  split at hc
  · obtain rfl := Option.some.inj hc
    unfold AVR FVR at h
    obtain ⟨vs, rfl, h2⟩ := h
    exact ⟨vs, rfl, AVRs_v.2 h2⟩
  · obtain rfl := Option.some.inj hc
    unfold AVR at h
    exact h
  · cases hc
theorem fields_get {P : Program} {t : TypeId} {i : TI} (ht : TypeOk P t i) {fs : List (Nat × TypeId × Nat)} (hk : i.kind = .struct fs) {n : Nat} {f : Nat × TypeId × Nat} (hf : fs[n]? = some f) :
    ∃ as g, P.underlying t = some (.struct as) ∧ as[n]? = some g ∧ g.offset = f.1 ∧ g.type = f.2.1 ∧ (P.info? g.type).map (·.size) = some f.2.2 := by
  obtain ⟨d, hd, h3⟩ := ht.desc
  rw [hk] at h3
  obtain ⟨as, rfl, h4, h5⟩ := h3
  have h6 : (as.toList.map (fun f => (f.offset, f.type)))[n]? = some (f.1, f.2.1) := by rw [h4]; simp [hf]
  rw [List.getElem?_map, Option.map_eq_some_iff] at h6
  obtain ⟨g, h7, h8⟩ := h6
  simp only [Prod.mk.injEq] at h8
  exact ⟨as, g, hd, by simpa using h7, h8.1, h8.2, by rw [h8.2]; exact h5 f (List.mem_of_getElem? hf)⟩
theorem ok_field {t : TypeId} {x : Operand} {n : Nat} {i j : TI} {fs : List (Nat × TypeId × Nat)} {f : Nat × TypeId × Nat} {y z : AV} {cs : List AV} (ho : o.op = .field t x n) (hx : ev Γ A x = some y) (ht : TypeOk P t i) (hk : i.kind = .struct fs) (hf : fs[n]? = some f) (hj : TypeOk P f.2.1 j) (hc : aggOf y = some cs) (hz : partA j cs f.1 = some z) : OpOk P Γ o A S z S [] :=
  OpOk.pure fun M ρ w ac h _ => by
    obtain ⟨vs, h2, h3⟩ := aggOf_ok (h x (by simp [ho, Op.operands]) _ hx) hc
    obtain ⟨as, g, h4, h5, h6, h7, _⟩ := fields_get ht hk hf
    rw [← h7] at hj
    obtain ⟨v, h8, h9⟩ := part_ok hj h3 hz w
    refine ⟨v, ?_, h9⟩
    rw [← h6] at h8
    simp [execOp, ho, h2, Instr.field, run_underlying h4, h5, asAgg, h8]
theorem ok_fieldAddr {t : TypeId} {x : Operand} {n : Nat} {i : TI} {fs : List (Nat × TypeId × Nat)} {f : Nat × TypeId × Nat} {y z : AV} (ho : o.op = .fieldAddr t x n) (hx : ev Γ A x = some y) (ht : TypeOk P t i) (hk : i.kind = .struct fs) (hf : fs[n]? = some f) (hs : f.2.2 ≠ 0)
    (hz : (∃ l off, y = .ptr l off ∧ z = .ptr l (off + f.1)) ∨ ∃ cs, y = .v (.fptr cs) ∧ z = .v (.fptr (cs.drop f.1))) : OpOk P Γ o A S z S [] :=
  OpOk.pure fun M ρ w ac h _ => by
    have h1 := h x (by simp [ho, Op.operands]) _ hx
    obtain ⟨as, g, h4, h5, h6, h7, h8⟩ := fields_get ht hk hf
    obtain ⟨ig, h9, h10⟩ := Option.map_eq_some_iff.1 h8
    rcases hz with ⟨l, off, rfl, rfl⟩ | ⟨cs, rfl, rfl⟩
    · unfold AVR at h1
      obtain ⟨b, h11, h12⟩ := h1
      refine ⟨.pointer (some ⟨b, off + f.1, none⟩), ?_, by unfold AVR; exact ⟨b, h11, rfl⟩⟩
      simp [execOp, ho, h12, Instr.fieldAt, run_underlying h4, h5, Instr.sureAddr, fieldPlace, sizeOf, typeInfo, h9, h10, hs, h6, Addr.add_lit]
    · unfold AVR FVR at h1
      obtain ⟨b, off, h12, h13⟩ := h1
      refine ⟨.pointer (some ⟨b, off + f.1, none⟩), ?_, by unfold AVR FVR; exact ⟨b, _, rfl, h13.drop f.1⟩⟩
      simp [execOp, ho, h12, Instr.fieldAt, run_underlying h4, h5, Instr.sureAddr, fieldPlace, sizeOf, typeInfo, h9, h10, hs, h6, Addr.add_lit]

/-! ### reading -/
/-- What a place that is known for ever holds. -/
def loadF (i : TI) (cs : List FV) : Option FV := if i.agg then (if i.sz ≤ cs.length then some (.agg (cs.take i.sz)) else none) else cs[0]?
theorem Cls.loads {M : Mem} {w : World} (hm : ∀ b o v, M b o = some v → w.cell? ⟨b, o, none⟩ = some v) : ∀ {cs : List FV} {b o : Nat}, Cls M cs b o → ∃ vs : List Value, vs.length = cs.length ∧ FVRs M cs vs ∧ ∀ (j : Nat) v, vs[j]? = some v → w.cell? ((⟨b, o, none⟩ : Addr).add j) = some v
  | [], b, o, _ => ⟨[], rfl, by unfold FVRs; rfl, fun j v h => by simp at h⟩
  | x :: r, b, o, h => by
    unfold Cls at h
    obtain ⟨⟨u, h1, _, h2⟩, h3⟩ := h
    obtain ⟨vs, h4, h5, h6⟩ := Cls.loads hm h3
    refine ⟨u :: vs, by simp [h4], by unfold FVRs; exact ⟨u, vs, rfl, h2, h5⟩, fun j v hj => ?_⟩
    cases j with
    | zero => simp at hj; subst hj; rw [Addr.add_lit]; exact hm _ _ _ h1
    | succ j =>
      have := h6 j v (by simpa using hj)
      rw [Addr.add_lit] at this ⊢
      rwa [Nat.add_assoc, Nat.add_comm 1 j] at this
theorem Cls.take {M : Mem} : ∀ {cs : List FV} {b o : Nat} (n : Nat), Cls M cs b o → Cls M (cs.take n) b o
  | _, _, _, 0, _ => by simp [Cls]
  | [], _, _, n + 1, _ => by simp [Cls]
  | x :: r, b, o, n + 1, h => by
    unfold Cls at h
    rw [List.take_succ_cons]
    unfold Cls
    exact ⟨h.1, Cls.take n h.2⟩
theorem ok_loadF {t : TypeId} {x : Operand} {i : TI} {cs : List FV} {z : FV} (ho : o.op = .load t x) (hx : ev Γ A x = some (.v (.fptr cs))) (ht : TypeOk P t i) (hz : loadF i cs = some z) : OpOk P Γ o A S (.v z) S [] :=
  OpOk.pure fun M ρ w ac h hS => by
    have h1 := h x (by simp [ho, Op.operands]) _ hx
    unfold AVR FVR at h1
    obtain ⟨b, off, h2, h3⟩ := h1
    obtain ⟨S2, hS2⟩ := hS
    unfold loadF at hz
    split at hz
    · rename_i ha
      split at hz
      · rename_i hle
        obtain rfl := Option.some.inj hz
        obtain ⟨vs, h4, h5, h6⟩ := (h3.take i.sz).loads hS2.mem
        have h7 : vs.length = i.sz := by rw [h4, List.length_take]; omega
        refine ⟨.agg vs.toArray, ?_, by unfold AVR FVR; exact ⟨_, rfl, by simpa using h5⟩⟩
        have h8 := run_loadCells_list (P := P) w ⟨b, off, none⟩ vs h6
        rw [h7] at h8
        simp [execOp, ho, h2, Instr.loadAt, Instr.sureAddr, loadVar, isAgg_run ht, ha, sizeOf_run ht, h8]
      · cases hz
    · rename_i ha
      obtain ⟨u, h4, h5, h6⟩ := h3.get 0 z hz
      have h7 := hS2.mem _ _ _ h4
      rw [Nat.add_zero] at h7
      refine ⟨u, ?_, by unfold AVR; exact h6⟩
      simp [execOp, ho, h2, Instr.loadAt, Instr.sureAddr, loadVar, isAgg_run ht, ha, run_load, h7]
/-- A box is read. -/
theorem ok_loadB {t : TypeId} {x : Operand} {i : TI} {l off : Nat} {cs : List AV} {z : AV} (ho : o.op = .load t x) (hx : ev Γ A x = some (.ptr l off)) (ht : TypeOk P t i) (hl : S.H l = some cs) (hz : partA i cs off = some z) : OpOk P Γ o A S z S [l] :=
  OpOk.of_run (fun _ _ => ⟨rfl, rfl, rfl⟩) fun S2 h2 M ρ w a h hG hSt => by
    have h1 := h x (by simp [ho, Op.operands]) _ hx
    unfold AVR at h1
    obtain ⟨b, h3, h4⟩ := h1
    have hl2 : S2.H l = some cs := (h2 l (by simp)).1.trans hl
    obtain ⟨b', c, ty, h5, h6, h7, _⟩ := hSt.box l cs hl2
    rw [h3] at h5
    obtain rfl := Option.some.inj h5
    have hcell : ∀ j, w.cell? ⟨b, j, none⟩ = c[j]? := fun j => cell_of_row w b j c ty (0, 0) h6
    have hpatch : S2.patch [l] S = S2 := View.ext' fun n => by
      by_cases hn : n = l
      · subst hn; have := h2 n (by simp); exact ⟨by simp [View.patch, this.1], by simp [View.patch, this.2.1], by simp [View.patch, this.2.2]⟩
      · exact ⟨by simp [View.patch, hn], by simp [View.patch, hn], by simp [View.patch, hn]⟩
    have hNx : Nx M ρ w S2 M ρ w (S2.patch [l] S) := by rw [hpatch]; exact Nx.refl hSt
    unfold partA at hz
    split at hz
    · rename_i ha
      split at hz
      · rename_i hle
        obtain rfl := Option.some.inj hz
        refine ⟨M, ρ, w, .agg (((c.toList.drop off).take i.sz).toArray), .inl ?_, hNx, ρ.le_refl, mkAgg_ok (by simpa using (h7.drop off).take i.sz)⟩
        have h8 : ((c.toList.drop off).take i.sz).length = i.sz := by rw [List.length_take, List.length_drop, AVRs.len h7]; omega
        have h9 := run_loadCells_list (P := P) w ⟨b, off, none⟩ ((c.toList.drop off).take i.sz) (fun j v hj => by
          rw [Addr.add_lit, hcell]
          rw [List.getElem?_take] at hj
          split at hj
          · simpa using hj
          · cases hj)
        rw [h8] at h9
        simp [execOp, ho, h4, Instr.loadAt, Instr.sureAddr, loadVar, isAgg_run ht, ha, sizeOf_run ht, h9]
      · cases hz
    · rename_i ha
      obtain ⟨v, h8, h9⟩ := AVRs.get h7 off z hz
      have h10 : w.cell? ⟨b, off, none⟩ = some v := by rw [hcell]; simpa using h8
      exact ⟨M, ρ, w, v, .inl (by simp [execOp, ho, h4, Instr.loadAt, Instr.sureAddr, loadVar, isAgg_run ht, ha, run_load, h10]), hNx, ρ.le_refl, h9⟩
end
end Go.Pav
namespace Go.Pav
open Go.RowKit
section
variable {P : Program} {TT : TypeId → Option TI} {Γ : Glo} {o : Oper} {A : Env} {S : View}

/-! ### lengths, places in slices -/
theorem ok_lenS {c : Call} {x : Operand} {k : SK} {xs : List (List FV)} {t e : TypeId} {i : TI} (ho : o.op = .call c) (hc : c.callee = .builtin .len) (ha : c.args = #[x]) (hat : c.argTypes = #[t]) (hx : ev Γ A x = some (.v (.sl k xs)) ∨ ∃ tk, ev Γ A x = some (.tsl tk xs)) (ht : TypeOk P t i) (hk : i.kind = .slice e) : OpOk P Γ o A S (.v (.int .i64 xs.length)) S [] :=
  OpOk.pure fun M ρ w ac h _ => by
    have hv : ∃ k', FVR M (.sl k' xs) (ac.eval x) := by
      rcases hx with hx | ⟨tk, hx⟩
      · have h1 := h x (by simp [ho, Op.operands, Call.operands, ha]) _ hx
        unfold AVR at h1
        exact ⟨k, h1⟩
      · have h1 := h x (by simp [ho, Op.operands, Call.operands, ha]) _ hx
        unfold AVR at h1
        exact ⟨.some, h1.1⟩
    obtain ⟨k', hv⟩ := hv
    unfold FVR at hv
    obtain ⟨a, n, cp, h2, rfl, _⟩ := hv
    obtain ⟨d, hd, h3⟩ := ht.desc
    rw [hk] at h3
    subst h3
    refine ⟨_, ?_, (by unfold AVR FVR; rfl)⟩
    simp [execOp, ho, resolve, hc, ha, hat, invoke, builtin, Builtin.len_, h2, run_underlying hd, goInt]
theorem ok_lenStr {c : Call} {x : Operand} {s : ByteArray} {t : TypeId} {i : TI} (ho : o.op = .call c) (hc : c.callee = .builtin .len) (ha : c.args = #[x]) (hat : c.argTypes = #[t]) (hx : ev Γ A x = some (.v (.str s))) (ht : TypeOk P t i) (hk : i.kind = .string) : OpOk P Γ o A S (.v (.int .i64 s.size)) S [] :=
  OpOk.pure fun M ρ w ac h _ => by
    have h1 := h x (by simp [ho, Op.operands, Call.operands, ha]) _ hx
    unfold AVR FVR at h1
    obtain ⟨d, hd, h3⟩ := ht.desc
    rw [hk] at h3
    subst h3
    refine ⟨_, ?_, (by unfold AVR FVR; rfl)⟩
    simp [execOp, ho, resolve, hc, ha, hat, invoke, builtin, Builtin.len_, h1, run_underlying hd, goInt]
/-- The element's place. -/
theorem ok_indexAddr {t : TypeId} {x y : Operand} {xs : List (List FV)} {kk : IntKind} {n : Int} {e : TypeId} {i j : TI} {cs : List FV} (ho : o.op = .indexAddr t x y) (hx : (∃ k, ev Γ A x = some (.v (.sl k xs))) ∨ ∃ tk, ev Γ A x = some (.tsl tk xs)) (hy : ev Γ A y = some (.v (.int kk n)))
    (ht : TypeOk P t i) (hk : i.kind = .slice e) (hj : TypeOk P e j) (h0 : 0 ≤ n) (hc : xs[n.toNat]? = some cs) (hl : cs.length = j.sz) : OpOk P Γ o A S (.v (.fptr cs)) S [] :=
  OpOk.pure fun M ρ w ac h _ => by
    have hv : ∃ k', FVR M (.sl k' xs) (ac.eval x) := by
      rcases hx with ⟨k, hx⟩ | ⟨tk, hx⟩
      · have h1 := h x (by simp [ho, Op.operands]) _ hx
        unfold AVR at h1
        exact ⟨k, h1⟩
      · have h1 := h x (by simp [ho, Op.operands]) _ hx
        unfold AVR at h1
        exact ⟨.some, h1.1⟩
    obtain ⟨k', hv⟩ := hv
    have h2 := h y (by simp [ho, Op.operands]) _ hy
    unfold AVR FVR at h2
    unfold FVR at hv
    obtain ⟨a, m, cp, h3, rfl, _, _, _, h4⟩ := hv
    obtain ⟨d, hd, h5⟩ := ht.desc
    rw [hk] at h5
    subst h5
    have hlt : n.toNat < xs.length := (List.getElem?_eq_some_iff.1 hc).1
    rcases h4 with rfl | ⟨b, off, sz, rfl, h6⟩
    · simp at hlt
    · obtain ⟨h7, h8⟩ := h6.get n.toNat cs hc
      have hsz : sz = j.sz := by omega
      subst hsz
      refine ⟨.pointer (some ⟨b, off + n.toNat * j.sz, none⟩), ?_, by unfold AVR FVR; exact ⟨b, _, rfl, h8⟩⟩
      have hin : 0 ≤ n ∧ n < (xs.length : Int) := ⟨h0, by omega⟩
      simp [execOp, ho, h2, h3, Instr.indexAt, asIntOf, run_underlying hd, hin, sizeOf_run hj, Addr.add_lit]
/-- A byte of a string. -/
theorem ok_indexStr {t : TypeId} {x y : Operand} {s : ByteArray} {kk : IntKind} {n : Int} {i : TI} (ho : o.op = .index t x y) (hx : ev Γ A x = some (.v (.str s))) (hy : ev Γ A y = some (.v (.int kk n)))
    (ht : TypeOk P t i) (hk : i.kind = .string) (h0 : 0 ≤ n) {b : UInt8} (hb : s[n.toNat]? = some b) : OpOk P Γ o A S (.v (.int .u8 b.toNat)) S [] :=
  OpOk.pure fun M ρ w ac h _ => by
    have h1 := h x (by simp [ho, Op.operands]) _ hx
    have h2 := h y (by simp [ho, Op.operands]) _ hy
    unfold AVR FVR at h1 h2
    obtain ⟨d, hd, h5⟩ := ht.desc
    rw [hk] at h5
    subst h5
    refine ⟨_, ?_, (by unfold AVR FVR; rfl)⟩
    simp [execOp, ho, h1, h2, Instr.index, asIntOf, run_underlying hd, h0, hb]
/-- An element of an array's value. -/
theorem ok_indexArr {t : TypeId} {x y : Operand} {z : AV} {cs : List AV} {kk : IntKind} {n : Nat} {len : Nat} {e : TypeId} {i j : TI} {r : AV} (ho : o.op = .index t x y) (hx : ev Γ A x = some z) (hz : aggOf z = some cs) (hy : ev Γ A y = some (.v (.int kk n)))
    (ht : TypeOk P t i) (hk : i.kind = .array len e) (hj : TypeOk P e j) (hn : n < len) (hr : partA j cs (n * j.sz) = some r) : OpOk P Γ o A S r S [] :=
  OpOk.pure fun M ρ w ac h _ => by
    obtain ⟨vs, h1, h3⟩ := aggOf_ok (h x (by simp [ho, Op.operands]) _ hx) hz
    have h2 := h y (by simp [ho, Op.operands]) _ hy
    unfold AVR FVR at h2
    obtain ⟨d, hd, h5⟩ := ht.desc
    rw [hk] at h5
    subst h5
    obtain ⟨v, h6, h7⟩ := part_ok hj h3 hr w
    refine ⟨v, ?_, h7⟩
    simp [execOp, ho, h1, h2, Instr.index, asIntOf, run_underlying hd, sizeOf_run hj, h6]
    exact fun hle => absurd hle (by omega)

/-! ### cuts -/
def cutS (k : SK) (xs : List (List FV)) (lo hi : Nat) : FV := .sl k ((xs.take hi).drop lo)
theorem sliceBound_run {P : Program} (w : World) (kk : IntKind) (n : Int) (y : Nat) (code : BoundsCode) (h0 : 0 ≤ n) (h1 : n ≤ y) : (Instr.sliceBound (.int kk n) y code).run P w = .ok n.toNat w := by
  simp [Instr.sliceBound, asIntOf, h0, h1]
/-- The bound that an operand of a cut names. -/
def boundA (Γ : Glo) (A : Env) : Option Operand → Option (Option Int)
  | none => some none
  | some x => match ev Γ A x with | some (.v (.int _ n)) => some (some n) | _ => none
theorem boundA_ok {M : Mem} {ρ : Nam} {a : Act} {xs : List Operand} (h : OpsR M ρ Γ A a xs) {x : Option Operand} (hx : ∀ y, x = some y → y ∈ xs) {b : Option Int} (hb : boundA Γ A x = some b) : (x = none ∧ b = none) ∨ ∃ y k n, x = some y ∧ a.eval y = .int k n ∧ b = some n := by
  cases x with
  | none => simp [boundA] at hb; exact .inl ⟨rfl, hb.symm⟩
  | some y =>
    simp only [boundA] at hb
    split at hb
    · rename_i k n he
      have := h y (hx y rfl) _ he
      unfold AVR FVR at this
      exact .inr ⟨y, k, n, rfl, this, (Option.some.inj hb).symm⟩
    · cases hb
/-- A cut of a slice, up to its length. -/
theorem ok_slice {t : TypeId} {x : Operand} {lo hi : Option Operand} {xs : List (List FV)} {e : TypeId} {i j : TI} {l h : Option Int} {ln hn : Nat} (ho : o.op = .slice t x lo hi none) (hx : (∃ k, ev Γ A x = some (.v (.sl k xs))) ∨ ∃ tk, ev Γ A x = some (.tsl tk xs))
    (ht : TypeOk P t i) (hk : i.kind = .slice e) (hj : TypeOk P e j) (hsz : ∀ c ∈ xs, c.length = j.sz) (hl : boundA Γ A lo = some l) (hh : boundA Γ A hi = some h) (hhn : h.getD xs.length = hn) (hln : l.getD 0 = ln) (h1 : ln ≤ hn) (h2 : hn ≤ xs.length) :
    OpOk P Γ o A S (.v (.sl .some ((xs.take hn).drop ln))) S [] :=
  OpOk.pure fun M ρ w ac hO _ => by
    have hv : ∃ k', FVR M (.sl k' xs) (ac.eval x) := by
      rcases hx with ⟨k, hx⟩ | ⟨tk, hx⟩
      · have h1 := hO x (by simp [ho, Op.operands]) _ hx
        unfold AVR at h1
        exact ⟨k, h1⟩
      · have h1 := hO x (by simp [ho, Op.operands]) _ hx
        unfold AVR at h1
        exact ⟨.some, h1.1⟩
    obtain ⟨k', hv⟩ := hv
    unfold FVR at hv
    obtain ⟨a, m, cp, h3, rfl, h4, _, h5, h6⟩ := hv
    obtain ⟨d, hd, h7⟩ := ht.desc
    rw [hk] at h7
    subst h7
    have hbnd : (Instr.sliceBounds true xs.length cp (lo.map ac.eval) (hi.map ac.eval) none).run P w = .ok (ln, hn, cp) w := by
      have b1 := boundA_ok hO (x := lo) (by intro y hy; simp [ho, Op.operands, hy]) hl
      have b2 := boundA_ok hO (x := hi) (by intro y hy; simp [ho, Op.operands, hy]) hh
      unfold Instr.sliceBounds
      rcases b2 with ⟨rfl, rfl⟩ | ⟨y, ky, ny, rfl, hy, rfl⟩ <;> rcases b1 with ⟨rfl, rfl⟩ | ⟨z, kz, nz, rfl, hz, rfl⟩ <;> simp only [Option.getD_none, Option.getD_some] at hhn hln
      · simp only [Option.map_none, Sem.run_bind, Sem.run_pure, Result.andThen_ok]
        rw [show ln = 0 by omega, show hn = xs.length by omega]
      · have := sliceBound_run (P := P) w kz nz xs.length .sliceB (by omega) (by omega)
        simp only [Option.map_none, Option.map_some, hz, Sem.run_bind, Sem.run_pure, Result.andThen_ok, Option.isSome_none, Bool.false_eq_true, if_false, this]
        rw [show nz.toNat = ln by omega, show hn = xs.length by omega]
      · have := sliceBound_run (P := P) w ky ny cp .sliceAcap (by omega) (by omega)
        simp only [Option.map_none, Option.map_some, hy, Sem.run_bind, Sem.run_pure, Result.andThen_ok, if_true, this]
        rw [show ny.toNat = hn by omega, show ln = 0 by omega]
      · have e1 := sliceBound_run (P := P) w ky ny cp .sliceAcap (by omega) (by omega)
        have e2 := sliceBound_run (P := P) w kz nz ny.toNat .sliceB (by omega) (by omega)
        simp only [Option.map_some, hy, hz, Sem.run_bind, Sem.run_pure, Result.andThen_ok, if_true, Option.isSome_none, Bool.false_eq_true, if_false, e1, e2]
        rw [show ny.toNat = hn by omega, show nz.toNat = ln by omega]
    refine ⟨.slice (if cp = ln then a else a.map (·.add (ln * j.sz))) (hn - ln) (cp - ln), ?_, ?_⟩
    · simp [execOp, ho, h3, Instr.sliceAt, run_underlying hd, Instr.slice, hbnd, sizeOf_run hj]
    · unfold AVR FVR
      refine ⟨_, _, _, rfl, by simp; omega, by omega, trivial, ?_, ?_⟩
      · intro hnone
        split at hnone
        · have := h5 hnone; omega
        · cases a with
          | none => have := h5 rfl; omega
          | some ad => simp at hnone
      · rcases h6 with rfl | ⟨b, off, sz, rfl, h8⟩
        · exact .inl (by simp)
        · by_cases hemp : (xs.take hn).drop ln = []
          · exact .inl hemp
          · refine .inr ⟨b, off + ln * j.sz, j.sz, ?_, ?_⟩
            · have hlt : ln < xs.length := by
                refine Nat.lt_of_not_le fun hge => hemp ?_
                exact List.drop_eq_nil_of_le (by simp; omega)
              rw [if_neg (by omega)]
              simp [Addr.add_lit]
            · have hxs : xs ≠ [] := by rintro rfl; simp at hemp
              obtain ⟨c0, r0, hc0⟩ := List.exists_cons_of_ne_nil hxs
              have e1 := (h8.get 0 c0 (by simp [hc0])).1
              have e2 := hsz c0 (by simp [hc0])
              have e3 : sz = j.sz := by omega
              subst e3
              exact (h8.take hn).drop ln
/-- A cut of a string. -/
theorem ok_sliceStr {t : TypeId} {x : Operand} {lo hi : Option Operand} {s : ByteArray} {i : TI} {l h : Option Int} {ln hn : Nat} (ho : o.op = .slice t x lo hi none) (hx : ev Γ A x = some (.v (.str s)))
    (ht : TypeOk P t i) (hk : i.kind = .string) (hl : boundA Γ A lo = some l) (hh : boundA Γ A hi = some h) (hhn : h.getD s.size = hn) (hln : l.getD 0 = ln) (h1 : ln ≤ hn) (h2 : hn ≤ s.size) :
    OpOk P Γ o A S (.v (.str (s.extract ln hn))) S [] :=
  OpOk.pure fun M ρ w ac hO _ => by
    have h3 := hO x (by simp [ho, Op.operands]) _ hx
    unfold AVR FVR at h3
    obtain ⟨d, hd, h7⟩ := ht.desc
    rw [hk] at h7
    subst h7
    have hbnd : (Instr.sliceBounds false s.size s.size (lo.map ac.eval) (hi.map ac.eval) none).run P w = .ok (ln, hn, s.size) w := by
      have b1 := boundA_ok hO (x := lo) (by intro y hy; simp [ho, Op.operands, hy]) hl
      have b2 := boundA_ok hO (x := hi) (by intro y hy; simp [ho, Op.operands, hy]) hh
      unfold Instr.sliceBounds
      rcases b2 with ⟨rfl, rfl⟩ | ⟨y, ky, ny, rfl, hy, rfl⟩ <;> rcases b1 with ⟨rfl, rfl⟩ | ⟨z, kz, nz, rfl, hz, rfl⟩ <;> simp only [Option.getD_none, Option.getD_some] at hhn hln
      · simp only [Option.map_none, Sem.run_bind, Sem.run_pure, Result.andThen_ok]
        rw [show ln = 0 by omega, show hn = s.size by omega]
      · have := sliceBound_run (P := P) w kz nz s.size .sliceB (by omega) (by omega)
        simp only [Option.map_none, Option.map_some, hz, Sem.run_bind, Sem.run_pure, Result.andThen_ok, Option.isSome_none, Bool.false_eq_true, if_false, this]
        rw [show nz.toNat = ln by omega, show hn = s.size by omega]
      · have := sliceBound_run (P := P) w ky ny s.size .sliceAlen (by omega) (by omega)
        simp only [Option.map_none, Option.map_some, hy, Sem.run_bind, Sem.run_pure, Result.andThen_ok, Bool.false_eq_true, if_false, this]
        rw [show ny.toNat = hn by omega, show ln = 0 by omega]
      · have e1 := sliceBound_run (P := P) w ky ny s.size .sliceAlen (by omega) (by omega)
        have e2 := sliceBound_run (P := P) w kz nz ny.toNat .sliceB (by omega) (by omega)
        simp only [Option.map_some, hy, hz, Sem.run_bind, Sem.run_pure, Result.andThen_ok, Option.isSome_none, Bool.false_eq_true, if_false, e1, e2]
        rw [show ny.toNat = hn by omega, show nz.toNat = ln by omega]
    refine ⟨_, ?_, (by unfold AVR FVR; rfl)⟩
    simp [execOp, ho, h3, Instr.sliceAt, run_underlying hd, Instr.slice, hbnd]

/-! ### functions' values, checks of nil -/
theorem ok_nilCheck {x : Operand} {y : AV} (ho : o.op = .nilCheck x) (hx : ev Γ A x = some y) (hy : (∃ l off, y = .ptr l off) ∨ (∃ cs, y = .v (.fptr cs)) ∨ (∃ f a b, y = .fn f a b) ∨ ∃ f a b, y = .v (.fn f a b)) : OpOk P Γ o A S y S [] :=
  OpOk.pure fun M ρ w ac h _ => by
    have h1 := h x (by simp [ho, Op.operands]) _ hx
    refine ⟨ac.eval x, ?_, h1⟩
    rcases hy with ⟨l, off, rfl⟩ | ⟨cs, rfl⟩ | ⟨f, a, b, rfl⟩ | ⟨f, a, b, rfl⟩ <;> unfold AVR at h1
    · obtain ⟨b, _, h2⟩ := h1; simp [execOp, ho, h2]
    · unfold FVR at h1; obtain ⟨b, o, h2, _⟩ := h1; simp [execOp, ho, h2]
    · obtain ⟨vs, ws, h2, _⟩ := h1; simp [execOp, ho, h2]
    · unfold FVR at h1; obtain ⟨vs, ws, h2, _⟩ := h1; simp [execOp, ho, h2]
def evs (Γ : Glo) (A : Env) : List Operand → Option (List AV)
  | [] => some []
  | x :: r => match ev Γ A x, evs Γ A r with | some y, some ys => some (y :: ys) | _, _ => none
theorem evs_ok {M : Mem} {ρ : Nam} {a : Act} {all : List Operand} (h : OpsR M ρ Γ A a all) : ∀ {xs : List Operand} {ys : List AV}, (∀ x ∈ xs, x ∈ all) → evs Γ A xs = some ys → AVRs M ρ ys (xs.map a.eval)
  | [], ys, _, e => by simp [evs] at e; subst e; unfold AVRs; rfl
  | x :: r, ys, hm, e => by
    simp only [evs] at e
    split at e
    · rename_i y zs h1 h2
      obtain rfl := Option.some.inj e
      simp only [List.map_cons]
      unfold AVRs
      exact ⟨_, _, rfl, h x (hm x (by simp)) y h1, evs_ok h (fun z hz => hm z (by simp [hz])) h2⟩
    · cases e
theorem ok_makeFunc {f : FuncId} {first caps : Array Operand} {xs ys : List AV} (ho : o.op = .makeFunc (.func f) first caps) (h1 : evs Γ A first.toList = some xs) (h2 : evs Γ A caps.toList = some ys) : OpOk P Γ o A S (.fn f xs ys) S [] :=
  OpOk.pure fun M ρ w ac h _ => by
    refine ⟨.func (.func f) (first.map ac.eval) (caps.map ac.eval), by simp [execOp, ho, Instr.makeFunc], ?_⟩
    unfold AVR
    refine ⟨_, _, rfl, ?_, ?_⟩
    · simpa using evs_ok h (fun x hx => by simp [ho, Op.operands]; exact .inl (by simpa using hx)) h1
    · simpa using evs_ok h (fun x hx => by simp [ho, Op.operands]; exact .inr (by simpa using hx)) h2

/-! ### new boxes, stores -/
theorem sameAt_addBox {S : View} {l n : Nat} {cs : List AV} (h : n ∉ [l]) : (S.addBox l cs).sameAt S n := by
  have : n ≠ l := by simpa using h
  exact ⟨by simp [View.addBox, this], rfl, by simp [View.addBox, this]⟩
theorem patch_addBox {S S2 : View} {l : Nat} {cs : List AV} (h2 : ∀ n ∈ [l], S2.sameAt S n) : S2.patch [l] (S.addBox l cs) = S2.addBox l cs := View.ext' fun n => by
  by_cases hn : n = l
  · subst hn
    have := h2 n (by simp)
    exact ⟨by simp [View.patch, View.addBox], by simp [View.patch, View.addBox, this.2.1], by simp [View.patch, View.addBox]⟩
  · exact ⟨by simp [View.patch, View.addBox, hn], by simp [View.patch, View.addBox, hn], by simp [View.patch, View.addBox, hn]⟩
theorem ok_box {t : TypeId} {x : Operand} {y : AV} {l : Nat} {cs : List AV} (ho : o.op = .box t x) (hx : ev Γ A x = some y) (hc : cellsOf y = some cs) (hl : S.U l = false) : OpOk P Γ o A S (.ptr l 0) (S.addBox l cs) [l] :=
  OpOk.of_run (fun n hn => sameAt_addBox hn) fun S2 h2 M ρ w a h hG hSt => by
    have h1 := h x (by simp [ho, Op.operands]) _ hx
    obtain ⟨h3, h4⟩ := cellsOf_ok h1 hc
    have hU : S2.U l = false := (h2 l (by simp)).2.2.trans hl
    have hNx := Nx.addBox hSt l hU cs (a.eval x).cells t h3 (AVRs.one h3 h4)
    refine ⟨M, _, _, .pointer (some ⟨w.heap.size, 0, none⟩), .inl ?_, by rw [patch_addBox h2]; exact hNx, Nam.le_addBox (hSt.free l hU).1, ?_⟩
    · simp [execOp, ho, Instr.box, newVar, newRow]
    · unfold AVR; exact ⟨_, by simp [Nam.addBox], rfl⟩
theorem ok_alloc {t : TypeId} {i : TI} {l : Nat} (ho : o.op = .alloc t) (ht : TypeOk P t i) (hl : S.U l = false) : OpOk P Γ o A S (.ptr l 0) (S.addBox l (i.zero.map .v)) [l] :=
  OpOk.of_run (fun n hn => sameAt_addBox hn) fun S2 h2 M ρ w a h hG hSt => by
    obtain ⟨f, hf, _, _, z, hz, _, _, h1, h3, _⟩ := ht.info
    have hU : S2.U l = false := (h2 l (by simp)).2.2.trans hl
    have hNx := Nx.addBox hSt l hU (i.zero.map .v) z.cells t (AVRs_v.2 (h3 M)) h1
    refine ⟨M, _, _, .pointer (some ⟨w.heap.size, 0, none⟩), .inl ?_, by rw [patch_addBox h2]; exact hNx, Nam.le_addBox (hSt.free l hU).1, ?_⟩
    · simp [execOp, ho, Instr.alloc, zeroValue, typeInfo, hf, hz, newVar, newRow]
    · unfold AVR; exact ⟨_, by simp [Nam.addBox], rfl⟩
/-- cs with zs from place off on. -/
def splice (cs zs : List AV) (off : Nat) : List AV := cs.take off ++ zs ++ cs.drop (off + zs.length)
theorem sameAt_setBox {S : View} {l n : Nat} {cs : List AV} (h : n ∉ [l]) : (S.setBox l cs).sameAt S n := by
  have : n ≠ l := by simpa using h
  exact ⟨by simp [View.setBox, this], rfl, rfl⟩
theorem patch_setBox {S S2 : View} {l : Nat} {cs : List AV} (h2 : ∀ n ∈ [l], S2.sameAt S n) : S2.patch [l] (S.setBox l cs) = S2.setBox l cs := View.ext' fun n => by
  by_cases hn : n = l
  · subst hn
    have := h2 n (by simp)
    exact ⟨by simp [View.patch, View.setBox], by simp [View.patch, View.setBox, this.2.1], by simp [View.patch, View.setBox, this.2.2]⟩
  · exact ⟨by simp [View.patch, View.setBox, hn], by simp [View.patch, View.setBox, hn], by simp [View.patch, View.setBox, hn]⟩
theorem ok_store {t : TypeId} {x y : Operand} {i : TI} {l off : Nat} {z : AV} {cs zs : List AV} (ho : o.op = .store t x y) (hx : ev Γ A x = some (.ptr l off)) (hy : ev Γ A y = some z) (ht : TypeOk P t i) (hz : cellsOf z = some zs) (hzl : zs.length = i.sz) (hl : S.H l = some cs) (hfit : off + zs.length ≤ cs.length) :
    OpOk P Γ o A S (.v .any) (S.setBox l (splice cs zs off)) [l] :=
  OpOk.of_run (fun n hn => sameAt_setBox hn) fun S2 h2 M ρ w a h hG hSt => by
    have h1 := h x (by simp [ho, Op.operands]) _ hx
    unfold AVR at h1
    obtain ⟨b, h3, h4⟩ := h1
    obtain ⟨h5, h6⟩ := cellsOf_ok (h y (by simp [ho, Op.operands]) _ hy) hz
    have hl2 : S2.H l = some cs := (h2 l (by simp)).1.trans hl
    obtain ⟨b', c, ty, h7, h8, h9, h10, h11⟩ := hSt.box l cs hl2
    rw [h3] at h7
    obtain rfl := Option.some.inj h7
    have hlen : (a.eval y).cells.toList.length = i.sz := by rw [AVRs.len h5]; exact hzl
    have hcl : c.toList.length = cs.length := AVRs.len h9
    have hst := run_storeCells_at P b off ty (a.eval y).cells.toList 0 c w h8 (by rw [hlen, ← hzl]; rw [← hcl] at hfit; simpa using hfit) (AVRs.one h5 h6)
    simp only [Nat.add_zero] at hst
    have hsz : ¬ (a.eval y).cells.size ≠ i.sz := by simpa using hlen
    refine ⟨M, ρ, w.setRow b (c.toList.take off ++ (a.eval y).cells.toList ++ c.toList.drop (off + (a.eval y).cells.toList.length)).toArray, undef, .inr ⟨?_, rfl⟩, ?_, ρ.le_refl, by unfold AVR FVR; trivial⟩
    · simp [execOp, ho, h4, Instr.storeAt, Instr.sureAddr, storeVar, sizeOf_run ht, hsz, hst]
    · rw [patch_setBox h2]
      refine Nx.setBox hSt l b cs _ hl2 h3 _ ty (setRow_heap w b c _ ty _ h8) (fun k hk => setRow_other w b k _ hk) rfl rfl rfl (by simp) ?_ ?_
      · have e1 : (a.eval y).cells.toList.length = zs.length := AVRs.len h5
        unfold splice
        rw [e1]
        exact ((h9.take off).append h5).append (h9.drop (off + zs.length))
      · intro u hu
        simp only [List.mem_append] at hu
        rcases hu with (hu | hu) | hu
        · exact h10 u (List.mem_of_mem_take hu)
        · exact AVRs.one h5 h6 u hu
        · exact h10 u (List.mem_of_mem_drop hu)
end
end Go.Pav
namespace Go.Pav
open Go.RowKit
section
variable {P : Program} {TT : TypeId → Option TI} {Γ : Glo} {o : Oper} {A : Env} {S : View}

theorem run_append_zero (w : World) (t ty e : TypeId) (i : TypeInfo) (ht : P.underlying t = some (.slice e)) (hi : P.info? e = some i) (a : Option Addr) (n c : Nat) (hn : n ≤ c) (a' : Option Addr) (c' : Nat) :
    (Builtin.append_ #[t, t] ty #[.slice a n c, .slice a' 0 c']).run P w = .ok (.slice a n c) w := by
  have hf : (Builtin.firstCells i.size 0 (.slice a' 0 c')).run P w = .ok #[] w := by
    cases a' with
    | none => simp [Builtin.firstCells]
    | some b => simp [Builtin.firstCells, loadCells, loadCellsFrom]
  cases a with
  | none => simp [Builtin.append_, run_underlying ht, sizeOf, typeInfo, hi, Builtin.lenOf, hn, hf]
  | some b => simp [Builtin.append_, run_underlying ht, sizeOf, typeInfo, hi, Builtin.lenOf, hn, hf, storeCells]

theorem setTok_setTok (S : View) (t : Nat) (x y : List (List FV) × TypeId × Nat) : (S.setTok t x).setTok t y = S.setTok t y := View.ext' fun n => by
  by_cases hn : n = t
  · subst hn; exact ⟨rfl, by simp [View.setTok], by simp [View.setTok]⟩
  · exact ⟨rfl, by simp [View.setTok, hn], by simp [View.setTok]⟩
theorem setTok_self {M : Mem} {ρ : Nam} {w : World} {S : View} (h : St M ρ w S) {t : Nat} {x : List (List FV) × TypeId × Nat} (hx : S.T t = some x) : S.setTok t x = S := View.ext' fun n => by
  have hU : S.U t = true := by
    cases hU : S.U t with
    | true => rfl
    | false => rw [(h.freeH t hU).2] at hx; cases hx
  by_cases hn : n = t
  · subst hn; exact ⟨rfl, by simp [View.setTok, hx], by simp [View.setTok, hU]⟩
  · exact ⟨rfl, by simp [View.setTok, hn], by simp [View.setTok, hn]⟩

/-- A slice whose capacity is its length becomes token t's. -/
theorem Nx.adopt {M : Mem} {ρ : Nam} {w : World} {S : View} (h : St M ρ w S) (t : Nat) (hU : S.U t = false) (xs : List (List FV)) (e : TypeId) (hE : e < BIG) (sz : Nat) (hx : ∀ c ∈ xs, c.length = sz) {k : SK} (hk : k = .nil ∨ k = .full) {v : Value} (hv : FVR M (.sl k xs) v) :
    ∃ ρ', Nx M ρ w S M ρ' w (S.setTok t (xs, e, sz)) ∧ ρ.le ρ' ∧ AVR M ρ' (.tsl t xs) v ∧ (∀ n, n ≠ t → ρ'.tok n = ρ.tok n) ∧ ρ'.box = ρ.box := by
  have hv' : FVR M (.sl .some xs) v := by
    unfold FVR at hv ⊢
    obtain ⟨a, n, c, h1, h2, h3, _, h5⟩ := hv
    exact ⟨a, n, c, h1, h2, h3, trivial, h5⟩
  have hfull : ∃ a, v = .slice a xs.length xs.length := by
    unfold FVR at hv
    obtain ⟨a, n, c, h1, h2, h3, h4, h5, _⟩ := hv
    subst h2
    rcases hk with rfl | rfl
    · simp only [SK.ok] at h4
      exact ⟨a, by rw [h1, h4.2.2, h4.2.1]⟩
    · simp only [SK.ok] at h4
      exact ⟨a, by rw [h1, ← h4]⟩
  have hfr := h.free t hU
  have hfH := h.freeH t hU
  have hle : ρ.le (ρ.setTok t ⟨xs.length, fun _ => v, none⟩) := ⟨fun _ _ hb => hb, fun n j hj => by
    simp only [Nam.setTok]
    split
    · rename_i e1; subst e1; rw [hfr.2] at hj; cases hj
    · exact ⟨j, hj, Nat.le_refl _, fun _ _ => rfl⟩⟩
  refine ⟨ρ.setTok t ⟨xs.length, fun _ => v, none⟩, ⟨⟨h.mem, ?_, ?_, h.boxes, ?_, ?_, ?_, ?_⟩, Fr.refl _ _ _, ?_⟩, hle, ?_, ?_, rfl⟩
  · intro l cs hl
    obtain ⟨b, c, ty, h1, h2, h3, h4⟩ := h.box l cs hl
    exact ⟨b, c, ty, h1, h2, AVRs.mono M.le_refl hle _ _ h3, h4⟩
  · intro n ys e1 sz1 hn
    simp only [View.setTok] at hn
    split at hn
    · rename_i e2
      subst e2
      obtain ⟨rfl, rfl, rfl⟩ : xs = ys ∧ e = e1 ∧ sz = sz1 := by simpa using hn
      exact ⟨⟨xs.length, fun _ => v, none⟩, by simp [Nam.setTok], by rw [slv_of hE, eff_of (big_lt hE)]; exact hv', hx, (plen_of hE _).symm, hE, hfull⟩
    · rename_i e2
      obtain ⟨j, h1, h2⟩ := h.tok n ys e1 sz1 hn
      exact ⟨j, by simp only [Nam.setTok]; rw [if_neg e2]; exact h1, h2⟩
  · intro n n' x x' j j' b h1 h2 h3 h4 h5 h6
    simp only [View.setTok, Nam.setTok] at h1 h2 h3 h4
    split at h1 <;> split at h2 <;> rename_i e1 e2
    · rw [e1, e2]
    · simp only [e1, if_true] at h3
      obtain rfl := Option.some.inj h3
      cases h5
    · simp only [e2, if_true] at h4
      obtain rfl := Option.some.inj h4
      cases h6
    · simp only [e1, e2, if_false] at h3 h4
      exact h.toks n n' x x' j j' b h1 h2 h3 h4 h5 h6
  · intro l n ds x j b h1 h2 h3 h4 h5
    simp only [View.setTok, Nam.setTok] at h2 h4
    split at h2 <;> rename_i e1
    · simp only [e1, if_true] at h4
      obtain rfl := Option.some.inj h4
      cases h5
    · simp only [e1, if_false] at h4
      exact h.mixed l n ds x j b h1 h2 h3 h4 h5
  · intro n hn
    simp only [View.setTok, Bool.or_eq_false_iff, beq_eq_false_iff_ne] at hn
    have := h.free n hn.2
    simp only [Nam.setTok, if_neg hn.1]
    exact this
  · intro n hn
    simp only [View.setTok, Bool.or_eq_false_iff, beq_eq_false_iff_ne] at hn
    have := h.freeH n hn.2
    simp only [View.setTok, if_neg hn.1]
    exact this
  · intro b hb
    rcases hb with ⟨l, ds, h1, h2⟩ | ⟨n, x, j, h1, h2, h3⟩
    · exact .inl (.inl ⟨l, ds, h1, h2⟩)
    · simp only [View.setTok, Nam.setTok] at h1 h2
      split at h1 <;> rename_i e1
      · simp only [e1, if_true] at h2
        obtain rfl := Option.some.inj h2
        cases h3
      · simp only [e1, if_false] at h2
        exact .inl (.inr ⟨n, x, j, h1, h2, h3⟩)
  · unfold AVR
    exact ⟨hv', ⟨xs.length, fun _ => v, none⟩, by simp [Nam.setTok], Nat.le_refl _, rfl⟩
  · intro n hn
    simp only [Nam.setTok, if_neg hn]

theorem madeZero {i : TypeInfo} {z : Value} {n : Nat} (h : z.cells.size = i.size) : (Builtin.zeroCells z.cells n).size = n * i.size := by simp [Builtin.zeroCells, h]

/-- append to token t's slice. -/
theorem append_tok {M : Mem} {ρ : Nam} {w : World} {S : View} (h : St M ρ w S) (T tp : TypeId) (e : TypeId) (hE : e < BIG) (ie : TI) (hT : P.underlying T = some (.slice e)) (he : TypeOk P e ie) (t : Nat) (xs ys : List (List FV)) (hS : S.T t = some (xs, e, ie.sz)) {vx vy : Value} (hx : AVR M ρ (.tsl t xs) vx)
    {k : SK} (hy : FVR M (.sl k ys) vy) (hys : ∀ c ∈ ys, c.length = ie.sz) (hlen : xs.length + ys.length ≤ 140737488355328) (hby : (xs.length + ys.length) * ie.by_ ≤ 140737488355328) :
    ∃ v' w' M' ρ', (Builtin.append_ #[T, T] tp #[vx, vy]).run P w = .ok v' w' ∧ Nx M ρ w S M' ρ' w' (S.setTok t (xs ++ ys, e, ie.sz)) ∧ ρ.le ρ' ∧ AVR M' ρ' (.tsl t (xs ++ ys)) v' ∧ (∀ n, n ≠ t → ρ'.tok n = ρ.tok n) ∧ ρ'.box = ρ.box := by
  obtain ⟨f, hf, hfs, hfb, z, hz, _, hzs, hz1, _⟩ := he.info
  obtain ⟨i, hi, hiv, hxs, hlen', htok⟩ := h.tok t xs e ie.sz hS
  rw [plen_of hE] at hlen'
  have hvx := hx
  unfold AVR at hvx
  obtain ⟨hvx1, i', hi', _, hvx2⟩ := hvx
  rw [hi] at hi'
  obtain rfl := Option.some.inj hi'
  have hzsz : z.cells.size = f.size := by rw [hzs, hfs]
  by_cases hm : ys = []
  · subst hm
    have hvy := hy
    unfold FVR at hvx1 hvy
    obtain ⟨a, n, c, h1, _, h3, _⟩ := hvx1
    obtain ⟨a', n', c', h4, h5, _⟩ := hvy
    simp only [List.length_nil] at h5
    subst h5
    refine ⟨vx, w, M, ρ, ?_, ?_, ρ.le_refl, by simpa using hx, fun _ _ => rfl, rfl⟩
    · rw [h1, h4]; exact run_append_zero w T tp e f hT hf a n c h3.1 a' c'
    · rw [List.append_nil, setTok_self h hS]; exact Nx.refl h
  · have hmpos : 0 < ys.length := List.length_pos_iff.2 hm
    obtain ⟨ay, m, cy, ds, hvy, rfl, _, _, hay, hds, hdc⟩ := FVR.sl_cells h.mem hy hys
    obtain ⟨ax, n, cx, cs, hvxs, rfl, hncx, _, hax, hcs, hcc⟩ := FVR.sl_cells h.mem hvx1 hxs
    have hayne : ∃ ad, ay = some ad := by
      cases ay with
      | none =>
        have := hay rfl
        unfold FVR at hy
        obtain ⟨a', n', c', h4, h5, h6, _⟩ := hy
        rw [hvy] at h4
        simp only [Value.slice.injEq] at h4
        omega
      | some ad => exact ⟨ad, rfl⟩
    obtain ⟨ad, rfl⟩ := hayne
    have hdl : ds.length = ys.length * f.size := by rw [hds.1, hfs]
    have hdcell : ∀ j u, ds[j]? = some u → w.cell? (ad.add j) = some u := fun j u hj => (hdc ad rfl j u hj).1
    have hd1 : ∀ u ∈ ds, u.oneCell' = true := hds.oneCell
    have hrows := hcs.append hds
    have hrsz : ∀ c ∈ xs ++ ys, c.length = ie.sz := fun c hc => (List.mem_append.1 hc).elim (hxs c) (hys c)
    have hlapp : (xs ++ ys).length = xs.length + ys.length := List.length_append
    -- the slice moves to a new block
    have moved : ∀ (cap : Nat) (cur : Array Value), xs.length + ys.length ≤ cap → cap ≤ maxLen → cur.size = cap * ie.sz → cur.toList.take ((xs ++ ys).length * ie.sz) = cs ++ ds →
        ∃ M' ρ', Nx M ρ w S M' ρ' (w.drew.alloc (.cells cur e)) (S.setTok t (xs ++ ys, e, ie.sz)) ∧ ρ.le ρ' ∧ AVR M' ρ' (.tsl t (xs ++ ys)) (.slice (some ⟨w.heap.size, 0, none⟩) (xs.length + ys.length) cap) ∧ (∀ n, n ≠ t → ρ'.tok n = ρ.tok n) ∧ ρ'.box = ρ.box := by
      intro cap cur h1 h2 h3 h4
      obtain ⟨M', ρ', v', rfl, h5, h6, h7, h8, h9⟩ := Nx.setTok (w' := w.drew.alloc (.cells cur e)) h t i (.inl hi) (xs ++ ys) e hE ie.sz w.heap.size cap cur (cs ++ ds) (.inr (Nat.le_refl _)) (heap_alloc_new w.drew _) (by rw [hlapp]; exact h1) (by rw [hlapp]; exact hlen) h2 h3 h4 hrows hrsz
        (fun _ => ⟨by rw [hlapp]; omega, fun e1 => by rw [hlapp] at e1; omega⟩) (fun o u hu => by rw [h.mem_new (Nat.le_refl _)] at hu; cases hu)
        ⟨rfl, rfl, rfl, by simp, fun b hb _ => Below.heap_alloc w.drew _ b hb⟩
      exact ⟨M', ρ', h5, h6, by rw [hlapp] at h7; exact h7, h8, h9⟩
    have hmaxn : ∀ (need old : Nat), need ≤ 9223372036854775807 → grownCap w need old e ≤ maxLen := fun need old hn => grownCap_le_maxLen w need old e (by unfold maxLen; omega)
    have hzc : ∀ n, (Builtin.zeroCells z.cells n).size = n * ie.sz := fun n => by rw [madeZero hzsz, hfs]
    have grow : ∀ old, cs.length = xs.length * ie.sz → old < xs.length + ys.length → ∃ M' ρ', Nx M ρ w S M' ρ' (w.drew.alloc (.cells (cs.toArray ++ ds.toArray ++ Builtin.zeroCells z.cells (grownCap w (xs.length + ys.length) old e - (xs.length + ys.length))) e)) (S.setTok t (xs ++ ys, e, ie.sz)) ∧ ρ.le ρ' ∧
        AVR M' ρ' (.tsl t (xs ++ ys)) (.slice (some ⟨w.heap.size, 0, none⟩) (xs.length + ys.length) (grownCap w (xs.length + ys.length) old e)) ∧ (∀ n, n ≠ t → ρ'.tok n = ρ.tok n) ∧ ρ'.box = ρ.box := by
      intro old h1 h2
      have hge := grownCap_ge w (xs.length + ys.length) old e
      refine moved _ _ hge (hmaxn _ _ (by omega)) ?_ ?_
      · simp only [Array.size_append, List.size_toArray, hzc, h1, hds.1, ← Nat.add_mul]
        congr 1
        omega
      · simp only [Array.toList_append]
        rw [show (xs ++ ys).length * ie.sz = (cs ++ ds).length by rw [hlapp, List.length_append, h1, hds.1, Nat.add_mul]]
        exact List.take_left
    have hlen1 : ((xs.length + ys.length : Nat) : Int) ≤ 9223372036854775807 := by omega
    cases ho : i.own with
    | none =>
      rw [ho] at htok
      obtain ⟨_, a, hva⟩ := htok
      have hvn : vx = .slice a xs.length xs.length := by rw [hvx2]; exact hva
      rw [hvn] at hvxs
      simp only [Value.slice.injEq, true_and] at hvxs
      obtain ⟨rfl, rfl⟩ := hvxs
      obtain ⟨M', ρ', h1, h2, h3, h4, h5⟩ := grow xs.length hcs.1 (by omega)
      cases a with
      | none =>
        have hx0 : xs.length = 0 := hax rfl
        have hxn : xs = [] := List.eq_nil_of_length_eq_zero hx0
        have hc0 : cs = [] := List.eq_nil_of_length_eq_zero (by rw [hcs.1, hx0, Nat.zero_mul])
        have hr := run_append_nil (P := P) w T tp e f z hT hf hz ad ys.length cy ds hdl hdcell hmpos (by omega) (by rw [hfb]; rw [hx0, Nat.zero_add] at hby; omega)
        refine ⟨_, _, M', ρ', ?_, h1, h2, h3, h4, h5⟩
        rw [hvn, hvy]
        subst hxn
        subst hc0
        simpa using hr
      | some b =>
        have hr := run_append_grow (P := P) w T tp e f z hT hf hz b xs.length xs.length cs (by rw [hcs.1, hfs]) (fun j u hj => (hcc b rfl j u hj).1) ad ys.length cy ds hdl hdcell (by omega) hlen1 (growslice_fits (by omega) (by rw [hfb]; exact hby))
        exact ⟨_, _, M', ρ', by rw [hvn, hvy]; exact hr, h1, h2, h3, h4, h5⟩
    | some g =>
      rw [ho] at htok
      obtain ⟨cap, cur, hva, hg, hncap, hcmax, hcsz, hfree⟩ := htok
      rw [plen_of hE] at hva hncap
      replace hg := hg.cells (big_lt hE)
      rw [realE_of hE] at hg
      have hvn : vx = .slice (some ⟨g, 0, none⟩) xs.length cap := by rw [hvx2]; exact hva
      rw [hvn] at hvxs
      simp only [Value.slice.injEq, true_and] at hvxs
      obtain ⟨rfl, rfl⟩ := hvxs
      have hcg : ∀ j u, cs[j]? = some u → w.cell? ((⟨g, 0, none⟩ : Addr).add j) = some u := fun j u hj => (hcc _ rfl j u hj).1
      by_cases hroom : xs.length + ys.length ≤ cap
      · have hnm : (xs.length + ys.length) * ie.sz ≤ cap * ie.sz := Nat.mul_le_mul_right _ hroom
        have hfit : xs.length * f.size + ds.length ≤ cur.size := by rw [hdl, hfs, hcsz, ← Nat.add_mul]; exact hnm
        have hr := run_append_room (P := P) w T tp e f hT hf g xs.length cap cur hg ad ys.length cy ds hdl hdcell hd1 hroom hfit
        rw [hfs] at hr hfit
        have htake : cur.toList.take (xs.length * ie.sz) = cs := by
          apply List.ext_getElem?
          intro j
          rw [List.getElem?_take]
          split
          · rename_i hj
            have hj' : j < cs.length := by rw [hcs.1]; exact hj
            have := hcg j _ (List.getElem?_eq_getElem hj')
            rw [Addr.add_lit, Nat.zero_add, cell_of_row w g j cur e (0, 0) hg] at this
            rw [List.getElem?_eq_getElem hj', ← this]
            simp
          · rename_i hj
            rw [List.getElem?_eq_none (by rw [hcs.1]; omega)]
        obtain ⟨M', ρ', v', rfl, h5, h6, h7, h8, h9⟩ := Nx.setTok (w' := w.setRow g (cur.toList.take (xs.length * ie.sz) ++ ds ++ cur.toList.drop (xs.length * ie.sz + ds.length)).toArray) h t i (.inl hi) (xs ++ ys) e hE ie.sz g cap _ (cs ++ ds) (.inl ⟨hi, ho, _, hS⟩) (setRow_heap w g cur _ e _ hg) (by rw [hlapp]; exact hroom) (by rw [hlapp]; exact hlen) hcmax
          (by simp only [List.size_toArray, List.length_append, List.length_take, List.length_drop, Array.length_toList]; omega)
          (by
            rw [htake, show (xs ++ ys).length * ie.sz = (cs ++ ds).length by rw [hlapp, List.length_append, hcs.1, hds.1, Nat.add_mul]]
            exact List.take_left) hrows hrsz
          (fun _ => ⟨by rw [hlapp]; omega, fun e1 => by rw [hlapp] at e1; omega⟩)
          (fun o u hu => by
            have hlt : o < xs.length * ie.sz := by
              refine Nat.lt_of_not_le fun hge => ?_
              rw [hfree o hge] at hu
              cases hu
            have h10 := h.mem g o u hu
            rw [cell_of_row w g o cur e (0, 0) hg] at h10
            have h11 : cs[o]? = some u := by rw [← htake, List.getElem?_take, if_pos hlt]; simpa using h10
            rw [List.getElem?_append_left (List.getElem?_eq_some_iff.1 h11).1]
            exact h11)
          ⟨rfl, rfl, rfl, by simp, fun b _ hk => setRow_other w g b _ (fun e1 => hk (by rw [e1]))⟩
        exact ⟨_, _, M', ρ', by rw [hvn, hvy]; exact hr, h5, h6, by rw [hlapp] at h7; exact h7, h8, h9⟩
      · obtain ⟨M', ρ', h1, h2, h3, h4, h5⟩ := grow cap hcs.1 (by omega)
        have hr := run_append_grow (P := P) w T tp e f z hT hf hz ⟨g, 0, none⟩ xs.length cap cs (by rw [hcs.1, hfs]) hcg ad ys.length cy ds hdl hdcell (by omega) hlen1 (growslice_fits (by omega) (by rw [hfb]; exact hby))
        exact ⟨_, _, M', ρ', by rw [hvn, hvy]; exact hr, h1, h2, h3, h4, h5⟩

theorem sameAt_setTok {S : View} {t n : Nat} {x : List (List FV) × TypeId × Nat} (h : n ∉ [t]) : (S.setTok t x).sameAt S n := by
  have : n ≠ t := by simpa using h
  exact ⟨rfl, by simp [View.setTok, this], by simp [View.setTok, this]⟩
theorem patch_setTok {S S2 : View} {t : Nat} {x : List (List FV) × TypeId × Nat} (h2 : ∀ n ∈ [t], S2.sameAt S n) : S2.patch [t] (S.setTok t x) = S2.setTok t x := View.ext' fun n => by
  by_cases hn : n = t
  · subst hn
    have := h2 n (by simp)
    exact ⟨by simp [View.patch, View.setTok, this.1], by simp [View.patch, View.setTok], by simp [View.patch, View.setTok]⟩
  · exact ⟨by simp [View.patch, View.setTok, hn], by simp [View.patch, View.setTok, hn], by simp [View.patch, View.setTok, hn]⟩
/-- The elements of a slice. -/
def slOf : AV → Option (List (List FV))
  | .v (.sl _ xs) => some xs
  | .tsl _ xs => some xs
  | _ => none
theorem slOf_ok {M : Mem} {ρ : Nam} {x : AV} {v : Value} {xs : List (List FV)} (h : AVR M ρ x v) (hx : slOf x = some xs) : FVR M (.sl .some xs) v := by
  unfold slOf at hx
  split at hx
  · obtain rfl := Option.some.inj hx
    unfold AVR FVR at h
    unfold FVR
    obtain ⟨a, n, c, h1, h2, h3, _, h5⟩ := h
    exact ⟨a, n, c, h1, h2, h3, trivial, h5⟩
  · obtain rfl := Option.some.inj hx
    unfold AVR at h
    exact h.1
  · cases hx
/-- append(x, y...), x a token's. -/
theorem ok_appendTok {c : Call} {x y : Operand} {T e : TypeId} {iT ie : TI} {t : Nat} {xs ys : List (List FV)} {yv : AV} (ho : o.op = .call c) (hc : c.callee = .builtin .append) (ha : c.args = #[x, y]) (hat : c.argTypes = #[T, T]) (hx : ev Γ A x = some (.tsl t xs)) (hy : ev Γ A y = some yv) (hys : slOf yv = some ys)
    (hT : TypeOk P T iT) (hk : iT.kind = .slice e) (hE : e < BIG) (he : TypeOk P e ie) (hS : S.T t = some (xs, e, ie.sz)) (hsz : ∀ c ∈ ys, c.length = ie.sz) (hlen : xs.length + ys.length ≤ 140737488355328) (hby : (xs.length + ys.length) * ie.by_ ≤ 140737488355328) :
    OpOk P Γ o A S (.tsl t (xs ++ ys)) (S.setTok t (xs ++ ys, e, ie.sz)) [t] :=
  OpOk.of_run (fun n hn => sameAt_setTok hn) fun S2 h2 M ρ w a h hG hSt => by
    have h1 := h x (by simp [ho, Op.operands, Call.operands, ha]) _ hx
    have h3 := slOf_ok (h y (by simp [ho, Op.operands, Call.operands, ha]) _ hy) hys
    obtain ⟨d, hd, h4⟩ := hT.desc
    rw [hk] at h4
    subst h4
    obtain ⟨v', w', M', ρ', h5, h6, h7, h8, _⟩ := append_tok (P := P) hSt T o.type e hE ie hd he t xs ys ((h2 t (by simp)).2.1.trans hS) h1 h3 hsz hlen hby
    exact ⟨M', ρ', w', v', .inl (by simp [execOp, ho, resolve, hc, ha, hat, invoke, builtin, h5]), by rw [patch_setTok h2]; exact h6, h7, h8⟩
/-- append(x, y...), x nil, or as long as its capacity: a new token. -/
theorem ok_appendNew {c : Call} {x y : Operand} {T e : TypeId} {iT ie : TI} {t : Nat} {k : SK} {xs ys : List (List FV)} {yv : AV} (ho : o.op = .call c) (hc : c.callee = .builtin .append) (ha : c.args = #[x, y]) (hat : c.argTypes = #[T, T]) (hx : ev Γ A x = some (.v (.sl k xs))) (hkk : k = .nil ∨ k = .full) (hy : ev Γ A y = some yv) (hys : slOf yv = some ys)
    (hT : TypeOk P T iT) (hk : iT.kind = .slice e) (hE : e < BIG) (he : TypeOk P e ie) (hU : S.U t = false) (hxs : ∀ c ∈ xs, c.length = ie.sz) (hsz : ∀ c ∈ ys, c.length = ie.sz) (hlen : xs.length + ys.length ≤ 140737488355328) (hby : (xs.length + ys.length) * ie.by_ ≤ 140737488355328) :
    OpOk P Γ o A S (.tsl t (xs ++ ys)) (S.setTok t (xs ++ ys, e, ie.sz)) [t] :=
  OpOk.of_run (fun n hn => sameAt_setTok hn) fun S2 h2 M ρ w a h hG hSt => by
    have h1 := h x (by simp [ho, Op.operands, Call.operands, ha]) _ hx
    unfold AVR at h1
    have h3 := slOf_ok (h y (by simp [ho, Op.operands, Call.operands, ha]) _ hy) hys
    obtain ⟨d, hd, h4⟩ := hT.desc
    rw [hk] at h4
    subst h4
    obtain ⟨ρ1, h9, h10, h11, _⟩ := Nx.adopt hSt t ((h2 t (by simp)).2.2.trans hU) xs e hE ie.sz hxs hkk h1
    obtain ⟨v', w', M', ρ', h5, h6, h7, h8, _⟩ := append_tok (P := P) h9.st T o.type e hE ie hd he t xs ys (by simp [View.setTok]) h11 h3 hsz hlen hby
    refine ⟨M', ρ', w', v', .inl (by simp [execOp, ho, resolve, hc, ha, hat, invoke, builtin, h5]), ?_, Nam.le_trans h10 h7, h8⟩
    rw [patch_setTok h2, ← setTok_setTok S2 t (xs, e, ie.sz)]
    exact h9.trans h6
end
end Go.Pav
namespace Go.Pav
open Go.RowKit
section
variable {P : Program} {TT : TypeId → Option TI} {Γ : Glo} {o : Oper} {A : Env} {S : View}

theorem foldl_set (off : Nat) : ∀ (l : List Value) (k : Nat) (cs : Array Value), off + k + l.length ≤ cs.size →
    ((l.zipIdx k).foldl (fun (cs : Array Value) (p : Value × Nat) => cs.setIfInBounds (off + p.2) p.1) cs).toList = cs.toList.take (off + k) ++ l ++ cs.toList.drop (off + k + l.length)
  | [], k, cs, _ => by simp
  | v :: r, k, cs, h => by
    simp only [List.length_cons] at h
    rw [List.zipIdx_cons, List.foldl_cons, foldl_set off r (k + 1) _ (by simp; omega)]
    simp only [Array.toList_setIfInBounds, List.length_cons]
    have hlt : off + k < cs.toList.length := by simp; omega
    rw [List.take_set, List.drop_set, if_pos (by omega), show off + (k + 1) = off + k + 1 by omega, List.take_succ_eq_append_getElem hlt]
    rw [List.set_append_right _ _ (by simp; omega)]
    simp only [List.length_take, Array.length_toList]
    rw [show off + k - min (off + k) cs.size = 0 by omega]
    simp only [List.set_cons_zero]
    rw [show off + k + 1 + r.length = off + k + (r.length + 1) by omega]
    simp

/-- The parts laid into cells. -/
def fillA (place : Nat → Option (Nat × Nat)) (cells : List AV) : List (Nat × AV) → Option (List AV)
  | [] => some cells
  | (i, x) :: rest =>
    match place i, cellsOf x with
    | some (off, size), some zs => if zs.length = size ∧ off + size ≤ cells.length then fillA place (splice cells zs off) rest else none
    | _, _ => none
def PartsR (M : Mem) (ρ : Nam) : List (Nat × AV) → List (Nat × Value) → Prop
  | [], vs => vs = []
  | (i, x) :: r, vs => ∃ u us, vs = (i, u) :: us ∧ AVR M ρ x u ∧ PartsR M ρ r us
theorem fillA_ok {M : Mem} {ρ : Nam} {place place' : Nat → Option (Nat × Nat)} (hp : ∀ i x, place i = some x → place' i = some x) : ∀ {parts : List (Nat × AV)} {vs : List (Nat × Value)} {cells cells' : List AV} {cs : Array Value}, PartsR M ρ parts vs → AVRs M ρ cells cs.toList → (∀ u ∈ cs.toList, u.oneCell' = true) → fillA place cells parts = some cells' →
    ∃ cs', Instr.fill place' cs vs = some cs' ∧ AVRs M ρ cells' cs'.toList ∧ ∀ u ∈ cs'.toList, u.oneCell' = true
  | [], vs, cells, cells', cs, hv, hc, h1, hf => by
    unfold PartsR at hv
    subst hv
    simp only [fillA, Option.some.injEq] at hf
    subst hf
    exact ⟨cs, by simp [Instr.fill], hc, h1⟩
  | (i, x) :: r, vs, cells, cells', cs, hv, hc, h1, hf => by
    unfold PartsR at hv
    obtain ⟨u, us, rfl, h2, h3⟩ := hv
    simp only [fillA] at hf
    split at hf
    · rename_i off size zs hpl hz
      split at hf
      · rename_i hcond
        obtain ⟨h4, h5⟩ := cellsOf_ok h2 hz
        have hlen : u.cells.toList.length = zs.length := AVRs.len h4
        have hcl : cs.toList.length = cells.length := AVRs.len hc
        have hfit : off + u.cells.size ≤ cs.size := by
          have e1 : u.cells.size = zs.length := by simpa using hlen
          have e2 : cs.size = cells.length := by simpa using hcl
          omega
        have hfold := foldl_set off u.cells.toList 0 cs (by simpa using hfit)
        simp only [Nat.add_zero] at hfold
        have hnew : AVRs M ρ (splice cells zs off) ((u.cells.toList.zipIdx 0).foldl (fun (cs : Array Value) (p : Value × Nat) => cs.setIfInBounds (off + p.2) p.1) cs).toList := by
          rw [hfold]
          unfold splice
          rw [hlen]
          exact ((hc.take off).append h4).append (hc.drop (off + zs.length))
        have hone : ∀ v ∈ ((u.cells.toList.zipIdx 0).foldl (fun (cs : Array Value) (p : Value × Nat) => cs.setIfInBounds (off + p.2) p.1) cs).toList, v.oneCell' = true := by
          rw [hfold]
          intro v hv
          simp only [List.mem_append] at hv
          rcases hv with (hv | hv) | hv
          · exact h1 v (List.mem_of_mem_take hv)
          · exact AVRs.one h4 h5 v hv
          · exact h1 v (List.mem_of_mem_drop hv)
        obtain ⟨cs', h6, h7, h8⟩ := fillA_ok hp h3 hnew hone hf
        refine ⟨cs', ?_, h7, h8⟩
        simp only [Instr.fill, hp i _ hpl]
        have hcnd : (u.cells.size ≠ size || off + u.cells.size > cs.size) = false := by
          have e1 : u.cells.size = zs.length := by simpa using hlen
          simp only [Bool.or_eq_false_iff, decide_eq_false_iff_not, ne_eq, Decidable.not_not, gt_iff_lt, Nat.not_lt]
          exact ⟨by omega, hfit⟩
        rw [hcnd]
        simp only [Bool.false_eq_true, if_false]
        rw [← h6]
        congr 1
        rw [← Array.foldl_toList, Array.toList_zipIdx]
      · cases hf
    · cases hf

def placeS (fs : List (Nat × TypeId × Nat)) (i : Nat) : Option (Nat × Nat) := (fs[i]?).map fun f => (f.1, f.2.2)
theorem places_of {P : Program} : ∀ {as : List Field} {fs : List (Nat × TypeId × Nat)}, as.map (fun f => (f.offset, f.type)) = fs.map (fun f => (f.1, f.2.1)) → (∀ f ∈ fs, (P.info? f.2.1).map (·.size) = some f.2.2) →
    as.mapM (fun f => (P.info? f.type).map fun i => (f.offset, i.size)) = some (fs.map fun f => (f.1, f.2.2))
  | [], [], _, _ => rfl
  | [], _ :: _, h, _ => by simp at h
  | _ :: _, [], h, _ => by simp at h
  | a :: as, f :: fs, h, hs => by
    simp only [List.map_cons, List.cons.injEq, Prod.mk.injEq] at h
    have h1 := hs f (by simp)
    obtain ⟨i, h2, h3⟩ := Option.map_eq_some_iff.1 h1
    have ih := places_of h.2 (fun g hg => hs g (by simp [hg]))
    simp only [List.mapM_cons, h.1.2, h2, Option.map_some, ih, h.1.1, h3, List.map_cons]
    rfl
/-- A struct put together. -/
theorem ok_buildS {t : TypeId} {parts : Array (Nat × Operand)} {i : TI} {fs : List (Nat × TypeId × Nat)} {ps : List (Nat × AV)} {cells : List AV} (ho : o.op = .build t parts) (ht : TypeOk P t i) (hk : i.kind = .struct fs)
    (hps : parts.toList.map (·.1) = ps.map (·.1)) (hev : evs Γ A (parts.toList.map (·.2)) = some (ps.map (·.2))) (hf : fillA (placeS fs) (i.zero.map .v) ps = some cells) : OpOk P Γ o A S (mkAgg cells) S [] :=
  OpOk.pure fun M ρ w a h _ => by
    obtain ⟨f, hfi, hfs, _, z, hz, _, _, h1, h2, _⟩ := ht.info
    obtain ⟨d, hd, h3⟩ := ht.desc
    rw [hk] at h3
    obtain ⟨as, rfl, h4, h5⟩ := h3
    have hpr : PartsR M ρ ps (parts.toList.map fun p => (p.1, a.eval p.2)) := by
      have := evs_ok h (xs := parts.toList.map (·.2)) (fun x hx => by simp only [ho, Op.operands]; exact hx) hev
      clear hf hev
      revert hps this
      generalize parts.toList = pl
      clear h
      induction pl generalizing ps with
      | nil => intro hps _; cases ps with
        | nil => unfold PartsR; rfl
        | cons _ _ => simp at hps
      | cons p r ih =>
        intro hps hr
        cases ps with
        | nil => simp at hps
        | cons q s =>
          obtain ⟨qi, qx⟩ := q
          simp only [List.map_cons, List.cons.injEq] at hps hr
          unfold AVRs at hr
          obtain ⟨u, us, h6, h7, h8⟩ := hr
          simp only [List.cons.injEq] at h6
          obtain ⟨rfl, rfl⟩ := h6
          simp only [List.map_cons]
          unfold PartsR
          refine ⟨_, _, ?_, h7, ih hps.2 h8⟩
          rw [← hps.1]
    obtain ⟨cs', h6, h7, _⟩ := fillA_ok (place' := ((fs.map fun f => (f.1, f.2.2)).toArray[·]?)) (fun k x hk' => by simpa [placeS] using hk') hpr (AVRs_v.2 (h2 M)) h1 hf
    have hb : P.built t (parts.map fun (i, x) => (i, a.eval x)).toList = some cs' := by
      unfold Program.built
      rw [hfi, hd]
      simp only [hz]
      rw [places_of h4 h5]
      simp only []
      rw [← h6]
      congr 1
      simp
    refine ⟨.agg cs', ?_, mkAgg_ok h7⟩
    have := run_build (P := P) w t (parts.map fun (i, x) => (i, a.eval x)) cs' hb
    simp [execOp, ho, this]
/-- An array put together. -/
theorem ok_buildA {t : TypeId} {parts : Array (Nat × Operand)} {i ie : TI} {n : Nat} {e : TypeId} {ps : List (Nat × AV)} {cells : List AV} (ho : o.op = .build t parts) (ht : TypeOk P t i) (hk : i.kind = .array n e) (he : TypeOk P e ie)
    (hps : parts.toList.map (·.1) = ps.map (·.1)) (hev : evs Γ A (parts.toList.map (·.2)) = some (ps.map (·.2))) (hf : fillA (fun k => some (k * ie.sz, ie.sz)) (i.zero.map .v) ps = some cells) : OpOk P Γ o A S (mkAgg cells) S [] :=
  OpOk.pure fun M ρ w a h _ => by
    obtain ⟨f, hfi, hfs, _, z, hz, _, _, h1, h2, _⟩ := ht.info
    obtain ⟨g, hgi, hgs, _⟩ := he.info
    obtain ⟨d, hd, h3⟩ := ht.desc
    rw [hk] at h3
    subst h3
    have hpr : PartsR M ρ ps (parts.toList.map fun p => (p.1, a.eval p.2)) := by
      have := evs_ok h (xs := parts.toList.map (·.2)) (fun x hx => by simp only [ho, Op.operands]; exact hx) hev
      clear hf hev
      revert hps this
      generalize parts.toList = pl
      clear h
      induction pl generalizing ps with
      | nil => intro hps _; cases ps with
        | nil => unfold PartsR; rfl
        | cons _ _ => simp at hps
      | cons p r ih =>
        intro hps hr
        cases ps with
        | nil => simp at hps
        | cons q s =>
          obtain ⟨qi, qx⟩ := q
          simp only [List.map_cons, List.cons.injEq] at hps hr
          unfold AVRs at hr
          obtain ⟨u, us, h6, h7, h8⟩ := hr
          simp only [List.cons.injEq] at h6
          obtain ⟨rfl, rfl⟩ := h6
          simp only [List.map_cons]
          unfold PartsR
          refine ⟨_, _, ?_, h7, ih hps.2 h8⟩
          rw [← hps.1]
    obtain ⟨cs', h6, h7, _⟩ := fillA_ok (place' := fun k => some (k * g.size, g.size)) (fun k x hk' => by rw [hgs]; exact hk') hpr (AVRs_v.2 (h2 M)) h1 hf
    have hb : P.built t (parts.map fun (i, x) => (i, a.eval x)).toList = some cs' := by
      unfold Program.built
      rw [hfi, hd]
      simp only [hz, hgi]
      rw [← h6]
      congr 1
      simp
    refine ⟨.agg cs', ?_, mkAgg_ok h7⟩
    have := run_build (P := P) w t (parts.map fun (i, x) => (i, a.eval x)) cs' hb
    simp [execOp, ho, this]

/-! ### a slice's literal -/
def chunk (sz : Nat) (cells : List FV) (n : Nat) : List (List FV) := (List.range n).map fun r => (cells.drop (r * sz)).take sz
theorem chunk_rows {M : Mem} {sz n : Nat} {cells : List FV} {cs : List Value} (hl : cells.length = n * sz) (h : FVRs M cells cs) (h1 : ∀ u ∈ cs, u.oneCell' = true) : RowsOf M (chunk sz cells n) cs sz := by
  refine ⟨by rw [FVRs.len h, hl]; simp [chunk], fun r c hr => ?_⟩
  have hrn : r < n := by have := (List.getElem?_eq_some_iff.1 hr).1; simpa [chunk] using this
  simp only [chunk, List.getElem?_map, List.getElem?_range hrn, Option.map_some, Option.some.injEq] at hr
  subst hr
  have hle : (r + 1) * sz ≤ n * sz := Nat.mul_le_mul_right _ hrn
  rw [Nat.add_mul, Nat.one_mul] at hle
  refine ⟨by simp [hl]; omega, fun j x hj => ?_⟩
  rw [List.getElem?_take] at hj
  split at hj
  · rw [List.getElem?_drop] at hj
    obtain ⟨u, h2, h3⟩ := FVRs.get h _ x hj
    exact ⟨u, h2, h1 u (List.mem_of_getElem? h2), h3⟩
  · cases hj
theorem ok_buildSlice {t : TypeId} {len : Nat} {parts : Array (Nat × Operand)} {i ie : TI} {e : TypeId} {ps : List (Nat × AV)} {cells : List AV} {fcells : List FV} (ho : o.op = .buildSlice t len parts) (ht : TypeOk P t i) (hk : i.kind = .slice e) (he : TypeOk P e ie) (hpos : 0 < ie.sz) (hbig : len * ie.sz ≤ 2 ^ 24)
    (hps : parts.toList.map (·.1) = ps.map (·.1)) (hev : evs Γ A (parts.toList.map (·.2)) = some (ps.map (·.2))) (hf : fillA (fun k => some (k * ie.sz, ie.sz)) ((List.replicate len (ie.zero.map AV.v)).flatten) ps = some cells) (hv : allV cells = some fcells) (hlen : fcells.length = len * ie.sz) :
    OpOk P Γ o A S (.v (.sl .full (chunk ie.sz fcells len))) S [] :=
  OpOk.of_run (fun _ _ => ⟨rfl, rfl, rfl⟩) fun S2 h2 M ρ w a h hG hSt => by
    obtain ⟨g, hgi, hgs, _, z, hz, hzl, hzs, hz1, hz2, _⟩ := he.info
    obtain ⟨d, hd, h3⟩ := ht.desc
    rw [hk] at h3
    subst h3
    have hpr : PartsR M ρ ps (parts.toList.map fun p => (p.1, a.eval p.2)) := by
      have := evs_ok h (xs := parts.toList.map (·.2)) (fun x hx => by simp only [ho, Op.operands]; exact hx) hev
      clear hf hev
      revert hps this
      generalize parts.toList = pl
      clear h
      induction pl generalizing ps with
      | nil => intro hps _; cases ps with
        | nil => unfold PartsR; rfl
        | cons _ _ => simp at hps
      | cons p r ih =>
        intro hps hr
        cases ps with
        | nil => simp at hps
        | cons q s =>
          obtain ⟨qi, qx⟩ := q
          simp only [List.map_cons, List.cons.injEq] at hps hr
          unfold AVRs at hr
          obtain ⟨u, us, h6, h7, h8⟩ := hr
          simp only [List.cons.injEq] at h6
          obtain ⟨rfl, rfl⟩ := h6
          simp only [List.map_cons]
          unfold PartsR
          refine ⟨_, _, ?_, h7, ih hps.2 h8⟩
          rw [← hps.1]
    -- the zero cells
    have hzero : ((Array.range (len * g.size)).map (z.cells[· % z.cells.size]!)).toList = (List.replicate len z.cells.toList).flatten := by
      rw [hgs]
      apply List.ext_getElem?
      intro j
      have hfl : ∀ n, ((List.replicate n z.cells.toList).flatten).length = n * ie.sz := fun n => by simp [hzs]
      by_cases hj : j < len * ie.sz
      · rw [Array.toList_map, Array.toList_range, List.getElem?_map, List.getElem?_range hj, Option.map_some, hzs]
        have key : ∀ n k, k < n * ie.sz → ((List.replicate n z.cells.toList).flatten)[k]? = some (z.cells[k % ie.sz]!) := by
          intro n
          induction n with
          | zero => intro k hk; simp at hk
          | succ n ih =>
            intro k hk
            rw [List.replicate_succ, List.flatten_cons]
            by_cases hlt : k < ie.sz
            · rw [List.getElem?_append_left (by simp [hzs]; exact hlt), Nat.mod_eq_of_lt hlt]
              have hlt2 : k < z.cells.size := by rw [hzs]; exact hlt
              simp [hlt2]
            · rw [List.getElem?_append_right (by simp [hzs]; omega)]
              rw [Nat.add_mul, Nat.one_mul] at hk
              have := ih (k - ie.sz) (by omega)
              simp only [Array.length_toList, hzs]
              rw [this, Nat.mod_eq_sub_mod (Nat.le_of_not_lt hlt)]
        exact (key len j hj).symm
      · rw [List.getElem?_eq_none (by simp; omega), List.getElem?_eq_none (by rw [hfl]; omega)]
    have hzr : AVRs M ρ ((List.replicate len (ie.zero.map AV.v)).flatten) ((Array.range (len * g.size)).map (z.cells[· % z.cells.size]!)).toList := by
      rw [hzero]
      have hz3 := AVRs_v (ρ := ρ) |>.2 (hz2 M)
      clear hzero hf hbig hlen ho
      induction len with
      | zero => simp [AVRs]
      | succ n ih => rw [List.replicate_succ, List.flatten_cons, List.replicate_succ, List.flatten_cons]; exact hz3.append ih
    have hz4 : ∀ u ∈ ((Array.range (len * g.size)).map (z.cells[· % z.cells.size]!)).toList, u.oneCell' = true := by
      rw [hzero]
      intro u hu
      rw [List.mem_flatten] at hu
      obtain ⟨l, h4, h5⟩ := hu
      rw [List.mem_replicate] at h4
      exact hz1 u (h4.2 ▸ h5)
    obtain ⟨cs', h6, h7, h8⟩ := fillA_ok (place' := fun k => some (k * g.size, g.size)) (fun k x hk' => by rw [hgs]; exact hk') hpr hzr hz4 hf
    rw [allV_eq hv] at h7
    have h9 := AVRs_v.1 h7
    have hrows := chunk_rows (sz := ie.sz) (n := len) hlen h9 h8
    have hN := Nx.addFrozen hSt cs' e
    refine ⟨_, ρ, _, .slice (some ⟨w.heap.size, 0, none⟩) len len, .inl ?_, by rw [View.patch_nil]; exact hN, ρ.le_refl, ?_⟩
    · have hb1 : ¬ (len * g.size > 2 ^ 24) := by rw [hgs]; omega
      have hparts : (parts.map fun (x : Nat × Operand) => (x.1, a.eval x.2)).toList = parts.toList.map fun p => (p.1, a.eval p.2) := by simp
      simp only [execOp, ho, Instr.buildSlice, Sem.run_bind, run_underlying hd, Result.andThen_ok, sizeOf, typeInfo, run_program, hgi, Sem.run_pure, if_neg hb1]
      by_cases h0 : len * g.size = 0
      · have hl0 : len = 0 := (Nat.mul_eq_zero.1 h0).resolve_right (by omega)
        subst hl0
        have hr0 : ∀ f : Nat → Value, (Array.range 0).map f = #[] := fun f => by apply Array.ext'; simp
        simp only [Nat.zero_mul, hr0] at h6
        simp only [Nat.zero_mul, if_true, Sem.run_pure, Result.andThen_ok, hr0, hparts, h6, newRow, Sem.run_bind, run_newObj]
        rfl
      · simp only [if_neg h0, zeroValue, Sem.run_bind, typeInfo, run_program, Result.andThen_ok, hgi, Sem.run_pure, hz, hparts, h6, newRow, run_newObj]
        rfl
    · unfold AVR FVR
      refine ⟨_, _, _, rfl, by simp [chunk], ⟨Nat.le_refl _, by have : len * 1 ≤ len * ie.sz := Nat.mul_le_mul_left _ hpos; omega⟩, by simp [SK.ok], (fun h => by cases h), .inr ⟨w.heap.size, 0, ie.sz, rfl, ?_⟩⟩
      refine (hrows.mono hN.fr.mem).rws fun o u hu => ?_
      simp [Mem.addBlock, hu]
end
end Go.Pav
namespace Go.Pav
open Go.RowKit

def View.empty : View := ⟨fun _ => none, fun _ => none, fun _ => false⟩
def Real (P : Program) (f : FuncId) : Prop := ∃ fn, P.funcs[f]? = some fn ∧ fn.body.isNone = false ∧ (fn.name == "runtime.NumGoroutine") = false
def MemOk (M : Mem) (w : World) : Prop := ∀ b o v, M b o = some v → w.cell? ⟨b, o, none⟩ = some v

/-- Function f called with args gives r; nothing that was there is turned. -/
def PFn (P : Program) (Γ : Glo) (f : FuncId) (args : List FV) (r : FV) : Prop :=
  Real P f ∧ ∀ M w (vals : Array Value), MemOk M w → Glob M Γ → FVRs M args vals.toList → Calls P f vals w fun e w' => ∃ M' v, e = .returned v ∧ FVR M' r v ∧ Fr M w M' w' (fun _ => False) ∧ MemOk M' w'

theorem St.frame {M M' : Mem} {ρ : Nam} {w w' : World} {S : View} {O : Nat → Prop} (h : St M ρ w S) (hf : Fr M w M' w' O) (hO : ∀ b, Owned ρ S b → ¬ O b) (hm : MemOk M' w') : St M' ρ w' S where
  mem := hm
  box := fun l cs hl => by
    obtain ⟨b, c, ty, h1, h2, h3, h4, h5⟩ := h.box l cs hl
    have ho : Owned ρ S b := .inl ⟨l, cs, hl, h1⟩
    have hb := h.owned_lt ho
    exact ⟨b, c, ty, h1, (hf.block b hb (hO b ho)).trans h2, AVRs.mono hf.mem ρ.le_refl _ _ h3, h4, fun o => (hf.memf b hb (hO b ho) o).trans (h5 o)⟩
  tok := fun t xs e sz ht => by
    obtain ⟨i, h1, h2, hr, h3, h4⟩ := h.tok t xs e sz ht
    refine ⟨i, h1, FVR.mono hf.mem _ _ h2, hr, h3, ?_⟩
    cases hoo : i.own with
    | none => rw [hoo] at h4; exact h4
    | some g =>
      rw [hoo] at h4
      obtain ⟨cap, cur, h5, h6, h7, h8, h9, h10⟩ := h4
      have ho : Owned ρ S g := .inr ⟨t, _, i, ht, h1, hoo⟩
      have hb := h.owned_lt ho
      exact ⟨cap, cur, h5, h6.tr (hf.block g hb (hO g ho)) hf.mem, h7, h8, h9, fun o hn => (hf.memf g hb (hO g ho) o).trans (h10 o hn)⟩
  boxes := h.boxes
  toks := h.toks
  mixed := h.mixed
  free := h.free
  freeH := h.freeH

/-- A function's value: which, what comes ahead of the arguments, what behind. -/
def fnOf : AV → Option (FuncId × List AV × List AV)
  | .v (.fn f a b) => some (f, a.map .v, b.map .v)
  | .fn f a b => some (f, a, b)
  | _ => none
theorem fnOf_ok {M : Mem} {ρ : Nam} {x : AV} {v : Value} {f : FuncId} {a b : List AV} (h : AVR M ρ x v) (hf : fnOf x = some (f, a, b)) : ∃ vs ws, v = .func (.func f) vs ws ∧ AVRs M ρ a vs.toList ∧ AVRs M ρ b ws.toList := by
  unfold fnOf at hf
  split at hf
  · simp only [Option.some.injEq, Prod.mk.injEq] at hf
    obtain ⟨rfl, rfl, rfl⟩ := hf
    unfold AVR FVR at h
    obtain ⟨vs, ws, h1, h2, h3⟩ := h
    exact ⟨vs, ws, h1, AVRs_v.2 h2, AVRs_v.2 h3⟩
  · simp only [Option.some.injEq, Prod.mk.injEq] at hf
    obtain ⟨rfl, rfl, rfl⟩ := hf
    unfold AVR at h
    exact h
  · cases hf
section
variable {P : Program} {Γ : Glo} {o : Oper} {A : Env} {S : View} {N : Nat} {ops : Array Oper}
theorem call_enters {c : Call} {fo : Operand} (ho : o.op = .call c) (hc : c.callee = .value fo) {a : Act} {f : FuncId} {vs ws : Array Value} (hv : a.eval fo = .func (.func f) vs ws) (hr : Real P f) (w : World) :
    (execOp a.eval o).run P w = .ok (.enter f (vs ++ c.args.map a.eval ++ ws)) w := by
  obtain ⟨fn, h1, h2, h3⟩ := hr
  have h2' : ¬ fn.body = none := by cases hb : fn.body <;> simp_all
  have h3' : ¬ fn.name = "runtime.NumGoroutine" := by simpa using h3
  simp [execOp, ho, resolve, hc, Deferred.ofValue, hv, invoke, callFunc, h1, h2', h3']
/-- A call of a function that turns nothing. -/
theorem ok_callP {c : Call} {fo : Operand} {fv : AV} {f : FuncId} {first caps args : List AV} {fargs : List FV} {r : FV} (ho : o.op = .call c) (hc : c.callee = .value fo) (hf : ev Γ A fo = some fv) (hfv : fnOf fv = some (f, first, caps)) (ha : evs Γ A c.args.toList = some args)
    (hall : allV (first ++ args ++ caps) = some fargs) (hP : PFn P Γ f fargs r) : OpOk P Γ o A S (.v r) S [] := by
  refine ⟨fun _ _ => ⟨rfl, rfl, rfl⟩, fun S2 _ M ρ w a h hG hSt K Q hK => ?_⟩
  obtain ⟨vs, ws, h1, h2, h3⟩ := fnOf_ok (h fo (by simp [ho, Op.operands, Call.operands, hc]) _ hf) hfv
  have h4 := evs_ok h (xs := c.args.toList) (fun x hx => by simp only [ho, Op.operands, Call.operands, hc]; simp; exact .inr (by simpa using hx)) ha
  have hargs : FVRs M fargs (vs ++ c.args.map a.eval ++ ws).toList := by
    have := (h2.append h4).append h3
    rw [allV_eq hall] at this
    simpa using AVRs_v.1 this
  unfold Oper.wp
  rw [call_enters ho hc h1 hP.1 w]
  simp only [Oper.upon]
  refine (hP.2 M w _ hSt.mem hG hargs).mono fun e w' he => ?_
  obtain ⟨M', v, rfl, h5, h6, h7⟩ := he
  refine hK M' ρ w' v ?_ ρ.le_refl (by unfold AVR; exact h5)
  rw [View.patch_nil]
  have hSt' := hSt.frame h6 (fun _ _ hf => hf) h7
  exact ⟨hSt', h6.mono (fun _ hf => hf.elim), fun _ hb => .inl hb⟩

/-! ### a step of a region -/
def Want (ops : Array Oper) (o : Oper) (A : Env) (b : Bool) : Prop :=
  match o.guard with
  | none => b = true
  | some (j, w) => ∃ t, (ops[j]?).bind (·.dst) = some t ∧ ((∃ p, A.get t = some (.v (.bool p)) ∧ b = (p == w)) ∨ (A.get t = some (.v (.tup [])) ∧ b = false))
theorem want_ok {M : Mem} {ρ : Nam} {a : Act} {b : Bool} (hT : TR M ρ N A a) (h : Want ops o A b) : Region.wanted o (yielded ops a.tmps) = b := by
  unfold Want at h
  unfold Region.wanted
  cases hg : o.guard with
  | none => rw [hg] at h; exact h.symm
  | some jw =>
    obtain ⟨j, w⟩ := jw
    rw [hg] at h
    obtain ⟨t, h1, h⟩ := h
    rcases h with ⟨p, h2, h3⟩ | ⟨h2, h3⟩
    · have h4 := hT.get t _ h2
      unfold AVR FVR at h4
      have h5 : a.tmps[t]? = some (.bool p) := by
        rw [Array.getD_eq_getD_getElem?] at h4
        cases h6 : a.tmps[t]? with
        | none => rw [h6] at h4; simp [undef] at h4
        | some v => rw [h6] at h4; simpa using h4
      have h6 : yielded ops a.tmps j = some p := by simp [yielded, h1, h5]
      simp only [h6]
      rw [h3]
      cases p <;> cases w <;> rfl
    · have h4 := hT.get t _ h2
      unfold AVR FVR at h4
      obtain ⟨vs, h4, _⟩ := h4
      have h6 : yielded ops a.tmps j = none := by
        rw [Array.getD_eq_getD_getElem?] at h4
        cases h6 : a.tmps[t]? with
        | none => simp [yielded, h1, h6]
        | some v => rw [h6] at h4; simp at h4; simp [yielded, h1, h6, h4]
      simp only [h6]
      rw [h3]
      rfl
def StepOk (P : Program) (Γ : Glo) (N : Nat) (ops : Array Oper) (o : Oper) (A : Env) (S : View) (x : AV) (S' : View) (fp : List Nat) : Prop :=
  (∀ t, o.dst = some t → t < N) ∧ ((Want ops o A true ∧ OpOk P Γ o A S x S' fp) ∨ (Want ops o A false ∧ x = .v (.tup []) ∧ S' = S ∧ fp = []))
theorem StepOk.same {x : AV} {S' : View} {fp : List Nat} (h : StepOk P Γ N ops o A S x S' fp) : ∀ n, n ∉ fp → S'.sameAt S n := by
  rcases h.2 with ⟨_, h⟩ | ⟨_, _, rfl, rfl⟩
  · exact h.1
  · exact fun _ _ => ⟨rfl, rfl, rfl⟩
theorem ev_congr {A A2 : Env} {x : Operand} (h : ∀ t, x = .tmp t → A2.get t = A.get t) : ev Γ A2 x = ev Γ A x := by
  cases x with
  | tmp t => exact h t rfl
  | _ => rfl
theorem StepOk.wp {x : AV} {S' : View} {fp : List Nat} (hs : StepOk P Γ N ops o A S x S' fp) {i : Nat} (hi : ops[i]? = some o) {A2 : Env} {S2 : View} (hA : ∀ t ∈ o.looksAt ops, A2.get t = A.get t) (hS : ∀ n ∈ fp, S2.sameAt S n)
    {M : Mem} {ρ : Nam} {w : World} {a : Act} (hT : TR M ρ N A2 a) (hG : Glob M Γ) (hSt : St M ρ w S2) {K : Act → World → Prop} {Q : Exit → Act → World → Prop}
    (hK : ∀ M' ρ' w' v, Nx M ρ w S2 M' ρ' w' (S2.patch fp S') → ρ.le ρ' → AVR M' ρ' x v → K (a.put o.dst v) w') : wpOp P ops Q i K a w := by
  have hwant : ∀ b, Want ops o A b → Want ops o A2 b := by
    intro b hb
    unfold Want at hb ⊢
    cases hg : o.guard with
    | none => rw [hg] at hb; exact hb
    | some jw =>
      obtain ⟨j, w⟩ := jw
      rw [hg] at hb
      obtain ⟨t, h1, h2⟩ := hb
      have e := hA t (by simp [Oper.looksAt, hg, h1])
      exact ⟨t, h1, by rw [e]; exact h2⟩
  unfold wpOp
  rw [hi]
  simp only []
  rcases hs.2 with ⟨h1, h2⟩ | ⟨h1, rfl, rfl, rfl⟩
  · rw [want_ok hT (hwant _ h1)]
    simp only [if_true]
    refine .inl (h2.2 S2 hS M ρ w a ?_ hG hSt K Q hK)
    intro y hy z hz
    rw [← ev_congr (A2 := A2) (fun t ht => hA t (by subst ht; simp only [Oper.looksAt, List.mem_append, List.mem_filterMap]; exact .inl ⟨_, hy, rfl⟩))] at hz
    exact hT.ev hG hz
  · rw [want_ok hT (hwant _ h1)]
    simp only [Bool.false_eq_true, if_false]
    exact hK M ρ w undef (by rw [View.patch_nil]; exact Nx.refl hSt) ρ.le_refl (by unfold AVR FVR; exact ⟨#[], rfl, by unfold FVRs; rfl⟩)
theorem patch_same {S S' : View} {fp : List Nat} (h : ∀ n, n ∉ fp → S'.sameAt S n) : S.patch fp S' = S' := View.ext' fun n => by
  by_cases hn : n ∈ fp
  · exact ⟨by simp [View.patch, hn], by simp [View.patch, hn], by simp [View.patch, hn]⟩
  · have := h n hn
    exact ⟨by simp [View.patch, hn, this.1], by simp [View.patch, hn, this.2.1], by simp [View.patch, hn, this.2.2]⟩

/-! ### a region in the text's order -/
def TraceOk (P : Program) (Γ : Glo) (N : Nat) (ops : Array Oper) : List Oper → Env → View → List (AV × View × List Nat × Bool) → Env → View → Prop
  | [], A, S, tr, A', S' => tr = [] ∧ A' = A ∧ S' = S
  | o :: os, A, S, tr, A', S' => ∃ x S1 fp c tr', tr = (x, S1, fp, c) :: tr' ∧ StepOk P Γ N ops o A S x S1 fp ∧ (c = false → S1 = S) ∧ TraceOk P Γ N ops os (A.put o.dst x) S1 tr' A' S'
theorem seq_sound {Q : Exit → Act → World → Prop} : ∀ (os : List Oper) (i : Nat), (∀ (k : Nat) o, os[k]? = some o → ops[i + k]? = some o) → ∀ (A : Env) (S : View) tr (A' : Env) (S' : View), TraceOk P Γ N ops os A S tr A' S' →
    ∀ M ρ w a, TR M ρ N A a → Glob M Γ → St M ρ w S → (∀ M' ρ' w' a', Nx M ρ w S M' ρ' w' S' → ρ.le ρ' → TR M' ρ' N A' a' → Q .normal a' w') → wpOps P ops Q (List.range' i os.length) a w
  | [], i, _, A, S, tr, A', S', h, M, ρ, w, a, hT, hG, hSt, hQ => by
    obtain ⟨_, rfl, rfl⟩ := h
    simp only [List.length_nil, List.range'_zero, wpOps]
    exact hQ M ρ w a (Nx.refl hSt) ρ.le_refl hT
  | o :: os, i, hos, A, S, tr, A', S', h, M, ρ, w, a, hT, hG, hSt, hQ => by
    obtain ⟨x, S1, fp, c, tr', rfl, hs, _, hr⟩ := h
    rw [List.length_cons, List.range'_succ, wpOps_cons]
    refine hs.wp (by simpa using hos 0 o (by simp)) (fun _ _ => rfl) (fun _ _ => ⟨rfl, rfl, rfl⟩) hT hG hSt fun M1 ρ1 w1 v hN hle hv => ?_
    rw [patch_same hs.same] at hN
    refine seq_sound os (i + 1) (fun k o' hk => ?_) _ S1 tr' A' S' hr M1 ρ1 w1 _ ((hT.mono hN.fr.mem hle).put hs.1 hv) (hG.mono hN.fr.mem) hN.st fun M' ρ' w' a' hN' hle' hT' => hQ M' ρ' w' a' (hN.trans hN') (Nam.le_trans hle hle') hT'
    have := hos (k + 1) o' (by simpa using hk)
    rwa [Nat.add_assoc, Nat.add_comm 1 k]
end
end Go.Pav
namespace Go.Pav
open Go.RowKit
section
variable {P : Program} {Γ : Glo} {N : Nat} {ops : Array Oper}

/-- What a trace says of its i-th step. -/
structure Steps (P : Program) (Γ : Glo) (N : Nat) (ops : Array Oper) (A : Nat → Env) (V : Nat → View) (x : Nat → AV) (fp : Nat → List Nat) : Prop where
  ok : ∀ i o, ops[i]? = some o → StepOk P Γ N ops o (A i) (V i) (x i) (V (i + 1)) (fp i)
  next : ∀ i o, ops[i]? = some o → A (i + 1) = (A i).put o.dst (x i)

/-- Which operations wait for which. -/
structure Waits (ops : Array Oper) (anc : Nat → Nat → Bool) : Prop where
  before : ∀ j o, ops[j]? = some o → ∀ e ∈ o.after.toList, Region.binds .any e = true → e.on < j
  path : ∀ i j o, anc i j = true → ops[j]? = some o → ∃ e ∈ o.after.toList, Region.binds .any e = true ∧ (e.on = i ∨ anc i e.on = true)
  lt : ∀ i j, anc i j = true → i < j
def dstOf (ops : Array Oper) (i : Nat) : Option Tmp := (ops[i]?).bind (·.dst)
structure Indep (ops : Array Oper) (anc : Nat → Nat → Bool) (V : Nat → View) (fp : Nat → List Nat) (chg : Nat → Bool) : Prop where
  wr : ∀ i j o t, i < j → ops[j]? = some o → dstOf ops i = some t → (t ∈ o.looksAt ops ∨ o.dst = some t) → anc i j = true
  rw_ : ∀ i j o t, i < j → j < ops.size → ops[i]? = some o → dstOf ops j = some t → t ∈ o.looksAt ops → anc i j = true
  fps : ∀ i j n, i < j → j < ops.size → (chg i = true ∨ chg j = true) → n ∈ fp i → n ∈ fp j → anc i j = true
  still : ∀ i, i < ops.size → chg i = false → V (i + 1) = V i

/-- What holds while the operations of D are done. -/
structure Sofar (ops : Array Oper) (A : Nat → Env) (V : Nat → View) (fp : Nat → List Nat) (chg : Nat → Bool) (D : Nat → Bool) (AD : Env) (VD : View) : Prop where
  env : ∀ t i, i ≤ ops.size → (∀ j, j < ops.size → dstOf ops j = some t → (D j = true ↔ j < i)) → AD.get t = (A i).get t
  view : ∀ n i, i ≤ ops.size → (∀ j, j < ops.size → chg j = true → n ∈ fp j → (D j = true ↔ j < i)) → VD.sameAt (V i) n

theorem sameAt_trans {S S1 S2 : View} {n : Nat} (h : S.sameAt S1 n) (k : S1.sameAt S2 n) : S.sameAt S2 n := ⟨h.1.trans k.1, h.2.1.trans k.2.1, h.2.2.trans k.2.2⟩
theorem sameAt_symm {S S1 : View} {n : Nat} (h : S.sameAt S1 n) : S1.sameAt S n := ⟨h.1.symm, h.2.1.symm, h.2.2.symm⟩
/-- Between two steps nothing of name n turns if no operation between touches it. -/
theorem Steps.const_view {A : Nat → Env} {V : Nat → View} {x : Nat → AV} {fp : Nat → List Nat} {chg : Nat → Bool} {anc : Nat → Nat → Bool} (h : Pav.Steps P Γ N ops A V x fp) (hi : Indep ops anc V fp chg) (n : Nat) : ∀ (d i : Nat), i + d ≤ ops.size → (∀ j, i ≤ j → j < i + d → chg j = true → n ∉ fp j) → (V (i + d)).sameAt (V i) n
  | 0, _, _, _ => ⟨rfl, rfl, rfl⟩
  | d + 1, i, hd, hn => by
    have ih := h.const_view hi n d i (by omega) (fun j h1 h2 => hn j h1 (by omega))
    refine sameAt_trans ?_ ih
    cases hc : chg (i + d) with
    | false => rw [show i + (d + 1) = i + d + 1 by omega, hi.still (i + d) (by omega) hc]; exact ⟨rfl, rfl, rfl⟩
    | true =>
      have ho : ops[i + d]? = some ops[i + d] := Array.getElem?_eq_getElem (by omega)
      exact (h.ok (i + d) _ ho).same n (hn (i + d) (by omega) (by omega) hc)
theorem Steps.const_env {A : Nat → Env} {V : Nat → View} {x : Nat → AV} {fp : Nat → List Nat} (h : Pav.Steps P Γ N ops A V x fp) (t : Nat) : ∀ (d i : Nat), i + d ≤ ops.size → (∀ j, i ≤ j → j < i + d → dstOf ops j ≠ some t) → (A (i + d)).get t = (A i).get t
  | 0, _, _, _ => rfl
  | d + 1, i, hd, hn => by
    have ih := h.const_env t d i (by omega) (fun j h1 h2 => hn j h1 (by omega))
    rw [← ih]
    have ho : ops[i + d]? = some ops[i + d] := Array.getElem?_eq_getElem (by omega)
    rw [show i + (d + 1) = i + d + 1 by omega, h.next (i + d) _ ho]
    have hne := hn (i + d) (by omega) (by omega)
    unfold dstOf at hne
    rw [ho] at hne
    simp only [Option.bind_some] at hne
    cases hd' : (ops[i + d]).dst with
    | none => rfl
    | some u =>
      rw [Env.get_put, if_neg]
      intro e
      rw [hd', e] at hne
      exact hne rfl

/-- One more operation, all that it waits for being done. -/
theorem Sofar.step {A : Nat → Env} {V : Nat → View} {x : Nat → AV} {fp : Nat → List Nat} {chg : Nat → Bool} {anc : Nat → Nat → Bool} (h : Pav.Steps P Γ N ops A V x fp) (hi : Indep ops anc V fp chg) {D : Nat → Bool} {AD : Env} {VD : View} (hs : Sofar ops A V fp chg D AD VD)
    {i : Nat} (hlt : i < ops.size) (hD : D i = false) (h1 : ∀ j, anc j i = true → D j = true) (h2 : ∀ j, anc i j = true → D j = false) :
    (∀ t ∈ (ops[i]).looksAt ops, AD.get t = (A i).get t) ∧ (∀ n ∈ fp i, VD.sameAt (V i) n) ∧
      Sofar ops A V fp chg (fun j => if j = i then true else D j) (AD.put (ops[i]).dst (x i)) (VD.patch (fp i) (V (i + 1))) := by
  have ho : ops[i]? = some ops[i] := Array.getElem?_eq_getElem hlt
  have hio : ∀ j, dstOf ops j = (ops[j]?).bind (·.dst) := fun _ => rfl
  refine ⟨fun t ht => hs.env t i (by omega) fun j hj hdj => ?_, fun n hn => hs.view n i (by omega) fun j hj hcj hnj => ?_, ⟨fun t k hk hall => ?_, fun n k hk hall => ?_⟩⟩
  · rcases Nat.lt_trichotomy j i with hji | rfl | hji
    · exact ⟨fun _ => hji, fun _ => h1 j (hi.wr j i _ t hji ho hdj (.inl ht))⟩
    · simp [hD]
    · exact ⟨fun hd => by (rw [h2 j (hi.rw_ i j _ t hji hj ho hdj ht)] at hd; cases hd), fun hd => by omega⟩
  · rcases Nat.lt_trichotomy j i with hji | rfl | hji
    · exact ⟨fun _ => hji, fun _ => h1 j (hi.fps j i n hji hlt (.inl hcj) hnj hn)⟩
    · simp [hD]
    · exact ⟨fun hd => by (rw [h2 j (hi.fps i j n hji hj (.inr hcj) hn hnj)] at hd; cases hd), fun hd => by omega⟩
  · -- the environment behind it
    by_cases hdt : (ops[i]).dst = some t
    · rw [hdt, Env.get_put, if_pos rfl]
      have hik : i < k := (hall i hlt (by rw [hio, ho]; exact hdt)).1 (by simp)
      have hbet : ∀ j, i < j → j < k → dstOf ops j ≠ some t := fun j hj1 hj2 e => by
        have hjl : j < ops.size := by omega
        have hoj : ops[j]? = some ops[j] := Array.getElem?_eq_getElem hjl
        have hdj : (ops[j]).dst = some t := by rw [hio, hoj] at e; exact e
        have ha := hi.wr i j _ t hj1 hoj (by rw [hio, ho]; exact hdt) (.inr hdj)
        have := (hall j hjl e).2 hj2
        simp only [show j ≠ i by omega, if_false] at this
        rw [h2 j ha] at this
        cases this
      have := h.const_env t (k - (i + 1)) (i + 1) (by omega) (fun j hj1 hj2 => hbet j (by omega) (by omega))
      rw [show i + 1 + (k - (i + 1)) = k by omega] at this
      rw [this, h.next i _ ho, hdt, Env.get_put, if_pos rfl]
    · have hput : (AD.put (ops[i]).dst (x i)).get t = AD.get t := by
        cases hd : (ops[i]).dst with
        | none => rfl
        | some u => rw [Env.get_put, if_neg (fun e => hdt (by rw [hd, e]))]
      rw [hput]
      refine hs.env t k hk fun j hj hdj => ?_
      have hji : j ≠ i := fun e => by subst e; rw [hio, ho] at hdj; exact hdt hdj
      have := hall j hj hdj
      simpa [hji] using this
  · -- the view behind it
    by_cases hnf : n ∈ fp i
    · have hp : (VD.patch (fp i) (V (i + 1))).sameAt (V (i + 1)) n := ⟨by simp [View.patch, hnf], by simp [View.patch, hnf], by simp [View.patch, hnf]⟩
      refine sameAt_trans hp ?_
      cases hc : chg i with
      | true =>
        have hik : i < k := (hall i hlt hc hnf).1 (by simp)
        have := h.const_view hi n (k - (i + 1)) (i + 1) (by omega) (fun j hj1 hj2 hcj hnj => by
          have ha := hi.fps i j n (by omega) (by omega) (.inl hc) hnf hnj
          have hd := (hall j (by omega) hcj hnj).2 (by omega)
          simp only [show j ≠ i by omega, if_false] at hd
          rw [h2 j ha] at hd
          cases hd)
        rw [show i + 1 + (k - (i + 1)) = k by omega] at this
        exact sameAt_symm this
      | false =>
        rw [hi.still i hlt hc]
        -- the operations that turn n and are done are those before i, and those before k
        have hsame : ∀ j, j < ops.size → chg j = true → n ∈ fp j → (j < i ↔ j < k) := fun j hj hcj hnj => by
          have hji : j ≠ i := fun e => by subst e; rw [hc] at hcj; cases hcj
          have hd := hall j hj hcj hnj
          simp only [hji, if_false] at hd
          rcases Nat.lt_or_ge j i with hlt' | hge
          · exact ⟨fun _ => hd.1 (h1 j (hi.fps j i n hlt' hlt (.inl hcj) hnj hnf)), fun _ => hlt'⟩
          · have hgt : i < j := by omega
            have := h2 j (hi.fps i j n hgt hj (.inr hcj) hnf hnj)
            rw [this] at hd
            constructor
            · intro; omega
            · intro hjk; have := hd.2 hjk; cases this
        rcases Nat.le_total i k with hik | hki
        · have := h.const_view hi n (k - i) i (by omega) (fun j hj1 hj2 hcj hnj => by have := (hsame j (by omega) hcj hnj).2 (by omega); omega)
          rw [show i + (k - i) = k by omega] at this
          exact sameAt_symm this
        · have := h.const_view hi n (i - k) k (by omega) (fun j hj1 hj2 hcj hnj => by have := (hsame j (by omega) hcj hnj).1 (by omega); omega)
          rw [show k + (i - k) = i by omega] at this
          exact this
    · have hp : (VD.patch (fp i) (V (i + 1))).sameAt VD n := ⟨by simp [View.patch, hnf], by simp [View.patch, hnf], by simp [View.patch, hnf]⟩
      refine sameAt_trans hp (hs.view n k hk fun j hj hcj hnj => ?_)
      have hji : j ≠ i := fun e => hnf (e ▸ hnj)
      have := hall j hj hcj hnj
      simpa [hji] using this

/-- How many are still to come. -/
def left (n : Nat) (D : Nat → Bool) : Nat := ((List.range n).filter fun j => !D j).length
theorem left_step {D : Nat → Bool} {i : Nat} (hD : D i = false) : ∀ n, i < n → left n (fun j => if j = i then true else D j) + 1 = left n D
  | 0, h => absurd h (Nat.not_lt_zero i)
  | n + 1, h => by
    unfold left
    rw [List.range_succ, List.filter_append, List.filter_append, List.length_append, List.length_append]
    by_cases hin : i = n
    · subst hin
      have h1 : ((List.range i).filter fun j => !(if j = i then true else D j)) = (List.range i).filter fun j => !D j := List.filter_congr fun j hj => by
        have : j ≠ i := by have := List.mem_range.1 hj; omega
        simp [this]
      rw [h1]
      simp [hD]
    · have ih := left_step hD n (by omega)
      unfold left at ih
      have hni : n ≠ i := fun e => hin e.symm
      have e1 : ([n].filter fun j => !(if j = i then true else D j)) = [n].filter fun j => !D j := List.filter_congr fun j hj => by
        have : j = n := by simpa using hj
        subst this
        rw [if_neg hni]
      rw [e1]
      omega
theorem left_zero {D : Nat → Bool} {n : Nat} (h : left n D = 0) : ∀ j, j < n → D j = true := fun j hj => by
  cases hd : D j with
  | true => rfl
  | false =>
    have : j ∈ (List.range n).filter fun j => !D j := List.mem_filter.2 ⟨List.mem_range.2 hj, by simp [hd]⟩
    rw [List.eq_nil_of_length_eq_zero h] at this
    cases this

theorem draw_sound (hm : P.follows .mixedOrders = true) {A : Nat → Env} {V : Nat → View} {x : Nat → AV} {fp : Nat → List Nat} {chg : Nat → Bool} {anc : Nat → Nat → Bool} (h : Pav.Steps P Γ N ops A V x fp) (hi : Indep ops anc V fp chg) (hw : Waits ops anc) {id : Nat} {Q : Exit → Act → World → Prop}
    {M : Mem} {ρ : Nam} {w : World} {a : Act} (hT : TR M ρ N (A 0) a) (hG : Glob M Γ) (hSt : St M ρ w (V 0)) (hQ : ∀ M' ρ' w' a', Nx M ρ w (V 0) M' ρ' w' (V ops.size) → ρ.le ρ' → TR M' ρ' N (A ops.size) a' → Q .normal a' w') : (Code.region id ops true).wp P Q a w := by
  refine wp_region_any hm ?_
  have key : ∀ (m : Nat) (D : Nat → Bool) (listed : Array Bool) (a1 : Act) (w1 : World) (M1 : Mem) (ρ1 : Nam) (AD : Env) (VD : View), left ops.size D = m → listed.size = ops.size → (∀ j, j < ops.size → listed.getD j true = D j) →
      (∀ i j, anc i j = true → j < ops.size → D j = true → D i = true) → Sofar ops A V fp chg D AD VD → TR M1 ρ1 N AD a1 → Nx M ρ w (V 0) M1 ρ1 w1 VD → ρ.le ρ1 → wpAny P .any ops Q m listed a1 w1 := by
    intro m
    induction m with
    | zero =>
      intro D listed a1 w1 M1 ρ1 AD VD hl hsz hli hcl hso hT1 hN hle
      have hall := left_zero hl
      have hr : Region.ready .any ops listed = [] := by
        refine List.eq_nil_iff_forall_not_mem.2 fun j hj => ?_
        unfold Region.ready at hj
        rw [List.mem_filter] at hj
        have hjl := List.mem_range.1 hj.1
        simp [hli j hjl, hall j hjl] at hj
      refine ⟨hr, ?_⟩
      have e1 : AD = A ops.size := Env.ext' fun t => hso.env t ops.size (Nat.le_refl _) fun j hj _ => by simp [hall j hj, hj]
      have e2 : VD = V ops.size := View.ext' fun n => hso.view n ops.size (Nat.le_refl _) fun j hj _ _ => by simp [hall j hj, hj]
      subst e1; subst e2
      exact hQ M1 ρ1 w1 a1 hN hle hT1
    | succ m ih =>
      intro D listed a1 w1 M1 ρ1 AD VD hl hsz hli hcl hso hT1 hN hle
      refine ⟨fun hr => ?_, fun i hii => ?_⟩
      · exfalso
        -- the least that is not listed is ready
        have hex : ∃ i, i < ops.size ∧ D i = false := by
          have : (List.range ops.size).filter (fun j => !D j) ≠ [] := fun e => by unfold left at hl; rw [e] at hl; simp at hl
          obtain ⟨i, hii⟩ := List.exists_mem_of_ne_nil _ this
          rw [List.mem_filter] at hii
          exact ⟨i, List.mem_range.1 hii.1, by simpa using hii.2⟩
        have hmin : ∀ k, (∃ i, i ≤ k ∧ i < ops.size ∧ D i = false) → ∃ i, i < ops.size ∧ D i = false ∧ ∀ j, j < i → D j = true := by
          intro k
          induction k with
          | zero => rintro ⟨i, h1, h2, h3⟩; exact ⟨i, h2, h3, fun j hj => by omega⟩
          | succ k ihk =>
            rintro ⟨i, h1, h2, h3⟩
            by_cases hlow : ∃ j, j ≤ k ∧ j < ops.size ∧ D j = false
            · exact ihk hlow
            · refine ⟨i, h2, h3, fun j hj => ?_⟩
              cases hd : D j with
              | true => rfl
              | false => exact absurd ⟨j, by omega, by omega, hd⟩ hlow
        obtain ⟨i0, hi0, hd0⟩ := hex
        obtain ⟨i, h2, h3, h4⟩ := hmin i0 ⟨i0, Nat.le_refl _, hi0, hd0⟩
        have ho : ops[i]? = some ops[i] := Array.getElem?_eq_getElem h2
        have hmem : i ∈ Region.ready .any ops listed := by
          unfold Region.ready
          rw [List.mem_filter]
          refine ⟨List.mem_range.2 h2, ?_⟩
          rw [hli i h2, h3, ho]
          simp only [Bool.not_false, Bool.true_and, Option.map_some, Option.getD_some]
          rw [← Array.all_toList, List.all_eq_true]
          intro e he
          cases hb : Region.binds .any e with
          | false => simp
          | true =>
            have hlt := hw.before i _ ho e he hb
            have hel : e.on < listed.size := by omega
            have := hli e.on (by omega)
            simp only [Array.getD_eq_getD_getElem?, Array.getElem?_eq_getElem hel, Option.getD_some] at this ⊢
            rw [this, h4 e.on hlt]
            rfl
        rw [hr] at hmem
        cases hmem
      · unfold Region.ready at hii
        rw [List.mem_filter] at hii
        have hlt := List.mem_range.1 hii.1
        have ho : ops[i]? = some ops[i] := Array.getElem?_eq_getElem hlt
        have h1 := hii.2
        rw [hli i hlt, ho] at h1
        simp only [Option.map_some, Option.getD_some, Bool.and_eq_true, Bool.not_eq_true'] at h1
        obtain ⟨hDi, hdeps⟩ := h1
        rw [← Array.all_toList, List.all_eq_true] at hdeps
        have hdep : ∀ e ∈ (ops[i]).after.toList, Region.binds .any e = true → D e.on = true := fun e he hb => by
          have h5 := hdeps e he
          rw [hb] at h5
          simp only [Bool.not_true, Bool.false_or] at h5
          have hlt' := hw.before i _ ho e he hb
          have hel : e.on < listed.size := by omega
          have := hli e.on (by omega)
          simp only [Array.getD_eq_getD_getElem?, Array.getElem?_eq_getElem hel, Option.getD_some] at this h5
          rw [← this]; exact h5
        have hanc : ∀ j, anc j i = true → D j = true := fun j hj => by
          obtain ⟨e, he, hb, h6⟩ := hw.path j i _ hj ho
          have hde := hdep e he hb
          rcases h6 with rfl | h6
          · exact hde
          · exact hcl j e.on h6 (by have := hw.before i _ ho e he hb; omega) hde
        have hdesc : ∀ j, j < ops.size → anc i j = true → D j = false := fun j hjl hj => by
          cases hd : D j with
          | false => rfl
          | true => have := hcl i j hj hjl hd; rw [hDi] at this; cases this
        -- descendants beyond the region are none
        have hdesc' : ∀ j, anc i j = true → (if j < ops.size then D j else false) = false := fun j hj => by
          split
          · rename_i hjl; exact hdesc j hjl hj
          · rfl
        let D' : Nat → Bool := fun j => if j < ops.size then D j else false
        have hso' : Sofar ops A V fp chg D' AD VD := ⟨fun t k hk ha => hso.env t k hk fun j hj hd => by have := ha j hj hd; simpa [D', hj] using this, fun n k hk ha => hso.view n k hk fun j hj hc hn => by have := ha j hj hc hn; simpa [D', hj] using this⟩
        obtain ⟨s1, s2, s3⟩ := hso'.step h hi hlt (by simp [D', hlt, hDi]) (fun j hj => by have := hw.lt j i hj; simp [D', show j < ops.size by omega, hanc j hj]) hdesc'
        refine (h.ok i _ ho).wp ho s1 s2 hT1 (hG.mono hN.fr.mem) hN.st fun M' ρ' w' v hN' hle' hv => ?_
        refine ih (fun j => if j = i then true else D j) _ _ _ M' ρ' (AD.put (ops[i]).dst (x i)) (VD.patch (fp i) (V (i + 1))) ?_ (by simp [hsz]) ?_ ?_ ?_ ((hT1.mono hN'.fr.mem hle').put (h.ok i _ ho).1 hv) (hN.trans hN') (Nam.le_trans hle hle')
        · have := left_step hDi ops.size hlt; omega
        · intro j hj
          by_cases hji : j = i
          · subst hji
            simp [Array.getD_eq_getD_getElem?, hsz, hj]
          · rw [if_neg hji, ← hli j hj]
            simp only [Array.getD_eq_getD_getElem?]
            rw [Array.getElem?_setIfInBounds_ne (Ne.symm hji)]
        · intro p q hpq hql hq
          by_cases hqi : q = i
          · subst hqi
            by_cases hpi : p = q
            · rw [if_pos hpi]
            · rw [if_neg hpi]; exact hanc p hpq
          · rw [if_neg hqi] at hq
            by_cases hpi : p = i
            · rw [if_pos hpi]
            · rw [if_neg hpi]; exact hcl p q hpq hql hq
        · refine ⟨fun t k hk ha => s3.env t k hk fun j hj hd => ?_, fun n k hk ha => s3.view n k hk fun j hj hc hn => ?_⟩
          · have := ha j hj hd
            by_cases hji : j = i
            · simpa [hji] using this
            · simpa [hji, D', hj] using this
          · have := ha j hj hc hn
            by_cases hji : j = i
            · simpa [hji] using this
            · simpa [hji, D', hj] using this
  have h0 : left ops.size (fun _ => false) = ops.size := by
    unfold left
    have e : ((List.range ops.size).filter fun j => !(fun _ => false) j) = List.range ops.size := List.filter_eq_self.2 (fun _ _ => rfl)
    rw [e, List.length_range]
  refine key ops.size (fun _ => false) _ a _ M ρ (A 0) (V 0) h0 (by simp) (fun j hj => by simp [Array.getD_eq_getD_getElem?, hj]) (fun _ _ _ _ hd => by cases hd) ?_ hT (Nx.drew hSt) ρ.le_refl
  refine ⟨fun t i hile ha => ?_, fun n i hile ha => ?_⟩
  · have := h.const_env t i 0 (by omega) (fun j _ hj hd => by have := (ha j (by omega) hd).2 (by omega); cases this)
    rw [Nat.zero_add] at this
    exact this.symm
  · have := h.const_view hi n i 0 (by omega) (fun j _ hj hc hn => by have := (ha j (by omega) hc hn).2 (by omega); cases this)
    rw [Nat.zero_add] at this
    exact sameAt_symm this
end
end Go.Pav
namespace Go.Pav
open Go.RowKit

/-- One's own, as lists. -/
structure ASt where
  H : List (Nat × List AV)
  T : List (Nat × (List (List FV) × TypeId × Nat))
  U : List Nat
def ASt.view (S : ASt) : View := ⟨fun l => S.H.lookup l, fun t => S.T.lookup t, fun n => S.U.contains n⟩
def ASt.addBox (S : ASt) (l : Nat) (cs : List AV) : ASt := ⟨(l, cs) :: S.H, S.T, l :: S.U⟩
def ASt.setBox (S : ASt) (l : Nat) (cs : List AV) : ASt := ⟨(l, cs) :: S.H, S.T, S.U⟩
def ASt.setTok (S : ASt) (t : Nat) (x : List (List FV) × TypeId × Nat) : ASt := ⟨S.H, (t, x) :: S.T, t :: S.U⟩
def ASt.nil : ASt := ⟨[], [], []⟩
theorem lookup_cons {α : Type} (l : Nat) (x : α) (xs : List (Nat × α)) (n : Nat) : List.lookup n ((l, x) :: xs) = if n = l then some x else xs.lookup n := by
  rw [List.lookup_cons]
  by_cases h : n = l
  · subst h; simp
  · have : (n == l) = false := by simpa using h
    rw [this, if_neg h]
theorem view_addBox (S : ASt) (l : Nat) (cs : List AV) : (S.addBox l cs).view = S.view.addBox l cs := View.ext' fun n => ⟨lookup_cons l cs S.H n, rfl, List.contains_cons⟩
theorem view_setBox (S : ASt) (l : Nat) (cs : List AV) : (S.setBox l cs).view = S.view.setBox l cs := View.ext' fun n => ⟨lookup_cons l cs S.H n, rfl, rfl⟩
theorem view_setTok (S : ASt) (t : Nat) (x : List (List FV) × TypeId × Nat) : (S.setTok t x).view = S.view.setTok t x := View.ext' fun n => ⟨rfl, lookup_cons t x S.T n, List.contains_cons⟩
theorem view_nil : ASt.nil.view = View.empty := rfl


/-! ### names, and what is forgotten -/
/-- x says more than y. -/
def Wk (x y : AV) : Prop := ∀ M ρ v, AVR M ρ x v → AVR M ρ y v
theorem Wk.refl (x : AV) : Wk x x := fun _ _ _ h => h
theorem Wk.of_eq {x y : AV} (h : x = y) : Wk x y := h ▸ Wk.refl x
theorem Wk.any (x : AV) : Wk x (.v .any) := fun M ρ v _ => by unfold AVR FVR; trivial
theorem Wk.sl (k : SK) (xs : List (List FV)) : Wk (.v (.sl k xs)) (.v (.sl .some xs)) := fun M ρ v h => slOf_ok h rfl |> fun h => by unfold AVR; exact h
theorem Wk.tsl (t : Nat) (xs : List (List FV)) : Wk (.tsl t xs) (.v (.sl .some xs)) := fun M ρ v h => slOf_ok h rfl |> fun h => by unfold AVR; exact h

mutual
/-- The names that a value leads to are of U. -/
def AV.within (U : List Nat) : AV → Bool
  | .v _ => true
  | .tsl t _ => U.contains t
  | .ptr l _ => U.contains l
  | .bsl l _ _ _ _ => U.contains l
  | .tk t _ => U.contains t
  | .pp t _ _ => U.contains t
  | .mp t => U.contains t
  | .agg cs => withins U cs
  | .tup cs => withins U cs
  | .fn _ a b => withins U a && withins U b
  | .iface _ x => x.within U
def withins (U : List Nat) : List AV → Bool
  | [] => true
  | x :: r => x.within U && withins U r
end
def Nam.only (ρ : Nam) (U : List Nat) : Nam := ⟨fun n => if U.contains n then ρ.box n else none, fun n => if U.contains n then ρ.tok n else none⟩
mutual
theorem AVR.only {M : Mem} {ρ : Nam} {U : List Nat} : ∀ (x : AV) (v : Value), x.within U = true → AVR M ρ x v → AVR M (ρ.only U) x v
  | .v x, v, _, h => by unfold AVR at h ⊢; exact h
  | .tsl t xs, v, h1, h => by
    unfold AV.within at h1
    unfold AVR at h ⊢
    obtain ⟨h2, i, h3, h4⟩ := h
    exact ⟨h2, i, by simp only [Nam.only]; rw [if_pos h1]; exact h3, h4⟩
  | .ptr l off, v, h1, h => by
    unfold AV.within at h1
    unfold AVR at h ⊢
    obtain ⟨b, h2, h3⟩ := h
    exact ⟨b, by simp only [Nam.only]; rw [if_pos h1]; exact h2, h3⟩
  | .bsl l off n c sz, v, h1, h => by
    unfold AV.within at h1
    unfold AVR at h ⊢
    obtain ⟨h0, b, h2, h3⟩ := h
    exact ⟨h0, b, by simp only [Nam.only]; rw [if_pos h1]; exact h2, h3⟩
  | .tk t m, v, h1, h => by
    unfold AV.within at h1
    unfold AVR at h ⊢
    obtain ⟨h2, i, h3, h4⟩ := h
    exact ⟨h2, i, by simp only [Nam.only]; rw [if_pos h1]; exact h3, h4⟩
  | .pp t m off, v, h1, h => by
    unfold AV.within at h1
    unfold AVR at h ⊢
    obtain ⟨i, g, c, h3, h4⟩ := h
    exact ⟨i, g, c, by simp only [Nam.only]; rw [if_pos h1]; exact h3, h4⟩
  | .mp t, v, h1, h => by
    unfold AV.within at h1
    unfold AVR at h ⊢
    obtain ⟨i, g, c, h3, h4⟩ := h
    exact ⟨i, g, c, by simp only [Nam.only]; rw [if_pos h1]; exact h3, h4⟩
  | .agg cs, v, h1, h => by
    unfold AV.within at h1
    unfold AVR at h ⊢
    obtain ⟨vs, h2, h3⟩ := h
    exact ⟨vs, h2, AVRs.only cs _ h1 h3⟩
  | .tup cs, v, h1, h => by
    unfold AV.within at h1
    unfold AVR at h ⊢
    obtain ⟨vs, h2, h3⟩ := h
    exact ⟨vs, h2, AVRs.only cs _ h1 h3⟩
  | .fn f a b, v, h1, h => by
    unfold AV.within at h1
    rw [Bool.and_eq_true] at h1
    unfold AVR at h ⊢
    obtain ⟨vs, ws, h2, h3, h4⟩ := h
    exact ⟨vs, ws, h2, AVRs.only a _ h1.1 h3, AVRs.only b _ h1.2 h4⟩
  | .iface t x, v, h1, h => by
    unfold AV.within at h1
    unfold AVR at h ⊢
    obtain ⟨u, h2, h3⟩ := h
    exact ⟨u, h2, AVR.only x u h1 h3⟩
theorem AVRs.only {M : Mem} {ρ : Nam} {U : List Nat} : ∀ (xs : List AV) (vs : List Value), withins U xs = true → AVRs M ρ xs vs → AVRs M (ρ.only U) xs vs
  | [], vs, _, h => by unfold AVRs at h ⊢; exact h
  | x :: r, vs, h1, h => by
    unfold withins at h1
    rw [Bool.and_eq_true] at h1
    unfold AVRs at h ⊢
    obtain ⟨u, us, h2, h3, h4⟩ := h
    exact ⟨u, us, h2, AVR.only x u h1.1 h3, AVRs.only r us h1.2 h4⟩
end
def Wks : List AV → List AV → Prop
  | [], ys => ys = []
  | x :: r, ys => ∃ y s, ys = y :: s ∧ Wk x y ∧ Wks r s
theorem Wks.ok {M : Mem} {ρ : Nam} : ∀ {xs ys : List AV} {vs : List Value}, Wks xs ys → AVRs M ρ xs vs → AVRs M ρ ys vs
  | [], ys, vs, h, k => by unfold Wks at h; subst h; exact k
  | x :: r, ys, vs, h, k => by
    unfold Wks at h
    obtain ⟨y, s, rfl, h1, h2⟩ := h
    unfold AVRs at k ⊢
    obtain ⟨u, us, h3, h4, h5⟩ := k
    exact ⟨u, us, h3, h1 M ρ u h4, Wks.ok h2 h5⟩
theorem Wks.refl : ∀ (xs : List AV), Wks xs xs
  | [] => by unfold Wks; rfl
  | x :: r => by unfold Wks; exact ⟨x, r, rfl, Wk.refl x, Wks.refl r⟩

theorem lookup_mem {α : Type} : ∀ {l : List (Nat × α)} {n : Nat} {x : α}, l.lookup n = some x → (n, x) ∈ l
  | [], _, _, h => by simp at h
  | (m, y) :: r, n, x, h => by
    rw [lookup_cons] at h
    split at h
    · rename_i e
      subst e
      obtain rfl := Option.some.inj h
      simp
    · exact List.mem_cons_of_mem _ (lookup_mem h)

/-! ### a function that turns what is one's own -/
/-- Function f called with args, S being one's own: it gives r and leaves S'. -/
def GFn (P : Program) (Γ : Glo) (f : FuncId) (S : ASt) (args : List AV) (r : AV) (S' : ASt) : Prop :=
  Real P f ∧ ∀ M ρ w (vals : Array Value), Glob M Γ → St M ρ w S.view → AVRs M ρ args vals.toList →
    Calls P f vals w fun e w' => ∃ M' ρ' v, e = .returned v ∧ AVR M' ρ' r v ∧ Nx M ρ w S.view M' ρ' w' S'.view ∧ ρ.le ρ'

/-- S2 has what S0 has; S1's new names are free there. -/
structure Fits (S2 : View) (S0 S1 : ASt) : Prop where
  box : ∀ l cs0, S0.view.H l = some cs0 → (∃ cs, S2.H l = some cs ∧ Wks cs cs0) ∧ l ∈ S0.U ∧ withins S0.U cs0 = true
  tok : ∀ t x, S0.view.T t = some x → S2.T t = some x ∧ t ∈ S0.U
  old : ∀ n, n ∈ S0.U → n ∈ S1.U ∧ S2.U n = true
  new : ∀ n, n ∈ S1.U → n ∉ S0.U → S2.U n = false
theorem only_box {ρ : Nam} {U : List Nat} {l b : Nat} (h : (ρ.only U).box l = some b) : ρ.box l = some b ∧ l ∈ U := by
  simp only [Nam.only] at h
  split at h
  · rename_i e; exact ⟨h, by simpa using e⟩
  · cases h
theorem only_tok {ρ : Nam} {U : List Nat} {l : Nat} {i : Tok} (h : (ρ.only U).tok l = some i) : ρ.tok l = some i ∧ l ∈ U := by
  simp only [Nam.only] at h
  split at h
  · rename_i e; exact ⟨h, by simpa using e⟩
  · cases h
theorem only_box_in {ρ : Nam} {U : List Nat} {l : Nat} (h : l ∈ U) : (ρ.only U).box l = ρ.box l := by
  simp only [Nam.only]; rw [if_pos (by simpa using h)]
theorem only_tok_in {ρ : Nam} {U : List Nat} {l : Nat} (h : l ∈ U) : (ρ.only U).tok l = ρ.tok l := by
  simp only [Nam.only]; rw [if_pos (by simpa using h)]
theorem mem_view_U {S : ASt} {n : Nat} : S.view.U n = true ↔ n ∈ S.U := by simp [ASt.view]
theorem nmem_view_U {S : ASt} {n : Nat} : S.view.U n = false ↔ n ∉ S.U := by simp [ASt.view]
theorem Fits.pre {M : Mem} {ρ : Nam} {w : World} {S2 : View} {S0 S1 : ASt} (h : Fits S2 S0 S1) (hSt : St M ρ w S2) : St M (ρ.only S0.U) w S0.view ∧ ∀ b, Owned (ρ.only S0.U) S0.view b → Owned ρ S2 b := by
  refine ⟨⟨hSt.mem, ?_, ?_, ?_, ?_, ?_, ?_, ?_⟩, ?_⟩
  · intro l cs0 hl
    obtain ⟨⟨cs, h1, h2⟩, h3, h4⟩ := h.box l cs0 hl
    obtain ⟨b, c, ty, h5, h6, h7, h8⟩ := hSt.box l cs h1
    exact ⟨b, c, ty, by rw [only_box_in h3]; exact h5, h6, AVRs.only _ _ h4 (h2.ok h7), h8⟩
  · intro t xs e sz ht
    obtain ⟨h1, h2⟩ := h.tok t _ ht
    obtain ⟨i, h3, h4⟩ := hSt.tok t xs e sz h1
    exact ⟨i, by rw [only_tok_in h2]; exact h3, h4⟩
  · intro l l' b c c' h1 h2 h3 h4
    obtain ⟨⟨d, h5, _⟩, _⟩ := h.box l c h1
    obtain ⟨⟨d', h6, _⟩, _⟩ := h.box l' c' h2
    exact hSt.boxes l l' b d d' h5 h6 (only_box h3).1 (only_box h4).1
  · intro t t' x x' i i' b h1 h2 h3 h4
    exact hSt.toks t t' x x' i i' b (h.tok t x h1).1 (h.tok t' x' h2).1 (only_tok h3).1 (only_tok h4).1
  · intro l t cs x i b h1 h2 h3 h4
    obtain ⟨⟨d, h5, _⟩, _⟩ := h.box l cs h1
    exact hSt.mixed l t d x i b h5 (h.tok t x h2).1 (only_box h3).1 (only_tok h4).1
  · intro n hn
    rw [nmem_view_U] at hn
    simp only [Nam.only]
    rw [if_neg (by simpa using hn), if_neg (by simpa using hn)]
    exact ⟨rfl, rfl⟩
  · intro n hn
    rw [nmem_view_U] at hn
    constructor
    · cases hl : S0.view.H n with
      | none => rfl
      | some c => exact absurd (h.box n c hl).2.1 hn
    · cases hl : S0.view.T n with
      | none => rfl
      | some c => exact absurd (h.tok n c hl).2 hn
  · intro b hb
    rcases hb with ⟨l, cs, h1, h2⟩ | ⟨t, x, i, h1, h2, h3⟩
    · obtain ⟨⟨d, h4, _⟩, _⟩ := h.box l cs h1
      exact .inl ⟨l, d, h4, (only_box h2).1⟩
    · exact .inr ⟨t, x, i, (h.tok t x h1).1, (only_tok h2).1, h3⟩
/-- Names: those of U by ρ1, the others by ρ. -/
def Nam.join (ρ ρ1 : Nam) (U : List Nat) : Nam := ⟨fun n => if n ∈ U then ρ1.box n else ρ.box n, fun n => if n ∈ U then ρ1.tok n else ρ.tok n⟩
theorem Fits.post {M M' : Mem} {ρ ρ1 : Nam} {w w' : World} {S2 : View} {S0 S1 : ASt} (h : Fits S2 S0 S1) (hSt : St M ρ w S2) (hN : Nx M (ρ.only S0.U) w S0.view M' ρ1 w' S1.view) (hle : (ρ.only S0.U).le ρ1) :
    Nx M ρ w S2 M' (ρ.join ρ1 S1.U) w' (S2.patch S1.U S1.view) ∧ ρ.le (ρ.join ρ1 S1.U) ∧ ρ1.le (ρ.join ρ1 S1.U) := by
  obtain ⟨hpre, hown⟩ := h.pre hSt
  have bIn : ∀ {n}, n ∈ S1.U → (ρ.join ρ1 S1.U).box n = ρ1.box n := fun hn => by simp only [Nam.join]; rw [if_pos hn]
  have bOut : ∀ {n}, n ∉ S1.U → (ρ.join ρ1 S1.U).box n = ρ.box n := fun hn => by simp only [Nam.join]; rw [if_neg hn]
  have tIn : ∀ {n}, n ∈ S1.U → (ρ.join ρ1 S1.U).tok n = ρ1.tok n := fun hn => by simp only [Nam.join]; rw [if_pos hn]
  have tOut : ∀ {n}, n ∉ S1.U → (ρ.join ρ1 S1.U).tok n = ρ.tok n := fun hn => by simp only [Nam.join]; rw [if_neg hn]
  have HIn : ∀ {n}, n ∈ S1.U → (S2.patch S1.U S1.view).H n = S1.view.H n := fun hn => by simp only [View.patch]; rw [if_pos hn]
  have HOut : ∀ {n}, n ∉ S1.U → (S2.patch S1.U S1.view).H n = S2.H n := fun hn => by simp only [View.patch]; rw [if_neg hn]
  have TIn : ∀ {n}, n ∈ S1.U → (S2.patch S1.U S1.view).T n = S1.view.T n := fun hn => by simp only [View.patch]; rw [if_pos hn]
  have TOut : ∀ {n}, n ∉ S1.U → (S2.patch S1.U S1.view).T n = S2.T n := fun hn => by simp only [View.patch]; rw [if_neg hn]
  have UIn : ∀ {n}, n ∈ S1.U → (S2.patch S1.U S1.view).U n = true := fun hn => by simp only [View.patch]; rw [if_pos hn]; exact mem_view_U.2 hn
  have UOut : ∀ {n}, n ∉ S1.U → (S2.patch S1.U S1.view).U n = S2.U n := fun hn => by simp only [View.patch]; rw [if_neg hn]
  have notin0 : ∀ {n}, n ∉ S1.U → n ∉ S0.U := fun hn hn0 => hn (h.old _ hn0).1
  have hleρ : ρ.le (ρ.join ρ1 S1.U) := by
    refine ⟨fun n b hb => ?_, fun n i hi => ?_⟩
    · by_cases hn : n ∈ S1.U
      · rw [bIn hn]
        by_cases h0 : n ∈ S0.U
        · exact hle.box n b (by rw [only_box_in h0]; exact hb)
        · rw [(hSt.free n (h.new n hn h0)).1] at hb; cases hb
      · rw [bOut hn]; exact hb
    · by_cases hn : n ∈ S1.U
      · rw [tIn hn]
        by_cases h0 : n ∈ S0.U
        · exact hle.tok n i (by rw [only_tok_in h0]; exact hi)
        · rw [(hSt.free n (h.new n hn h0)).2] at hi; cases hi
      · rw [tOut hn]; exact ⟨i, hi, Nat.le_refl _, fun _ _ => rfl⟩
  have hle1 : ρ1.le (ρ.join ρ1 S1.U) := by
    have hf : ∀ {n}, n ∉ S1.U → ρ1.box n = none ∧ ρ1.tok n = none := fun hn => hN.st.free _ (nmem_view_U.2 hn)
    refine ⟨fun n b hb => ?_, fun n i hi => ?_⟩
    · by_cases hn : n ∈ S1.U
      · rw [bIn hn]; exact hb
      · rw [(hf hn).1] at hb; cases hb
    · by_cases hn : n ∈ S1.U
      · rw [tIn hn]; exact ⟨i, hi, Nat.le_refl _, fun _ _ => rfl⟩
      · rw [(hf hn).2] at hi; cases hi
  -- what another name owns isn't owned by what was handed over
  have outB : ∀ {l cs b}, l ∉ S1.U → S2.H l = some cs → ρ.box l = some b → b < w.heap.size ∧ ¬ Owned (ρ.only S0.U) S0.view b := by
    intro l cs b hn hl hb
    refine ⟨hSt.owned_lt (.inl ⟨l, cs, hl, hb⟩), fun ho => ?_⟩
    rcases ho with ⟨l', cs', h1, h2⟩ | ⟨t, x, i, h1, h2, h3⟩
    · obtain ⟨⟨d, h4, _⟩, h5, _⟩ := h.box l' cs' h1
      exact notin0 hn (hSt.boxes l l' b cs d hl h4 hb (only_box h2).1 ▸ h5)
    · exact hSt.mixed l t cs x i b hl (h.tok t x h1).1 hb (only_tok h2).1 h3
  have outT : ∀ {t x i b}, t ∉ S1.U → S2.T t = some x → ρ.tok t = some i → i.own = some b → b < w.heap.size ∧ ¬ Owned (ρ.only S0.U) S0.view b := by
    intro t x i b hn ht hi hb
    refine ⟨hSt.owned_lt (.inr ⟨t, x, i, ht, hi, hb⟩), fun ho => ?_⟩
    rcases ho with ⟨l', cs', h1, h2⟩ | ⟨t', x', i', h1, h2, h3⟩
    · obtain ⟨⟨d, h4, _⟩, h5, _⟩ := h.box l' cs' h1
      exact hSt.mixed l' t d x i b h4 ht (only_box h2).1 hi hb
    · exact notin0 hn (hSt.toks t t' x x' i i' b ht (h.tok t' x' h1).1 hi (only_tok h2).1 hb h3 ▸ (h.tok t' x' h1).2)
  have clash : ∀ {b}, Owned ρ1 S1.view b → b < w.heap.size ∧ ¬ Owned (ρ.only S0.U) S0.view b → False := fun ho hn => (hN.own _ ho).elim hn.2 (fun hl => by have := hn.1; omega)
  refine ⟨⟨⟨hN.st.mem, ?_, ?_, ?_, ?_, ?_, ?_, ?_⟩, hN.fr.mono hown, ?_⟩, hleρ, hle1⟩
  · intro l cs hl
    by_cases hn : l ∈ S1.U
    · rw [HIn hn] at hl
      obtain ⟨b, c, ty, h1, h2, h3, h4⟩ := hN.st.box l cs hl
      exact ⟨b, c, ty, by rw [bIn hn]; exact h1, h2, AVRs.mono M'.le_refl hle1 _ _ h3, h4⟩
    · rw [HOut hn] at hl
      obtain ⟨b, c, ty, h1, h2, h3, h4, h5⟩ := hSt.box l cs hl
      have ho := outB hn hl h1
      exact ⟨b, c, ty, by rw [bOut hn]; exact h1, (hN.fr.block b ho.1 ho.2).trans h2, AVRs.mono hN.fr.mem hleρ _ _ h3, h4, fun o => (hN.fr.memf b ho.1 ho.2 o).trans (h5 o)⟩
  · intro t xs e sz ht
    by_cases hn : t ∈ S1.U
    · rw [TIn hn] at ht
      obtain ⟨i, h1, h2⟩ := hN.st.tok t xs e sz ht
      exact ⟨i, by rw [tIn hn]; exact h1, h2⟩
    · rw [TOut hn] at ht
      obtain ⟨i, h1, h2, hr, h3, h4⟩ := hSt.tok t xs e sz ht
      refine ⟨i, by rw [tOut hn]; exact h1, FVR.mono hN.fr.mem _ _ h2, hr, h3, ?_⟩
      cases hoo : i.own with
      | none => rw [hoo] at h4; exact h4
      | some g =>
        rw [hoo] at h4
        obtain ⟨cap, cur, h5, h6, h7, h8, h9, h10⟩ := h4
        have ho := outT hn ht h1 hoo
        exact ⟨cap, cur, h5, h6.tr (hN.fr.block g ho.1 ho.2) hN.fr.mem, h7, h8, h9, fun o hl => (hN.fr.memf g ho.1 ho.2 o).trans (h10 o hl)⟩
  · intro l l' b cs cs' hl hl' hb hb'
    by_cases hn : l ∈ S1.U <;> by_cases hn' : l' ∈ S1.U
    · rw [HIn hn] at hl; rw [HIn hn'] at hl'; rw [bIn hn] at hb; rw [bIn hn'] at hb'
      exact hN.st.boxes l l' b cs cs' hl hl' hb hb'
    · rw [HIn hn] at hl; rw [HOut hn'] at hl'; rw [bIn hn] at hb; rw [bOut hn'] at hb'
      exact (clash (.inl ⟨l, cs, hl, hb⟩) (outB hn' hl' hb')).elim
    · rw [HOut hn] at hl; rw [HIn hn'] at hl'; rw [bOut hn] at hb; rw [bIn hn'] at hb'
      exact (clash (.inl ⟨l', cs', hl', hb'⟩) (outB hn hl hb)).elim
    · rw [HOut hn] at hl; rw [HOut hn'] at hl'; rw [bOut hn] at hb; rw [bOut hn'] at hb'
      exact hSt.boxes l l' b cs cs' hl hl' hb hb'
  · intro l l' x x' i i' b hl hl' hb hb' ho ho'
    by_cases hn : l ∈ S1.U <;> by_cases hn' : l' ∈ S1.U
    · rw [TIn hn] at hl; rw [TIn hn'] at hl'; rw [tIn hn] at hb; rw [tIn hn'] at hb'
      exact hN.st.toks l l' x x' i i' b hl hl' hb hb' ho ho'
    · rw [TIn hn] at hl; rw [TOut hn'] at hl'; rw [tIn hn] at hb; rw [tOut hn'] at hb'
      exact (clash (.inr ⟨l, x, i, hl, hb, ho⟩) (outT hn' hl' hb' ho')).elim
    · rw [TOut hn] at hl; rw [TIn hn'] at hl'; rw [tOut hn] at hb; rw [tIn hn'] at hb'
      exact (clash (.inr ⟨l', x', i', hl', hb', ho'⟩) (outT hn hl hb ho)).elim
    · rw [TOut hn] at hl; rw [TOut hn'] at hl'; rw [tOut hn] at hb; rw [tOut hn'] at hb'
      exact hSt.toks l l' x x' i i' b hl hl' hb hb' ho ho'
  · intro l l' cs x i b hl hl' hb hb' ho
    by_cases hn : l ∈ S1.U <;> by_cases hn' : l' ∈ S1.U
    · rw [HIn hn] at hl; rw [TIn hn'] at hl'; rw [bIn hn] at hb; rw [tIn hn'] at hb'
      exact hN.st.mixed l l' cs x i b hl hl' hb hb' ho
    · rw [HIn hn] at hl; rw [TOut hn'] at hl'; rw [bIn hn] at hb; rw [tOut hn'] at hb'
      exact clash (.inl ⟨l, cs, hl, hb⟩) (outT hn' hl' hb' ho)
    · rw [HOut hn] at hl; rw [TIn hn'] at hl'; rw [bOut hn] at hb; rw [tIn hn'] at hb'
      exact clash (.inr ⟨l', x, i, hl', hb', ho⟩) (outB hn hl hb)
    · rw [HOut hn] at hl; rw [TOut hn'] at hl'; rw [bOut hn] at hb; rw [tOut hn'] at hb'
      exact hSt.mixed l l' cs x i b hl hl' hb hb' ho
  · intro n hu
    by_cases hn : n ∈ S1.U
    · rw [UIn hn] at hu; cases hu
    · rw [UOut hn] at hu; rw [bOut hn, tOut hn]; exact hSt.free n hu
  · intro n hu
    by_cases hn : n ∈ S1.U
    · rw [UIn hn] at hu; cases hu
    · rw [UOut hn] at hu; rw [HOut hn, TOut hn]; exact hSt.freeH n hu
  · intro b hb
    rcases hb with ⟨l, cs, h1, h2⟩ | ⟨t, x, i, h1, h2, h3⟩
    · by_cases hn : l ∈ S1.U
      · rw [HIn hn] at h1; rw [bIn hn] at h2
        exact (hN.own b (.inl ⟨l, cs, h1, h2⟩)).imp (hown b) id
      · rw [HOut hn] at h1; rw [bOut hn] at h2
        exact .inl (.inl ⟨l, cs, h1, h2⟩)
    · by_cases hn : t ∈ S1.U
      · rw [TIn hn] at h1; rw [tIn hn] at h2
        exact (hN.own b (.inr ⟨t, x, i, h1, h2, h3⟩)).imp (hown b) id
      · rw [TOut hn] at h1; rw [tOut hn] at h2
        exact .inl (.inr ⟨t, x, i, h1, h2, h3⟩)

/-- S with what S1 says of its names. -/
def ASt.patch (S S1 : ASt) : ASt := ⟨S1.H ++ S.H.filter (fun p => !S1.U.contains p.1), S1.T ++ S.T.filter (fun p => !S1.U.contains p.1), S1.U ++ S.U⟩
def ASt.closed (S : ASt) : Bool := S.H.all (fun p => S.U.contains p.1) && S.T.all (fun p => S.U.contains p.1)
theorem lookup_patch {α : Type} {U : List Nat} (n : Nat) (xs : List (Nat × α)) : ∀ (ys : List (Nat × α)), ys.all (fun p => U.contains p.1) = true → (ys ++ xs.filter (fun p => !U.contains p.1)).lookup n = if n ∈ U then ys.lookup n else xs.lookup n
  | [], _ => by
    rw [List.nil_append]
    induction xs with
    | nil => simp
    | cons p r ih =>
      obtain ⟨m, x⟩ := p
      by_cases hm : m ∈ U
      · rw [List.filter_cons, if_neg (by simp [hm]), ih, lookup_cons]
        by_cases hn : n ∈ U
        · rw [if_pos hn, if_pos hn]
        · rw [if_neg hn, if_neg hn, if_neg (fun (e : n = m) => hn (e ▸ hm))]
      · rw [List.filter_cons, if_pos (by simp [hm]), lookup_cons, ih, lookup_cons]
        by_cases hn : n ∈ U
        · rw [if_pos hn, if_pos hn, if_neg (fun (e : n = m) => hm (e ▸ hn))]
        · rw [if_neg hn, if_neg hn]
  | (m, y) :: r, h => by
    rw [List.all_cons, Bool.and_eq_true] at h
    rw [List.cons_append, lookup_cons, lookup_patch n xs r h.2, lookup_cons]
    by_cases e : n = m
    · subst e
      rw [if_pos rfl, if_pos rfl, if_pos (by simpa using h.1)]
    · rw [if_neg e, if_neg e]
theorem view_patch (S S1 : ASt) (h : S1.closed = true) : (S.patch S1).view = S.view.patch S1.U S1.view := View.ext' fun n => by
  unfold ASt.closed at h
  rw [Bool.and_eq_true] at h
  refine ⟨lookup_patch n S.H S1.H h.1, lookup_patch n S.T S1.T h.2, ?_⟩
  simp only [ASt.patch, ASt.view, View.patch, List.contains_append]
  by_cases hn : n ∈ S1.U
  · simp [hn]
  · simp [hn]

/-- What a call hands over. -/
structure FitsA (S : ASt) (args : List AV) (S0 : ASt) (args0 : List AV) (r : AV) (S1 : ASt) : Prop where
  args : Wks args args0
  box : ∀ p ∈ S0.H, ∃ cs, S.H.lookup p.1 = some cs ∧ Wks cs p.2
  tok : ∀ p ∈ S0.T, S.T.lookup p.1 = some p.2
  inA : withins S0.U args0 = true
  inH : S0.H.all (fun p => S0.U.contains p.1 && withins S0.U p.2) = true
  inT : S0.T.all (fun p => S0.U.contains p.1) = true
  old : S0.U.all (fun n => S1.U.contains n && S.U.contains n) = true
  new : S1.U.all (fun n => S0.U.contains n || !S.U.contains n) = true
  shut : S1.closed = true
theorem FitsA.fits {S S0 S1 : ASt} {args args0 : List AV} {r : AV} (h : FitsA S args S0 args0 r S1) {S2 : View} (hS : ∀ n ∈ S1.U, S2.sameAt S.view n) : Fits S2 S0 S1 := by
  have hold : ∀ n, n ∈ S0.U → n ∈ S1.U ∧ S.view.U n = true := fun n hn => by
    have := (List.all_eq_true.1 h.old) n hn
    rw [Bool.and_eq_true] at this
    exact ⟨by simpa using this.1, this.2⟩
  refine ⟨fun l cs0 hl => ?_, fun t x ht => ?_, fun n hn => ⟨(hold n hn).1, (hS n (hold n hn).1).2.2.trans (hold n hn).2⟩, fun n hn hn0 => ?_⟩
  · have hm := lookup_mem hl
    obtain ⟨cs, h1, h2⟩ := h.box _ hm
    have h3 := (List.all_eq_true.1 h.inH) _ hm
    rw [Bool.and_eq_true] at h3
    have h4 : l ∈ S0.U := by simpa using h3.1
    exact ⟨⟨cs, (hS l (hold l h4).1).1.trans h1, h2⟩, h4, h3.2⟩
  · have hm := lookup_mem ht
    have h3 : t ∈ S0.U := by simpa using (List.all_eq_true.1 h.inT) _ hm
    exact ⟨(hS t (hold t h3).1).2.1.trans (h.tok _ hm), h3⟩
  · have := (List.all_eq_true.1 h.new) n hn
    rw [Bool.or_eq_true] at this
    rcases this with h1 | h1
    · exact absurd (by simpa using h1) hn0
    · rw [(hS n hn).2.2]; simpa [ASt.view] using h1

section
variable {P : Program} {Γ : Glo} {o : Oper} {A : Env} {S : ASt}
theorem ok_callG {c : Call} {fo : Operand} {fv : AV} {f : FuncId} {first caps args args0 : List AV} {r : AV} {S0 S1 : ASt} (ho : o.op = .call c) (hc : c.callee = .value fo) (hf : ev Γ A fo = some fv) (hfv : fnOf fv = some (f, first, caps)) (ha : evs Γ A c.args.toList = some args)
    (hF : FitsA S (first ++ args ++ caps) S0 args0 r S1) (hG : GFn P Γ f S0 args0 r S1) : OpOk P Γ o A S.view r (S.patch S1).view S1.U := by
  rw [view_patch S S1 hF.shut]
  refine ⟨fun n hn => ⟨by simp [View.patch, hn], by simp [View.patch, hn], by simp [View.patch, hn]⟩, fun S2 hS2 M ρ w a h hGl hSt K Q hK => ?_⟩
  have hfit := hF.fits hS2
  obtain ⟨hpre, hown⟩ := hfit.pre hSt
  obtain ⟨vs, ws, h1, h2, h3⟩ := fnOf_ok (h fo (by simp [ho, Op.operands, Call.operands, hc]) _ hf) hfv
  have h4 := evs_ok h (xs := c.args.toList) (fun x hx => by simp only [ho, Op.operands, Call.operands, hc]; simp; exact .inr (by simpa using hx)) ha
  have hargs : AVRs M (ρ.only S0.U) args0 (vs ++ c.args.map a.eval ++ ws).toList := by
    refine AVRs.only _ _ hF.inA (hF.args.ok ?_)
    simpa using (h2.append h4).append h3
  unfold Oper.wp
  rw [call_enters ho hc h1 hG.1 w]
  simp only [Oper.upon]
  refine (hG.2 M _ w _ hGl hpre hargs).mono fun e w' he => ?_
  obtain ⟨M', ρ', v, rfl, h5, h6, h7⟩ := he
  obtain ⟨k1, k2, k3⟩ := hfit.post hSt h6 h7
  refine hK M' _ w' v ?_ k2 (AVR.mono M'.le_refl k3 _ _ h5)
  have e : S2.patch S1.U (S.view.patch S1.U S1.view) = S2.patch S1.U S1.view := View.ext' fun n => by
    by_cases hn : n ∈ S1.U <;> simp [View.sameAt, View.patch, hn]
  rw [e]
  exact k1

/-! ### a function that turns nothing, whose result leads nowhere, may be lent what is one's own -/
mutual
def FV.flat : FV → Bool
  | .any | .bool _ | .int _ _ | .str _ | .nilp | .nilfn | .nilif => true
  | .agg cs => flats cs
  | .tup cs => flats cs
  | .iface _ x => x.flat
  | _ => false
def flats : List FV → Bool
  | [] => true
  | x :: r => x.flat && flats r
end
mutual
theorem FVR.flat {M M' : Mem} : ∀ (x : FV) (v : Value), x.flat = true → FVR M x v → FVR M' x v
  | .any, _, _, _ => by unfold FVR; trivial
  | .bool _, _, _, h => by unfold FVR at h ⊢; exact h
  | .int _ _, _, _, h => by unfold FVR at h ⊢; exact h
  | .str _, _, _, h => by unfold FVR at h ⊢; exact h
  | .nilp, _, _, h => by unfold FVR at h ⊢; exact h
  | .nilfn, _, _, h => by unfold FVR at h ⊢; exact h
  | .nilif, _, _, h => by unfold FVR at h ⊢; exact h
  | .sl _ _, _, e, _ => by unfold FV.flat at e; cases e
  | .fptr _, _, e, _ => by unfold FV.flat at e; cases e
  | .fn _ _ _, _, e, _ => by unfold FV.flat at e; cases e
  | .agg cs, _, e, h => by
    unfold FV.flat at e
    unfold FVR at h ⊢
    obtain ⟨vs, h1, h2⟩ := h
    exact ⟨vs, h1, FVRs.flat cs _ e h2⟩
  | .tup cs, _, e, h => by
    unfold FV.flat at e
    unfold FVR at h ⊢
    obtain ⟨vs, h1, h2⟩ := h
    exact ⟨vs, h1, FVRs.flat cs _ e h2⟩
  | .iface _ x, _, e, h => by
    unfold FV.flat at e
    unfold FVR at h ⊢
    obtain ⟨vs, h1, h2⟩ := h
    exact ⟨vs, h1, FVR.flat x _ e h2⟩
theorem FVRs.flat {M M' : Mem} : ∀ (xs : List FV) (vs : List Value), flats xs = true → FVRs M xs vs → FVRs M' xs vs
  | [], _, _, h => by unfold FVRs at h ⊢; exact h
  | x :: r, _, e, h => by
    unfold flats at e
    rw [Bool.and_eq_true] at e
    unfold FVRs at h ⊢
    obtain ⟨u, us, h1, h2, h3⟩ := h
    exact ⟨u, us, h1, FVR.flat x u e.1 h2, FVRs.flat r us e.2 h3⟩
end
/-- A value, with all that it leads to. -/
def frz (H : Nat → Option (List AV)) : Nat → AV → FV
  | 0, _ => .any
  | k + 1, x => match x with
    | .v x => x
    | .tsl _ xs => .sl .some xs
    | .ptr l off => match H l with
      | some cs => .fptr ((cs.drop off).map (frz H k))
      | none => .any
    | .bsl l off n c sz => match H l with
      | some cs => bif Nat.ble (off + n * sz) cs.length then .sl (bif Nat.beq n c then .full else .some) (chunk sz ((cs.drop off).map (frz H k)) n) else .any
      | none => .any
    | .tk _ _ => .any
    | .pp _ _ _ => .any
    | .mp _ => .any
    | .agg cs => .agg (cs.map (frz H k))
    | .tup cs => .tup (cs.map (frz H k))
    | .fn f a b => .fn f (a.map (frz H k)) (b.map (frz H k))
    | .iface t x => .iface t (frz H k x)
open Classical in
/-- All of one's own, as if it never were written. -/
noncomputable def Mem.lent (M : Mem) (ρ : Nam) (w : World) (S : View) : Mem := fun b o => match M b o with
  | some v => some v
  | none => if ∃ l cs, S.H l = some cs ∧ ρ.box l = some b then w.cell? ⟨b, o, none⟩ else none
theorem Mem.le_lent (M : Mem) (ρ : Nam) (w : World) (S : View) : M.le (M.lent ρ w S) := fun b o v h => by unfold Mem.lent; rw [h]
theorem Mem.lent_box {M : Mem} {ρ : Nam} {w : World} {S : View} (h : St M ρ w S) {l b : Nat} {cs : List AV} (h1 : S.H l = some cs) (h2 : ρ.box l = some b) {o : Nat} {v : Value} (hv : w.cell? ⟨b, o, none⟩ = some v) : M.lent ρ w S b o = some v := by
  obtain ⟨b', c, ty, h3, h4, h5, h6, h7⟩ := h.box l cs h1
  rw [h2] at h3
  obtain rfl := Option.some.inj h3
  unfold Mem.lent
  rw [h7 o]
  simp only
  rw [if_pos ⟨l, cs, h1, h2⟩, hv]
theorem Mem.lent_ok {M : Mem} {ρ : Nam} {w : World} {S : View} (h : St M ρ w S) : MemOk (M.lent ρ w S) w := fun b o v hv => by
  unfold Mem.lent at hv
  cases hM : M b o with
  | some u => rw [hM] at hv; simp only at hv; rw [← Option.some.inj hv]; exact h.mem b o u hM
  | none =>
    rw [hM] at hv
    simp only at hv
    split at hv
    · exact hv
    · cases hv
theorem AVRs.frz {M M' : Mem} {ρ : Nam} {g : AV → FV} : ∀ {xs : List AV} {vs : List Value}, (∀ x v, AVR M ρ x v → FVR M' (g x) v) → AVRs M ρ xs vs → FVRs M' (xs.map g) vs
  | [], vs, _, h => by unfold AVRs at h; rw [List.map_nil]; unfold FVRs; exact h
  | x :: r, vs, hg, h => by
    unfold AVRs at h
    obtain ⟨u, us, h1, h2, h3⟩ := h
    rw [List.map_cons]
    unfold FVRs
    exact ⟨u, us, h1, hg x u h2, AVRs.frz hg h3⟩
theorem Cls.mk {M : Mem} {b : Nat} : ∀ {xs : List FV} {o : Nat}, (∀ (i : Nat) x, xs[i]? = some x → ∃ u, M b (o + i) = some u ∧ u.oneCell' = true ∧ FVR M x u) → Cls M xs b o
  | [], o, _ => by unfold Cls; trivial
  | x :: r, o, h => by
    unfold Cls
    refine ⟨by simpa using h 0 x (by simp), Cls.mk fun i y hi => ?_⟩
    have := h (i + 1) y (by simpa using hi)
    rwa [show o + 1 + i = o + (i + 1) by omega]
theorem frz_ok {M : Mem} {ρ : Nam} {w : World} {S : View} (h : St M ρ w S) : ∀ (k : Nat) (x : AV) (v : Value), AVR M ρ x v → FVR (M.lent ρ w S) (frz S.H k x) v
  | 0, x, v, _ => by unfold frz FVR; trivial
  | k + 1, x, v, hx => by
    have ih := frz_ok h k
    unfold frz
    cases x with
    | v x => unfold AVR at hx; exact FVR.mono (M.le_lent ρ w S) x v hx
    | tsl t xs => unfold AVR at hx; exact FVR.mono (M.le_lent ρ w S) _ v hx.1
    | tk t m => simp only; unfold FVR; trivial
    | pp t m off => simp only; unfold FVR; trivial
    | mp t => simp only; unfold FVR; trivial
    | ptr l off =>
      unfold AVR at hx
      obtain ⟨b, h1, h2⟩ := hx
      simp only
      cases hl : S.H l with
      | none => simp only; unfold FVR; trivial
      | some cs =>
        simp only
        obtain ⟨b', c, ty, h3, h4, h5, h6, h7⟩ := h.box l cs hl
        rw [h1] at h3
        obtain rfl := Option.some.inj h3
        unfold FVR
        refine ⟨b, off, h2, Cls.mk fun i y hi => ?_⟩
        rw [List.getElem?_map, Option.map_eq_some_iff] at hi
        obtain ⟨z, hz, rfl⟩ := hi
        rw [List.getElem?_drop] at hz
        obtain ⟨u, h8, h9⟩ := AVRs.get h5 _ _ hz
        refine ⟨u, Mem.lent_box h hl h1 ?_, h6 u (List.mem_of_getElem? h8), ih z u h9⟩
        rw [cell_of_row w b (off + i) c ty (0, 0) h4]
        simpa using h8
    | bsl l off n c sz =>
      unfold AVR at hx
      obtain ⟨h0, b, h1, h2⟩ := hx
      simp only
      cases hl : S.H l with
      | none => simp only; unfold FVR; trivial
      | some cs =>
        simp only
        cases hble : Nat.ble (off + n * sz) cs.length with
        | false => simp only [cond_false]; unfold FVR; trivial
        | true =>
          rw [Nat.ble_eq] at hble
          simp only [cond_true]
          obtain ⟨b', cc, ty, h3, h4, h5, h6, h7⟩ := h.box l cs hl
          rw [h1] at h3
          obtain rfl := Option.some.inj h3
          unfold FVR
          refine ⟨_, n, c, h2, by simp [chunk], h0, ?_, (fun e => by cases e), .inr ⟨b, off, sz, rfl, Rws.mk fun i row hi => ?_⟩⟩
          · cases hbeq : Nat.beq n c with
            | false => simp [SK.ok]
            | true => simp only [cond_true, SK.ok]; rwa [Nat.beq_eq] at hbeq
          · simp only [chunk, List.getElem?_map, Option.map_eq_some_iff] at hi
            obtain ⟨r, hr, rfl⟩ := hi
            have hrn : r < n := by have := List.mem_of_getElem? hr; simpa using this
            have hri : r = i := by
              rw [List.getElem?_range (by have := (List.getElem?_eq_some_iff.1 hr).1; simpa using this)] at hr
              exact (Option.some.inj hr).symm
            subst hri
            have hm : (r + 1) * sz ≤ n * sz := Nat.mul_le_mul_right _ hrn
            rw [Nat.add_mul, Nat.one_mul] at hm
            refine ⟨by simp; omega, Cls.mk fun j y hj => ?_⟩
            rw [List.getElem?_take] at hj
            split at hj
            · rw [List.getElem?_drop, List.getElem?_map, Option.map_eq_some_iff] at hj
              obtain ⟨z, hz, rfl⟩ := hj
              rw [List.getElem?_drop] at hz
              obtain ⟨u, h8, h9⟩ := AVRs.get h5 _ _ hz
              refine ⟨u, Mem.lent_box h hl h1 ?_, h6 u (List.mem_of_getElem? h8), ih z u h9⟩
              rw [cell_of_row w b _ cc ty (0, 0) h4]
              rw [show off + r * sz + j = off + (r * sz + j) by omega]
              simpa using h8
            · cases hj
    | agg cs =>
      unfold AVR at hx
      obtain ⟨vs, h1, h2⟩ := hx
      simp only
      unfold FVR
      exact ⟨vs, h1, h2.frz ih⟩
    | tup cs =>
      unfold AVR at hx
      obtain ⟨vs, h1, h2⟩ := hx
      simp only
      unfold FVR
      exact ⟨vs, h1, h2.frz ih⟩
    | fn f a b =>
      unfold AVR at hx
      obtain ⟨vs, ws, h1, h2, h3⟩ := hx
      simp only
      unfold FVR
      exact ⟨vs, ws, h1, h2.frz ih, h3.frz ih⟩
    | iface t x =>
      unfold AVR at hx
      obtain ⟨u, h1, h2⟩ := hx
      simp only
      unfold FVR
      exact ⟨u, h1, ih x u h2⟩
theorem Glob.lent {M : Mem} {Γ : Glo} (h : Glob M Γ) (ρ : Nam) (w : World) (S : View) : Glob (M.lent ρ w S) Γ := h.mono (M.le_lent ρ w S)
/-- Lent for one call. -/
theorem ok_callL {c : Call} {fo : Operand} {fv : AV} {f : FuncId} {first caps args : List AV} {r : FV} (k : Nat) (ho : o.op = .call c) (hc : c.callee = .value fo) (hf : ev Γ A fo = some fv) (hfv : fnOf fv = some (f, first, caps)) (ha : evs Γ A c.args.toList = some args)
    (hr : r.flat = true) (fp : List Nat) (hfp : ∀ S2 : View, (∀ n ∈ fp, S2.sameAt S.view n) → (first ++ args ++ caps).map (frz S2.H k) = (first ++ args ++ caps).map (frz S.view.H k))
    (hP : PFn P Γ f ((first ++ args ++ caps).map (frz S.view.H k)) r) : OpOk P Γ o A S.view (.v r) S.view fp := by
  refine ⟨fun _ _ => ⟨rfl, rfl, rfl⟩, fun S2 hS2 M ρ w a h hG hSt K Q hK => ?_⟩
  obtain ⟨vs, ws, h1, h2, h3⟩ := fnOf_ok (h fo (by simp [ho, Op.operands, Call.operands, hc]) _ hf) hfv
  have h4 := evs_ok h (xs := c.args.toList) (fun x hx => by simp only [ho, Op.operands, Call.operands, hc]; simp; exact .inr (by simpa using hx)) ha
  have hargs : FVRs (M.lent ρ w S2) ((first ++ args ++ caps).map (frz S.view.H k)) (vs ++ c.args.map a.eval ++ ws).toList := by
    rw [← hfp S2 hS2]
    refine AVRs.frz (frz_ok hSt k) (M := M) (ρ := ρ) ?_
    simpa using (h2.append h4).append h3
  unfold Oper.wp
  rw [call_enters ho hc h1 hP.1 w]
  simp only [Oper.upon]
  refine (hP.2 _ w _ (Mem.lent_ok hSt) (hG.lent ρ w S2) hargs).mono fun e w' he => ?_
  obtain ⟨M', v, rfl, h5, h6, h7⟩ := he
  have hm : MemOk M w' := fun b o v hv => h7 b o v (h6.mem b o v (M.le_lent ρ w S2 b o v hv))
  have hfr : Fr M w M w' (fun _ => False) := ⟨h6.os, h6.tape, h6.output, h6.size, h6.block, M.le_refl, fun _ _ _ _ => rfl⟩
  refine hK M ρ w' v ?_ ρ.le_refl (by unfold AVR; exact FVR.flat r v hr h5)
  have e : S2.patch fp S.view = S2 := View.ext' fun n => by
    by_cases hn : n ∈ fp
    · have := hS2 n hn
      exact ⟨by simp [View.patch, hn, this.1], by simp [View.patch, hn, this.2.1], by simp [View.patch, hn, this.2.2]⟩
    · simp [View.sameAt, View.patch, hn]
  rw [e]
  exact ⟨hSt.frame hfr (fun _ _ hf => hf) hm, hfr.mono (fun _ hf => hf.elim), fun _ hb => .inl hb⟩
end
mutual
theorem frz_congr {H H2 : Nat → Option (List AV)} {U : List Nat} (hU : ∀ n ∈ U, H2 n = H n) (hc : ∀ n cs, H n = some cs → withins U cs = true) : ∀ (k : Nat) (x : AV), x.within U = true → frz H2 k x = frz H k x
  | 0, _, _ => rfl
  | k + 1, x, hx => by
    unfold frz
    cases x with
    | v x => rfl
    | tsl t xs => rfl
    | tk t m => rfl
    | pp t m off => rfl
    | mp t => rfl
    | ptr l off =>
      unfold AV.within at hx
      have hl : l ∈ U := by simpa using hx
      simp only [hU l hl]
      cases hl2 : H l with
      | none => rfl
      | some cs =>
        simp only
        congr 1
        rw [List.map_drop, List.map_drop, frzs_congr hU hc k cs (hc l cs hl2)]
    | bsl l off n c sz =>
      unfold AV.within at hx
      have hl : l ∈ U := by simpa using hx
      simp only [hU l hl]
      cases hl2 : H l with
      | none => rfl
      | some cs =>
        simp only
        rw [List.map_drop, List.map_drop, frzs_congr hU hc k cs (hc l cs hl2)]
    | agg cs => unfold AV.within at hx; simp only [frzs_congr hU hc k cs hx]
    | tup cs => unfold AV.within at hx; simp only [frzs_congr hU hc k cs hx]
    | fn f a b => unfold AV.within at hx; rw [Bool.and_eq_true] at hx; simp only [frzs_congr hU hc k a hx.1, frzs_congr hU hc k b hx.2]
    | iface t y => unfold AV.within at hx; simp only [frz_congr hU hc k y hx]
  termination_by k _ => (k, 0)
theorem frzs_congr {H H2 : Nat → Option (List AV)} {U : List Nat} (hU : ∀ n ∈ U, H2 n = H n) (hc : ∀ n cs, H n = some cs → withins U cs = true) : ∀ (k : Nat) (xs : List AV), withins U xs = true → xs.map (frz H2 k) = xs.map (frz H k)
  | _, [], _ => rfl
  | k, x :: r, hx => by
    unfold withins at hx
    rw [Bool.and_eq_true] at hx
    rw [List.map_cons, List.map_cons, frz_congr hU hc k x hx.1, frzs_congr hU hc k r hx.2]
  termination_by k xs => (k, xs.length + 1)
end
/-- All names of what is one's own, and of the arguments, are in use. -/
def ASt.lends (S : ASt) (args : List AV) : Bool := withins S.U args && S.H.all (fun p => withins S.U p.2)
theorem ASt.lends_ok {S : ASt} {args : List AV} (h : S.lends args = true) (k : Nat) (S2 : View) (hS : ∀ n ∈ S.U, S2.sameAt S.view n) : args.map (frz S2.H k) = args.map (frz S.view.H k) := by
  unfold ASt.lends at h
  rw [Bool.and_eq_true] at h
  refine frzs_congr (fun n hn => (hS n hn).1) (fun n cs hl => ?_) k args h.1
  exact (List.all_eq_true.1 h.2) _ (lookup_mem hl)

/-! ### a slice whose capacity is its length may be appended to: it becomes a token's -/
def View.adoptBox (S : View) (l : Nat) (cs : List AV) (j t : Nat) (xs : List (List FV)) (e : TypeId) (sz : Nat) : View := (S.setTok t (xs, e, sz)).setBox l (cs.set j (.tsl t xs))
def ASt.adoptBox (S : ASt) (l : Nat) (cs : List AV) (j t : Nat) (xs : List (List FV)) (e : TypeId) (sz : Nat) : ASt := (S.setTok t (xs, e, sz)).setBox l (cs.set j (.tsl t xs))
theorem view_adoptBox (S : ASt) (l : Nat) (cs : List AV) (j t : Nat) (xs : List (List FV)) (e : TypeId) (sz : Nat) : (S.adoptBox l cs j t xs e sz).view = S.view.adoptBox l cs j t xs e sz := by
  unfold ASt.adoptBox View.adoptBox
  rw [view_setBox, view_setTok]
theorem Nx.adoptBox {M : Mem} {ρ : Nam} {w : World} {S : View} (h : St M ρ w S) {l : Nat} {cs : List AV} {j t : Nat} {k : SK} {xs : List (List FV)} {sz : Nat} (e : TypeId) (hE : e < BIG) (hl : S.H l = some cs) (hj : cs[j]? = some (.v (.sl k xs))) (hk : k = .nil ∨ k = .full) (hU : S.U t = false) (hx : ∀ c ∈ xs, c.length = sz) :
    ∃ ρ', Nx M ρ w S M ρ' w (S.adoptBox l cs j t xs e sz) ∧ ρ.le ρ' := by
  obtain ⟨b, c, ty, h1, h2, h3, h4, h5⟩ := h.box l cs hl
  obtain ⟨v, h6, h7⟩ := AVRs.get h3 j _ hj
  unfold AVR at h7
  obtain ⟨ρ', k1, k2, k3, _, k5⟩ := Nx.adopt h t hU xs e hE sz hx hk h7
  refine ⟨ρ', k1.trans ?_, k2⟩
  have hlt : l ≠ t := fun e1 => by have := (h.freeH t hU).1; rw [← e1, hl] at this; cases this
  have hset : c.toList.set j v = c.toList := by
    refine List.ext_getElem? fun n => ?_
    rw [List.getElem?_set]
    split
    · rename_i e1
      subst e1
      split
      · exact h6.symm
      · rename_i hn; rw [List.getElem?_eq_none (by omega)]
    · rfl
  refine Nx.setBox k1.st l b cs _ hl (by rw [k5]; exact h1) c ty h2 (fun _ _ => rfl) rfl rfl rfl rfl ?_ h4
  rw [← hset]
  exact AVRs.set (AVRs.mono M.le_refl k2 _ _ h3) j _ v k3
theorem patch_patch (S S1 S' : View) (fp fp' : List Nat) (h : ∀ n, n ∉ fp' → S'.sameAt S1 n) : (S.patch fp S1).patch fp' S' = S.patch (fp ++ fp') S' := View.ext' fun n => by
  by_cases h1 : n ∈ fp'
  · simp [View.sameAt, View.patch, h1]
  · have := h n h1
    by_cases h2 : n ∈ fp
    · exact ⟨by simp [View.patch, h1, h2, this.1], by simp [View.patch, h1, h2, this.2.1], by simp [View.patch, h1, h2, this.2.2]⟩
    · simp [View.sameAt, View.patch, h1, h2]
theorem adoptBox_same {S : View} {l : Nat} {cs : List AV} {j t : Nat} {xs : List (List FV)} {e : TypeId} {sz : Nat} : ∀ n, n ∉ [l, t] → (S.adoptBox l cs j t xs e sz).sameAt S n := by
  intro n hn
  simp only [List.mem_cons, List.not_mem_nil, or_false, not_or] at hn
  simp [View.sameAt, View.adoptBox, View.setBox, View.setTok, hn.1, hn.2]
theorem adoptBox_patch {S S2 : View} {l : Nat} {cs : List AV} {j t : Nat} {xs : List (List FV)} {e : TypeId} {sz : Nat} (h : ∀ n ∈ [l, t], S2.sameAt S n) : S2.patch [l, t] (S.adoptBox l cs j t xs e sz) = S2.adoptBox l cs j t xs e sz := View.ext' fun n => by
  by_cases hn : n ∈ [l, t]
  · have := h n hn
    refine ⟨?_, ?_, ?_⟩ <;> simp only [View.patch, if_pos hn, View.adoptBox, View.setBox, View.setTok] <;> simp [this.1, this.2.1, this.2.2]
  · have := adoptBox_same (S := S2) (cs := cs) (j := j) (xs := xs) (e := e) (sz := sz) n hn
    refine ⟨?_, ?_, ?_⟩ <;> simp only [View.patch, if_neg hn]
    · exact this.1.symm
    · exact this.2.1.symm
    · exact this.2.2.symm
theorem OpOk.adoptBox {P : Program} {Γ : Glo} {o : Oper} {A : Env} {S : View} {l : Nat} {cs : List AV} {j t : Nat} {k : SK} {xs : List (List FV)} {sz : Nat} {e : TypeId} {x : AV} {S' : View} {fp : List Nat} (hl : S.H l = some cs) (hj : cs[j]? = some (.v (.sl k xs))) (hk : k = .nil ∨ k = .full) (hU : S.U t = false) (hx : ∀ c ∈ xs, c.length = sz) (hE : e < BIG)
    (h : OpOk P Γ o A (S.adoptBox l cs j t xs e sz) x S' fp) : OpOk P Γ o A S x S' ([l, t] ++ fp) := by
  refine ⟨fun n hn => ?_, fun S2 hS M ρ w a hO hG hSt K Q hK => ?_⟩
  · rw [List.mem_append, not_or] at hn
    have h1 := h.1 n hn.2
    have h2 := adoptBox_same (S := S) (cs := cs) (j := j) (xs := xs) (e := e) (sz := sz) n hn.1
    exact ⟨h1.1.trans h2.1, h1.2.1.trans h2.2.1, h1.2.2.trans h2.2.2⟩
  · have hlt : ∀ n ∈ [l, t], S2.sameAt S n := fun n hn => hS n (List.mem_append_left _ hn)
    obtain ⟨ρ', k1, k2⟩ := Nx.adoptBox (S := S2) hSt (k := k) (sz := sz) e hE ((hlt l (by simp)).1.trans hl) hj hk ((hlt t (by simp)).2.2.trans hU) hx
    refine h.2 (S2.adoptBox l cs j t xs e sz) (fun n hn => ?_) M ρ' w a (fun y hy z hz => AVR.mono M.le_refl k2 _ _ (hO y hy z hz)) hG k1.st K Q fun M' ρ'' w' v hN hle hv => hK M' ρ'' w' v ?_ (Nam.le_trans k2 hle) hv
    · by_cases hm : n ∈ [l, t]
      · rw [← adoptBox_patch hlt]
        exact ⟨by simp only [View.patch, if_pos hm], by simp only [View.patch, if_pos hm], by simp only [View.patch, if_pos hm]⟩
      · have h1 := adoptBox_same (S := S) (cs := cs) (j := j) (xs := xs) (e := e) (sz := sz) n hm
        have h2 := adoptBox_same (S := S2) (cs := cs) (j := j) (xs := xs) (e := e) (sz := sz) n hm
        have h3 := hS n (List.mem_append_right _ hn)
        exact ⟨h2.1.trans (h3.1.trans h1.1.symm), h2.2.1.trans (h3.2.1.trans h1.2.1.symm), h2.2.2.trans (h3.2.2.trans h1.2.2.symm)⟩
    · rw [← patch_patch S2 (S.adoptBox l cs j t xs e sz) S' _ _ h.1, adoptBox_patch hlt]
      exact k1.trans hN

/-! ### names may be changed -/
mutual
def AV.ren (σ : Nat → Nat) : AV → AV
  | .v x => .v x
  | .tsl t xs => .tsl (σ t) xs
  | .ptr l off => .ptr (σ l) off
  | .bsl l off n c sz => .bsl (σ l) off n c sz
  | .tk t m => .tk (σ t) m
  | .pp t m off => .pp (σ t) m off
  | .mp t => .mp (σ t)
  | .agg cs => .agg (rens σ cs)
  | .tup cs => .tup (rens σ cs)
  | .fn f a b => .fn f (rens σ a) (rens σ b)
  | .iface t x => .iface t (x.ren σ)
def rens (σ : Nat → Nat) : List AV → List AV
  | [] => []
  | x :: r => x.ren σ :: rens σ r
end
def Nam.ren (ρ : Nam) (σ : Nat → Nat) : Nam := ⟨fun n => ρ.box (σ n), fun n => ρ.tok (σ n)⟩
mutual
theorem AVR.ren {M : Mem} {ρ : Nam} {σ : Nat → Nat} : ∀ (x : AV) (v : Value), AVR M ρ (x.ren σ) v ↔ AVR M (ρ.ren σ) x v
  | .v x, v => by unfold AV.ren AVR; exact Iff.rfl
  | .tsl t xs, v => by unfold AV.ren AVR; exact Iff.rfl
  | .ptr l off, v => by unfold AV.ren AVR; exact Iff.rfl
  | .bsl l off n c sz, v => by unfold AV.ren AVR; exact Iff.rfl
  | .tk t m, v => by unfold AV.ren AVR; exact Iff.rfl
  | .pp t m off, v => by unfold AV.ren AVR; exact Iff.rfl
  | .mp t, v => by unfold AV.ren AVR; exact Iff.rfl
  | .agg cs, v => by unfold AV.ren AVR; exact exists_congr fun vs => and_congr_right fun _ => AVRs.ren cs _
  | .tup cs, v => by unfold AV.ren AVR; exact exists_congr fun vs => and_congr_right fun _ => AVRs.ren cs _
  | .fn f a b, v => by unfold AV.ren AVR; exact exists_congr fun vs => exists_congr fun ws => and_congr_right fun _ => and_congr (AVRs.ren a _) (AVRs.ren b _)
  | .iface t x, v => by unfold AV.ren AVR; exact exists_congr fun u => and_congr_right fun _ => AVR.ren x u
theorem AVRs.ren {M : Mem} {ρ : Nam} {σ : Nat → Nat} : ∀ (xs : List AV) (vs : List Value), AVRs M ρ (rens σ xs) vs ↔ AVRs M (ρ.ren σ) xs vs
  | [], vs => by unfold rens AVRs; exact Iff.rfl
  | x :: r, vs => by
    unfold rens AVRs
    exact exists_congr fun u => exists_congr fun us => and_congr_right fun _ => and_congr (AVR.ren x u) (AVRs.ren r us)
end
def ASt.ren (S : ASt) (σ : Nat → Nat) : ASt := ⟨S.H.map fun p => (σ p.1, rens σ p.2), S.T.map fun p => (σ p.1, p.2), S.U.map σ⟩
structure Perm (σ τ : Nat → Nat) : Prop where
  st : ∀ n, σ (τ n) = n
  ts : ∀ n, τ (σ n) = n
theorem Perm.inj {σ τ : Nat → Nat} (h : Perm σ τ) {a b : Nat} (e : σ a = σ b) : a = b := by rw [← h.ts a, e, h.ts b]
theorem lookup_ren {α β : Type} {σ τ : Nat → Nat} (h : Perm σ τ) (g : α → β) : ∀ (xs : List (Nat × α)) (n : Nat), (xs.map fun p => (σ p.1, g p.2)).lookup n = (xs.lookup (τ n)).map g
  | [], n => by simp
  | (m, x) :: r, n => by
    rw [List.map_cons, lookup_cons, lookup_cons, lookup_ren h g r n]
    by_cases e : τ n = m
    · subst e; rw [if_pos (h.st n).symm, if_pos rfl]; rfl
    · rw [if_neg e, if_neg (fun e2 => e (by rw [e2, h.ts]))]
theorem view_ren_H {S : ASt} {σ τ : Nat → Nat} (h : Perm σ τ) (n : Nat) : (S.ren σ).view.H n = (S.view.H (τ n)).map (rens σ) := lookup_ren h _ S.H n
theorem view_ren_T {S : ASt} {σ τ : Nat → Nat} (h : Perm σ τ) (n : Nat) : (S.ren σ).view.T n = S.view.T (τ n) := by
  have := lookup_ren (β := List (List FV) × TypeId × Nat) h id S.T n
  simp only [Option.map_id, id] at this
  exact this
theorem view_ren_U {S : ASt} {σ τ : Nat → Nat} (h : Perm σ τ) (n : Nat) : (S.ren σ).view.U n = S.view.U (τ n) := by
  rw [Bool.eq_iff_iff, mem_view_U, mem_view_U]
  simp only [ASt.ren, List.mem_map]
  constructor
  · rintro ⟨m, hm, rfl⟩; rw [h.ts]; exact hm
  · intro hm; exact ⟨_, hm, h.st n⟩
theorem St.ren {M : Mem} {ρ : Nam} {w : World} {S : ASt} {σ τ : Nat → Nat} (h : Perm σ τ) (k : St M ρ w (S.ren σ).view) : St M (ρ.ren σ) w S.view := by
  have hH : ∀ {l cs}, S.view.H l = some cs → (S.ren σ).view.H (σ l) = some (rens σ cs) := fun {l cs} hl => by rw [view_ren_H h, h.ts, hl]; rfl
  have hT : ∀ {t x}, S.view.T t = some x → (S.ren σ).view.T (σ t) = some x := fun {t x} ht => by rw [view_ren_T h, h.ts, ht]
  have hU : ∀ {n}, S.view.U n = false → (S.ren σ).view.U (σ n) = false := fun {n} hn => by rw [view_ren_U h, h.ts, hn]
  refine ⟨k.mem, fun l cs hl => ?_, fun t xs e sz ht => ?_, fun l l' b cs cs' h1 h2 h3 h4 => ?_, fun t t' x x' i i' b h1 h2 h3 h4 h5 h6 => ?_, fun l t cs x i b h1 h2 h3 h4 h5 => ?_, fun n hn => k.free _ (hU hn), fun n hn => ?_⟩
  · obtain ⟨b, c, ty, h1, h2, h3, h4⟩ := k.box _ _ (hH hl)
    exact ⟨b, c, ty, h1, h2, (AVRs.ren cs _).1 h3, h4⟩
  · obtain ⟨i, h1, h2⟩ := k.tok _ _ _ _ (hT ht)
    exact ⟨i, h1, h2⟩
  · exact h.inj (k.boxes _ _ b _ _ (hH h1) (hH h2) h3 h4)
  · exact h.inj (k.toks _ _ x x' i i' b (hT h1) (hT h2) h3 h4 h5 h6)
  · exact k.mixed _ _ _ x i b (hH h1) (hT h2) h3 h4 h5
  · have := k.freeH _ (hU hn)
    refine ⟨?_, ?_⟩
    · cases e : S.view.H n with
      | none => rfl
      | some c => rw [hH e] at this; cases this.1
    · cases e : S.view.T n with
      | none => rfl
      | some c => rw [hT e] at this; cases this.2
theorem owned_ren {ρ : Nam} {S : ASt} {σ τ : Nat → Nat} (h : Perm σ τ) {b : Nat} (k : Owned (ρ.ren σ) S.view b) : Owned ρ (S.ren σ).view b := by
  rcases k with ⟨l, cs, h1, h2⟩ | ⟨t, x, i, h1, h2, h3⟩
  · exact .inl ⟨σ l, _, by rw [view_ren_H h, h.ts, h1]; rfl, h2⟩
  · exact .inr ⟨σ t, x, i, by rw [view_ren_T h, h.ts, h1], h2, h3⟩
mutual
theorem AV.ren_ren {σ τ : Nat → Nat} (h : ∀ n, τ (σ n) = n) : ∀ x : AV, (x.ren σ).ren τ = x
  | .v x => by simp only [AV.ren]
  | .tsl t xs => by simp only [AV.ren, h]
  | .ptr l off => by simp only [AV.ren, h]
  | .bsl l off n c sz => by simp only [AV.ren, h]
  | .tk t m => by simp only [AV.ren, h]
  | .pp t m off => by simp only [AV.ren, h]
  | .mp t => by simp only [AV.ren, h]
  | .agg cs => by simp only [AV.ren, AVs.ren_ren h cs]
  | .tup cs => by simp only [AV.ren, AVs.ren_ren h cs]
  | .fn f a b => by simp only [AV.ren, AVs.ren_ren h a, AVs.ren_ren h b]
  | .iface t x => by simp only [AV.ren, AV.ren_ren h x]
theorem AVs.ren_ren {σ τ : Nat → Nat} (h : ∀ n, τ (σ n) = n) : ∀ xs : List AV, rens τ (rens σ xs) = xs
  | [] => by simp only [rens]
  | x :: r => by simp only [rens, AV.ren_ren h x, AVs.ren_ren h r]
end
theorem ASt.ren_ren {σ τ : Nat → Nat} (h : ∀ n, τ (σ n) = n) (S : ASt) : (S.ren σ).ren τ = S := by
  obtain ⟨H, T, U⟩ := S
  simp only [ASt.ren, List.map_map]
  congr
  · rw [List.map_congr_left (g := id) (fun p _ => by simp only [Function.comp, h, AVs.ren_ren h, id])]; simp
  · rw [List.map_congr_left (g := id) (fun p _ => by simp only [Function.comp, h, id])]; simp
  · rw [List.map_congr_left (g := id) (fun p _ => by simp only [Function.comp, h, id])]; simp
theorem GFn.ren {P : Program} {Γ : Glo} {f : FuncId} {S : ASt} {args : List AV} {r : AV} {S' : ASt} {σ τ : Nat → Nat} (h : Perm σ τ) (k : GFn P Γ f S args r S') : GFn P Γ f (S.ren σ) (rens σ args) (r.ren σ) (S'.ren σ) := by
  refine ⟨k.1, fun M ρ w vals hG hSt ha => (k.2 M (ρ.ren σ) w vals hG (hSt.ren h) ((AVRs.ren args _).1 ha)).mono ?_⟩
  rintro e w' ⟨M', ρ', v, h1, h2, h3, h4⟩
  have hp : Perm τ σ := ⟨h.ts, h.st⟩
  have e1 : (ρ.ren σ).ren τ = ρ := by simp only [Nam.ren, h.st]
  have e2 : (ρ'.ren τ).ren σ = ρ' := by simp only [Nam.ren, h.ts]
  refine ⟨M', ρ'.ren τ, v, h1, (AVR.ren r v).2 (by rw [e2]; exact h2), ⟨?_, h3.fr.mono fun b hb => owned_ren h hb, fun b hb => ?_⟩, ?_⟩
  · refine St.ren hp ?_
    rw [ASt.ren_ren h.ts]
    exact h3.st
  · have hb' : Owned ρ' S'.view b := by
      have := owned_ren (S := S'.ren σ) hp hb
      rwa [ASt.ren_ren h.ts] at this
    exact (h3.own b hb').imp (fun ho => owned_ren h ho) id
  · refine ⟨fun n b hb => ?_, fun n i hi => ?_⟩
    · have := h4.box (τ n) b (by simp only [Nam.ren, h.st]; exact hb)
      exact this
    · have := h4.tok (τ n) i (by simp only [Nam.ren, h.st]; exact hi)
      exact this
/-- Two names change places. -/
def swp (a b n : Nat) : Nat := bif Nat.beq n a then b else bif Nat.beq n b then a else n
theorem swp_perm (a b : Nat) : Perm (swp a b) (swp a b) := by
  have key : ∀ n, swp a b (swp a b n) = n := by
    intro n
    have hb : ∀ x y : Nat, Nat.beq x y = decide (x = y) := fun x y => by
      by_cases h : x = y
      · subst h; simp
      · rw [decide_eq_false h, ← Bool.not_eq_true, Nat.beq_eq]; exact h
    simp only [swp, hb, Bool.cond_decide]
    by_cases h1 : n = a
    · subst h1; by_cases h2 : b = n <;> simp [h2]
    · by_cases h2 : n = b
      · subst h2; simp [h1]
      · simp [h1, h2]
  exact ⟨key, key⟩
theorem GFn.swap {P : Program} {Γ : Glo} {f : FuncId} {S : ASt} {args : List AV} {r : AV} {S' : ASt} (k : GFn P Γ f S args r S') (a b : Nat) : GFn P Γ f (S.ren (swp a b)) (rens (swp a b) args) (r.ren (swp a b)) (S'.ren (swp a b)) := k.ren (swp_perm a b)

/-- What is owed for a call of function f. -/
inductive CallK (P : Program) (Γ : Glo) : ASt → FuncId → List AV → (AV → ASt → List Nat → Bool → Prop) → Prop where
  | pure {S : ASt} {f : FuncId} {args : List AV} {K : AV → ASt → List Nat → Bool → Prop} {fargs : List FV} (r : FV) (h1 : allV args = some fargs) (h2 : PFn P Γ f fargs r) (h3 : K (.v r) S [] false) : CallK P Γ S f args K
  | lent {S : ASt} {f : FuncId} {args : List AV} {K : AV → ASt → List Nat → Bool → Prop} (k : Nat) {fargs : List FV} (r : FV) (h0 : args.map (frz S.view.H k) = fargs) (h1 : S.lends args = true) (hr : r.flat = true) (h2 : PFn P Γ f fargs r) (h3 : K (.v r) S S.U false) : CallK P Γ S f args K
  | own {S : ASt} {f : FuncId} {args : List AV} {K : AV → ASt → List Nat → Bool → Prop} {args0 : List AV} {r : AV} {S0 S1 : ASt} (h1 : FitsA S args S0 args0 r S1) (h2 : GFn P Γ f S0 args0 r S1) (h3 : K r (S.patch S1) S1.U true) : CallK P Γ S f args K
  | adopt {S : ASt} {f : FuncId} {args : List AV} {K : AV → ASt → List Nat → Bool → Prop} (l j t : Nat) (e : TypeId) (sz : Nat) {cs : List AV} {k : SK} {xs : List (List FV)} (h1 : S.H.lookup l = some cs) (h2 : cs[j]? = some (.v (.sl k xs))) (h3 : k = .nil ∨ k = .full) (h4 : S.U.contains t = false) (h5 : ∀ c ∈ xs, c.length = sz)
      (h6 : CallK P Γ (S.adoptBox l cs j t xs e sz) f args fun x S' fp _ => K x S' ([l, t] ++ fp) true) (hE : e < BIG := by decide) : CallK P Γ S f args K
section
variable {P : Program} {Γ : Glo} {o : Oper} {A : Env} {S : ASt}
theorem callK_ok {c : Call} {fo : Operand} {fv : AV} {f : FuncId} {first caps args : List AV} {K : AV → ASt → List Nat → Bool → Prop} (ho : o.op = .call c) (hc : c.callee = .value fo) (hf : ev Γ A fo = some fv) (hfv : fnOf fv = some (f, first, caps)) (ha : evs Γ A c.args.toList = some args)
    (h : CallK P Γ S f (first ++ args ++ caps) K) : ∃ x S' fp b, OpOk P Γ o A S.view x S'.view fp ∧ (b = false → S'.view = S.view) ∧ K x S' fp b := by
  generalize hall : first ++ args ++ caps = all at h
  induction h with
  | pure r h1 h2 h3 => subst hall; exact ⟨_, _, [], false, ok_callP ho hc hf hfv ha h1 h2, fun _ => rfl, h3⟩
  | lent k r h0 h1 hr h2 h3 => subst hall; subst h0; exact ⟨_, _, _, false, ok_callL k ho hc hf hfv ha hr _ (fun S2 hS => ASt.lends_ok h1 k S2 hS) h2, fun _ => rfl, h3⟩
  | own h1 h2 h3 => subst hall; exact ⟨_, _, _, true, ok_callG ho hc hf hfv ha h1 h2, (fun e => by cases e), h3⟩
  | adopt l j t e sz h1 h2 h3 h4 h5 h6 hE ih =>
    obtain ⟨x, S', fp, b, k1, k2, k3⟩ := ih hfv hall
    rw [view_adoptBox] at k1
    exact ⟨x, S', _, true, OpOk.adoptBox h1 h2 h3 h4 h5 hE k1, (fun e => by cases e), k3⟩
end
end Go.Pav
namespace Go.Pav
open Go.RowKit
section
variable {P : Program} {TT : TypeId → Option TI} {Γ : Glo} {o : Oper} {A : Env} {S : View}

/-- Divisions, shifts, bits of two numbers. -/
def intBin2 (op : BinOp) (k : IntKind) (a b : Int) : Option FV :=
  match op with
  | .quo => some (.int k (k.wrap (a.tdiv b)))
  | .rem => some (.int k (a.tmod b))
  | .and => some (.int k (k.wrap (BitVec.ofInt k.bits a &&& BitVec.ofInt k.bits b).toNat))
  | .or => some (.int k (k.wrap (BitVec.ofInt k.bits a ||| BitVec.ofInt k.bits b).toNat))
  | .xor => some (.int k (k.wrap (BitVec.ofInt k.bits a ^^^ BitVec.ofInt k.bits b).toNat))
  | _ => none
theorem ok_intBin2 {op : BinOp} {t u : TypeId} {x y : Operand} {k : IntKind} {a b : Int} {z : FV} (ho : o.op = .binOp op t x y u) (hx : ev Γ A x = some (.v (.int k a))) (hy : ev Γ A y = some (.v (.int k b))) (hb : b ≠ 0 ∨ op = .and ∨ op = .or ∨ op = .xor) (hz : intBin2 op k a b = some z) : OpOk P Γ o A S (.v z) S [] :=
  OpOk.pure fun M ρ w ac h _ => by
    have h1 := h x (by simp [ho, Op.operands]) _ hx
    have h2 := h y (by simp [ho, Op.operands]) _ hy
    unfold AVR FVR at h1 h2
    cases op <;> simp [intBin2] at hz <;> subst hz <;>
      (refine ⟨_, ?_, (by unfold AVR FVR; rfl)⟩; simp_all [execOp, eqGuard, binOp, Op.intDiv, Op.intBits])
def shiftA (op : BinOp) (k : IntKind) (a b : Int) : Option FV :=
  match op with
  | .shl => some (.int k (k.wrap (a * 2 ^ (min b.toNat k.bits))))
  | .shr => some (.int k (a.fdiv (2 ^ (min b.toNat k.bits))))
  | _ => none
theorem ok_shift {op : BinOp} {t u : TypeId} {x y : Operand} {k k' : IntKind} {a b : Int} {z : FV} (ho : o.op = .binOp op t x y u) (hx : ev Γ A x = some (.v (.int k a))) (hy : ev Γ A y = some (.v (.int k' b))) (hb : 0 ≤ b) (hz : shiftA op k a b = some z) : OpOk P Γ o A S (.v z) S [] :=
  OpOk.pure fun M ρ w ac h _ => by
    have h1 := h x (by simp [ho, Op.operands]) _ hx
    have h2 := h y (by simp [ho, Op.operands]) _ hy
    unfold AVR FVR at h1 h2
    have hb' : ¬ b < 0 := by omega
    cases op <;> simp [shiftA] at hz <;> subst hz <;>
      (refine ⟨_, ?_, (by unfold AVR FVR; rfl)⟩; simp [execOp, ho, h1, h2, eqGuard, binOp, Op.shift, hb'])
theorem ok_conv {t u : TypeId} {x : Operand} {k k' : IntKind} {n : Int} {i j : TI} (ho : o.op = .convert t u x) (hx : ev Γ A x = some (.v (.int k' n))) (hi : TypeOk P t i) (hj : TypeOk P u j) (hk : j.kind = .int k) : OpOk P Γ o A S (.v (.int k (k.wrap n))) S [] :=
  OpOk.pure fun M ρ w ac h _ => by
    have h1 := h x (by simp [ho, Op.operands]) _ hx
    unfold AVR FVR at h1
    obtain ⟨d, hd, _⟩ := hi.desc
    obtain ⟨d', hd', h3⟩ := hj.desc
    rw [hk] at h3
    subst h3
    exact ⟨.int k (k.wrap n), by simp [execOp, ho, h1, convert, run_underlying hd, run_underlying hd', Conv.intToInt], by unfold AVR FVR; rfl⟩
theorem ok_max {c : Call} {x y : Operand} {k : IntKind} {a b : Int} (ho : o.op = .call c) (hc : c.callee = .builtin .max) (ha : c.args = #[x, y]) (hx : ev Γ A x = some (.v (.int k a))) (hy : ev Γ A y = some (.v (.int k b))) : OpOk P Γ o A S (.v (.int k (if b > a then b else a))) S [] :=
  OpOk.pure fun M ρ w ac h _ => by
    have h1 := h x (by simp [ho, Op.operands, Call.operands, hc, ha]) _ hx
    have h2 := h y (by simp [ho, Op.operands, Call.operands, hc, ha]) _ hy
    unfold AVR FVR at h1 h2
    exact ⟨.int k (if b > a then b else a), by simp [execOp, ho, resolve, hc, ha, h1, h2, invoke, builtin, Builtin.max_, Builtin.max2], by unfold AVR FVR; rfl⟩
theorem ok_min {c : Call} {x y : Operand} {k : IntKind} {a b : Int} (ho : o.op = .call c) (hc : c.callee = .builtin .min) (ha : c.args = #[x, y]) (hx : ev Γ A x = some (.v (.int k a))) (hy : ev Γ A y = some (.v (.int k b))) : OpOk P Γ o A S (.v (.int k (if b < a then b else a))) S [] :=
  OpOk.pure fun M ρ w ac h _ => by
    have h1 := h x (by simp [ho, Op.operands, Call.operands, hc, ha]) _ hx
    have h2 := h y (by simp [ho, Op.operands, Call.operands, hc, ha]) _ hy
    unfold AVR FVR at h1 h2
    exact ⟨.int k (if b < a then b else a), by simp [execOp, ho, resolve, hc, ha, h1, h2, invoke, builtin, Builtin.min_, Builtin.min2], by unfold AVR FVR; rfl⟩
/-- A slice held against nil. -/
def isEql : BinOp → Bool | .eql => true | _ => false
def isNeq : BinOp → Bool | .neq => true | _ => false
theorem ok_nilcmp {op : BinOp} {t u : TypeId} {x y : Operand} {k : SK} {xs : List (List FV)} {e : TypeId} {i : TI} (ho : o.op = .binOp op t x y u) (hx : ev Γ A x = some (.v (.sl k xs))) (hy : ev Γ A y = some (.v (.sl .nil []))) (hi : TypeOk P t i) (hk : i.kind = .slice e) (hkk : k = .nil ∨ k = .nonnil) (hop : op = .eql ∨ op = .neq) :
    OpOk P Γ o A S (.v (.bool ((k == .nil) == isEql op))) S [] :=
  OpOk.pure fun M ρ w ac h _ => by
    have h1 := h x (by simp [ho, Op.operands]) _ hx
    have h2 := h y (by simp [ho, Op.operands]) _ hy
    unfold AVR FVR at h1 h2
    obtain ⟨a, n, c, h3, _, _, h4, _⟩ := h1
    obtain ⟨a', n', c', h5, _, _, h6, _⟩ := h2
    simp only [SK.ok] at h6
    obtain ⟨rfl, rfl, rfl⟩ := h6
    obtain ⟨d, hd, h7⟩ := hi.desc
    rw [hk] at h7
    subst h7
    have he : (Op.equal t (.slice a n c) (.slice none 0 0)).run P w = .ok (k == .nil) w := by
      show (Op.equalIn (9999 + 1) t _ _).run P w = _
      unfold Op.equalIn
      rcases hkk with rfl | rfl
      · simp only [SK.ok] at h4
        obtain ⟨rfl, rfl, rfl⟩ := h4
        simp [run_underlying hd]
      · simp only [SK.ok] at h4
        cases a with
        | none => exact absurd rfl h4
        | some ad => simp [run_underlying hd]
    refine ⟨_, ?_, (by unfold AVR FVR; rfl)⟩
    rcases hop with rfl | rfl
    · simp only [execOp, ho, h3, h5, eqGuard, binOp]
      simp [he, isEql]
    · simp only [execOp, ho, h3, h5, eqGuard, binOp]
      simp [he, isEql]
/-- A cut of a slice with all three bounds, up to its length: its capacity is its length if the last two are one. -/
theorem ok_slice3 {t : TypeId} {x : Operand} {lo : Option Operand} {hi mx : Operand} {xs : List (List FV)} {e : TypeId} {i j : TI} {l : Option Int} {kh km : IntKind} {hv mv : Int} {ln hn : Nat} (ho : o.op = .slice t x lo (some hi) (some mx)) (hx : (∃ k, ev Γ A x = some (.v (.sl k xs))) ∨ ∃ tk, ev Γ A x = some (.tsl tk xs))
    (ht : TypeOk P t i) (hk : i.kind = .slice e) (hj : TypeOk P e j) (hsz : ∀ c ∈ xs, c.length = j.sz) (hl : boundA Γ A lo = some l) (hh : ev Γ A hi = some (.v (.int kh hv))) (hm : ev Γ A mx = some (.v (.int km mv))) (hh0 : 0 ≤ hv) (hhn : hv.toNat = hn) (hmn : mv = hv) (hln : l.getD 0 = ln) (h1 : ln ≤ hn) (h2 : hn ≤ xs.length) :
    OpOk P Γ o A S (.v (.sl .full ((xs.take hn).drop ln))) S [] :=
  OpOk.pure fun M ρ w ac hO _ => by
    have hv' : ∃ k', FVR M (.sl k' xs) (ac.eval x) := by
      rcases hx with ⟨k, hx⟩ | ⟨tk, hx⟩
      · have h1 := hO x (by simp [ho, Op.operands]) _ hx
        unfold AVR at h1
        exact ⟨k, h1⟩
      · have h1 := hO x (by simp [ho, Op.operands]) _ hx
        unfold AVR at h1
        exact ⟨.some, h1.1⟩
    obtain ⟨k', hv'⟩ := hv'
    unfold FVR at hv'
    obtain ⟨a, m, cp, h3, rfl, h4, _, h5, h6⟩ := hv'
    obtain ⟨d, hd, h7⟩ := ht.desc
    rw [hk] at h7
    subst h7
    subst hmn
    obtain rfl : mv = (hn : Int) := by omega
    have eh := hO hi (by simp [ho, Op.operands]) _ hh
    have em := hO mx (by simp [ho, Op.operands]) _ hm
    unfold AVR FVR at eh em
    have hbnd : (Instr.sliceBounds true xs.length cp (lo.map ac.eval) (some (ac.eval hi)) (some (ac.eval mx))).run P w = .ok (ln, hn, hn) w := by
      have b1 := boundA_ok hO (x := lo) (by intro y hy; simp [ho, Op.operands, hy]) hl
      unfold Instr.sliceBounds
      have e1 := sliceBound_run (P := P) w km (hn : Int) cp .slice3Acap (by omega) (by omega)
      have e2 := sliceBound_run (P := P) w kh (hn : Int) hn .slice3B (by omega) (by omega)
      rcases b1 with ⟨rfl, rfl⟩ | ⟨z, kz, nz, rfl, hz, rfl⟩ <;> simp only [Option.getD_none, Option.getD_some] at hln
      · simp only [em, eh, Option.map_none, Sem.run_bind, Sem.run_pure, Result.andThen_ok, e1, e2, if_true, Int.toNat_natCast]
        rw [show ln = 0 by omega]
      · have e3 := sliceBound_run (P := P) w kz nz hn .slice3C (by omega) (by omega)
        simp only [em, eh, hz, Option.map_some, Sem.run_bind, Sem.run_pure, Result.andThen_ok, e1, e2, if_true, Int.toNat_natCast, Option.isSome_some, e3]
        rw [show nz.toNat = ln by omega]
    refine ⟨.slice (if hn = ln then a else a.map (·.add (ln * j.sz))) (hn - ln) (hn - ln), ?_, ?_⟩
    · simp [execOp, ho, h3, Instr.sliceAt, run_underlying hd, Instr.slice, hbnd, sizeOf_run hj]
    · unfold AVR FVR
      refine ⟨_, _, _, rfl, by simp; omega, by omega, by simp [SK.ok], ?_, ?_⟩
      · intro hnone
        split at hnone
        · omega
        · cases a with
          | none => have := h5 rfl; omega
          | some ad => simp at hnone
      · rcases h6 with rfl | ⟨b, off, sz, rfl, h8⟩
        · exact .inl (by simp)
        · by_cases hemp : (xs.take hn).drop ln = []
          · exact .inl hemp
          · refine .inr ⟨b, off + ln * j.sz, j.sz, ?_, ?_⟩
            · have hlt : ln < hn := by
                refine Nat.lt_of_not_le fun hge => hemp ?_
                exact List.drop_eq_nil_of_le (by simp; omega)
              rw [if_neg (by omega)]
              simp [Addr.add_lit]
            · have hxs : xs ≠ [] := by rintro rfl; simp at hemp
              obtain ⟨c0, r0, hc0⟩ := List.exists_cons_of_ne_nil hxs
              have e1 := (h8.get 0 c0 (by simp [hc0])).1
              have e2 := hsz c0 (by simp [hc0])
              have e3 : sz = j.sz := by omega
              subst e3
              exact (h8.take hn).drop ln
end
theorem FVRs.set {M : Mem} : ∀ {xs : List FV} {vs : List Value}, FVRs M xs vs → ∀ i x v, vs[i]? = some v → FVR M x v → FVRs M (xs.set i x) vs
  | [], vs, e, i, x, v, _, _ => by simpa using e
  | y :: r, _, e, i, x, v, hv, h => by
    unfold FVRs at e
    obtain ⟨u, us, rfl, h1, h2⟩ := e
    cases i with
    | zero => simp at hv; subst hv; simp only [List.set_cons_zero]; unfold FVRs; exact ⟨u, us, rfl, h, h2⟩
    | succ i => simp only [List.set_cons_succ]; unfold FVRs; exact ⟨u, us, rfl, h1, FVRs.set h2 i x v (by simpa using hv) h⟩
/-- A slice among the arguments is nil or it isn't. -/
theorem PFn.nilCases {P : Program} {Γ : Glo} {f : FuncId} {args : List FV} {r : FV} (i : Nat) (xs : List (List FV)) (h : args[i]? = some (.sl .some xs)) (h1 : xs = [] → PFn P Γ f (args.set i (.sl .nil [])) r) (h2 : PFn P Γ f (args.set i (.sl .nonnil xs)) r) : PFn P Γ f args r :=
  ⟨h2.1, fun M w vals hM hG hv => by
    obtain ⟨v, k1, k2⟩ := FVRs.get hv i _ h
    have k3 := k2
    unfold FVR at k3
    obtain ⟨a, n, c, e1, e2, e3, _, e4, e5⟩ := k3
    cases a with
    | none =>
      have hc := e4 rfl
      have hx : xs = [] := by
        have : xs.length = 0 := by omega
        exact List.length_eq_zero_iff.1 this
      refine (h1 hx).2 M w vals hM hG (FVRs.set hv i _ v k1 ?_)
      unfold FVR
      exact ⟨none, n, c, e1, by rw [e2, hx], e3, ⟨rfl, by omega, hc⟩, e4, .inl rfl⟩
    | some ad =>
      refine h2.2 M w vals hM hG (FVRs.set hv i _ v k1 ?_)
      unfold FVR
      exact ⟨_, n, c, e1, e2, e3, by simp [SK.ok], e4, e5⟩⟩
end Go.Pav
