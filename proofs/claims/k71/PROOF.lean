import PyProof.Rows.All
import Wide.All
import OpenK.AllK
import Wide.FinOn
import HandS.ForMost
import HandS.Walk
import HandS.Conv
import HandS.Style
import HandS.Flow
import HandS.Wide
import HandS.WideBits
import HandS.TupAny
import HandS.TupMul
import HandS.Deep
import HandS.Sort
import HandS.SortRule
import HandS.Zip
import HandS.RevTup
import HandS.Defaults
import HandS.Codes
import HandS.SortInts
import HandS.IsInst
import HandS.WordsExc
import HandS.Head0
import HandS.Head1
import HandS.Head2
import HandS.HeadEnd
import HandS.HeadHook1
import HandS.HeadHook2
import HandS.RaiseMore
import HandS.Star
import KE.GoesMore
import KE.GoesZip
import KE.GoesEnum
import KE.SortData
import KE.KTupSum
import PySem.Challenge.RW_leastwholes_k71_whole_squares_and_quadru
set_option Elab.async false
set_option linter.all false
set_option maxRecDepth 100000
set_option maxHeartbeats 0
set_option autoImplicit false
/-! ## MS: values without addresses; a denotation for each construct of Python, proved from the hand layer's rules -/
namespace MS
open PySem PySem.Spec PyProof.Rows L2

/-- values: tup a tuple, fl a list that is never changed again, rl one that can only be read (the script), ref n the n-th mutable thing of the store -/
inductive D where
  | non | bl (b : Bool) | int (i : Int) | str (x : Str) | tup (ds : List D) | fl (ds : List D) | rl (ds : List D) | ref (n : Nat)
  deriving Inhabited
/-- mutable things -/
inductive C where
  | lst (ds : List D) | dct (kvs : List (Key × D)) | lck (kvs : List (Key × D))
  deriving Inhabited
abbrev Frag := PySem.W.Frag
abbrev Env := List (Option D)
abbrev Sto := List C

/-! ### how far the numbers of mutable things go -/
mutual
def D.fit (n : Nat) : D → Bool
  | .non => true
  | .bl _ => true
  | .int _ => true
  | .str _ => true
  | .tup ds => D.fitL n ds
  | .fl ds => D.fitL n ds
  | .rl ds => D.fitL n ds
  | .ref m => decide (m < n)
def D.fitL (n : Nat) : List D → Bool
  | [] => true
  | d :: ds => D.fit n d && D.fitL n ds
end
abbrev D.pure (d : D) : Bool := D.fit 0 d
abbrev D.pureL (ds : List D) : Bool := D.fitL 0 ds
def C.fit (n : Nat) : C → Bool
  | .lst ds => D.fitL n ds
  | .dct kvs => D.fitL n (kvs.map (·.2))
  | .lck kvs => D.fitL n (kvs.map (·.2))
mutual
theorem D.fit_mono {m n : Nat} (h : m ≤ n) : ∀ {d : D}, D.fit m d = true → D.fit n d = true
  | .non, _ => rfl
  | .bl _, _ => rfl
  | .int _, _ => rfl
  | .str _, _ => rfl
  | .tup _, e => D.fitL_mono h e
  | .fl _, e => D.fitL_mono h e
  | .rl _, e => D.fitL_mono h e
  | .ref k, e => decide_eq_true (Nat.lt_of_lt_of_le (of_decide_eq_true e) h)
theorem D.fitL_mono {m n : Nat} (h : m ≤ n) : ∀ {ds : List D}, D.fitL m ds = true → D.fitL n ds = true
  | [], _ => rfl
  | d :: ds, e => by
    have e' : (D.fit m d && D.fitL m ds) = true := e
    rw [Bool.and_eq_true] at e'
    show (D.fit n d && D.fitL n ds) = true
    rw [D.fit_mono h e'.1, D.fitL_mono h e'.2]
    rfl
end
theorem D.fitL_all {n : Nat} : ∀ {ds : List D}, D.fitL n ds = true ↔ ∀ d ∈ ds, D.fit n d = true
  | [] => ⟨fun _ d h => (by cases h), fun _ => rfl⟩
  | d :: ds => by
    show (D.fit n d && D.fitL n ds) = true ↔ _
    rw [Bool.and_eq_true, D.fitL_all]
    simp

/-! ### what a value is in the heap -/
/-- a tuple, a list that is not among the mutable ones (ξ the foreign ones, ι the own) -/
def TupX (H : Hp) (ξ ι : List Addr) (a : Addr) (vs : List V) : Prop := H a = some (.tup vs) ∧ a ∉ ξ ∧ a ∉ ι
def SqLx (K : Frag) (H : Hp) (ξ ι : List Addr) (a : Addr) (vs : List V) : Prop := (Rd H a (.lst vs) ∧ a ∉ ξ ∧ a ∉ ι) ∨ ∀ H', SqL K H' a vs
def FlX (H : Hp) (ξ ι : List Addr) (a : Addr) (vs : List V) : Prop := H a = some (.lst vs) ∧ a ∉ ξ ∧ a ∉ ι
theorem TupX.sq {K : Frag} {H : Hp} {ξ ι : List Addr} {a : Addr} {vs : List V} (h : TupX H ξ ι a vs) : SqT K H a vs := .inl (.inl h.1)
theorem FlX.sq {K : Frag} {H : Hp} {ξ ι : List Addr} {a : Addr} {vs : List V} (h : FlX H ξ ι a vs) : SqL K H a vs := .inl (.inl h.1)
theorem SqLx.sq {K : Frag} {H : Hp} {ξ ι : List Addr} {a : Addr} {vs : List V} (h : SqLx K H ξ ι a vs) : SqL K H a vs := h.elim (fun h => .inl h.1) fun h => h H
mutual
def RepV (K : Frag) (H : Hp) (ξ ι : List Addr) : D → V → Prop
  | .non, v => v = .non
  | .bl b, v => v = .bl b
  | .int i, v => v = .int i
  | .str x, v => v = .str x
  | .tup ds, v => ∃ a vs, v = .ref a ∧ TupX H ξ ι a vs ∧ RepL K H ξ ι ds vs
  | .fl ds, v => ∃ a vs, v = .ref a ∧ FlX H ξ ι a vs ∧ RepL K H ξ ι ds vs
  | .rl ds, v => ∃ a vs, v = .ref a ∧ SqLx K H ξ ι a vs ∧ RepL K H ξ ι ds vs
  | .ref n, v => ∃ a, v = .ref a ∧ ι[n]? = some a
def RepL (K : Frag) (H : Hp) (ξ ι : List Addr) : List D → List V → Prop
  | [], vs => vs = []
  | d :: ds, vs => ∃ v r, vs = v :: r ∧ RepV K H ξ ι d v ∧ RepL K H ξ ι ds r
end
section
variable {K : Frag} {H H' : Hp} {ξ ξ' ι ι' : List Addr}
mutual
theorem RepV.fit : ∀ {d : D} {v : V}, RepV K H ξ ι d v → D.fit ι.length d = true
  | .non, _, _ => rfl
  | .bl _, _, _ => rfl
  | .int _, _, _ => rfl
  | .str _, _, _ => rfl
  | .tup _, _, ⟨_, _, _, _, h⟩ => RepL.fit h
  | .fl _, _, ⟨_, _, _, _, h⟩ => RepL.fit h
  | .rl _, _, ⟨_, _, _, _, h⟩ => RepL.fit h
  | .ref _, _, ⟨_, _, h⟩ => decide_eq_true (List.getElem?_eq_some_iff.mp h).1
theorem RepL.fit : ∀ {ds : List D} {vs : List V}, RepL K H ξ ι ds vs → D.fitL ι.length ds = true
  | [], _, _ => rfl
  | d :: ds, _, ⟨_, _, _, h1, h2⟩ => by
    show (D.fit ι.length d && D.fitL ι.length ds) = true
    rw [RepV.fit h1, RepL.fit h2]
    rfl
end
/-- what moves a value to another heap -/
structure Mv (H : Hp) (ξ ι : List Addr) (n : Nat) (H' : Hp) (ξ' ι' : List Addr) : Prop where
  keep : ∀ a o, H a = some o → a ∉ ξ → a ∉ ι → H' a = some o ∧ a ∉ ξ' ∧ a ∉ ι'
  own : ∀ m a, m < n → ι[m]? = some a → ι'[m]? = some a
theorem Mv.rd {n : Nat} (m : Mv H ξ ι n H' ξ' ι') {a : Addr} {u : HO} (h : Rd H a u ∧ a ∉ ξ ∧ a ∉ ι) : Rd H' a u ∧ a ∉ ξ' ∧ a ∉ ι' := by
  obtain ⟨h | ⟨o, h⟩, h1, h2⟩ := h
  · exact ⟨.inl (m.keep a _ h h1 h2).1, (m.keep a _ h h1 h2).2⟩
  · exact ⟨.inr ⟨o, (m.keep a _ h h1 h2).1⟩, (m.keep a _ h h1 h2).2⟩
mutual
theorem RepV.mv {n : Nat} (m : Mv H ξ ι n H' ξ' ι') : ∀ {d : D} {v : V}, D.fit n d = true → RepV K H ξ ι d v → RepV K H' ξ' ι' d v
  | .non, _, _, h => h
  | .bl _, _, _, h => h
  | .int _, _, _, h => h
  | .str _, _, _, h => h
  | .tup _, _, b, ⟨a, vs, e, t, h⟩ => ⟨a, vs, e, m.keep a _ t.1 t.2.1 t.2.2, RepL.mv m b h⟩
  | .fl _, _, b, ⟨a, vs, e, t, h⟩ => ⟨a, vs, e, m.keep a _ t.1 t.2.1 t.2.2, RepL.mv m b h⟩
  | .rl _, _, b, ⟨a, vs, e, t, h⟩ => ⟨a, vs, e, t.imp m.rd id, RepL.mv m b h⟩
  | .ref k, _, b, ⟨a, e, h⟩ => ⟨a, e, m.own k a (of_decide_eq_true b) h⟩
theorem RepL.mv {n : Nat} (m : Mv H ξ ι n H' ξ' ι') : ∀ {ds : List D} {vs : List V}, D.fitL n ds = true → RepL K H ξ ι ds vs → RepL K H' ξ' ι' ds vs
  | [], _, _, h => h
  | d :: ds, _, b, ⟨v, r, e, h1, h2⟩ => by
    have b' : (D.fit n d && D.fitL n ds) = true := b
    rw [Bool.and_eq_true] at b'
    exact ⟨v, r, e, RepV.mv m b'.1 h1, RepL.mv m b'.2 h2⟩
end
theorem RepL.length : ∀ {ds : List D} {vs : List V}, RepL K H ξ ι ds vs → vs.length = ds.length
  | [], _, e => by rw [show _ = [] from e]; rfl
  | _ :: _, _, ⟨_, _, e, _, h⟩ => by rw [e, List.length_cons, List.length_cons, RepL.length h]
theorem RepL.get : ∀ {ds : List D} {vs : List V} {i : Nat} {d : D}, RepL K H ξ ι ds vs → ds[i]? = some d → ∃ v, vs[i]? = some v ∧ RepV K H ξ ι d v
  | [], _, _, _, _, e => by simp at e
  | _ :: _, _, 0, _, ⟨v, r, e1, h1, _⟩, e => by
    subst e1
    have e : _ = _ := Option.some.inj e
    subst e
    exact ⟨v, rfl, h1⟩
  | _ :: ds, _, i + 1, _, ⟨v, r, e1, _, h2⟩, e => by
    subst e1
    exact RepL.get (i := i) h2 e
theorem RepL.append : ∀ {ds es : List D} {vs ws : List V}, RepL K H ξ ι ds vs → RepL K H ξ ι es ws → RepL K H ξ ι (ds ++ es) (vs ++ ws)
  | [], _, _, _, e, h => by rw [show _ = [] from e]; exact h
  | _ :: _, _, _, _, ⟨v, r, e, h1, h2⟩, h => by
    subst e
    exact ⟨v, _, rfl, h1, RepL.append h2 h⟩
theorem RepL.cons {d : D} {v : V} {ds : List D} {vs : List V} (h1 : RepV K H ξ ι d v) (h2 : RepL K H ξ ι ds vs) : RepL K H ξ ι (d :: ds) (v :: vs) := ⟨v, vs, rfl, h1, h2⟩
theorem RepL.one {d : D} {v : V} (h1 : RepV K H ξ ι d v) : RepL K H ξ ι [d] [v] := RepL.cons h1 rfl
theorem RepL.set {d : D} {v : V} (hv : RepV K H ξ ι d v) : ∀ {ds : List D} {vs : List V} (i : Nat), RepL K H ξ ι ds vs → RepL K H ξ ι (ds.set i d) (vs.set i v)
  | [], _, _, e => by rw [show _ = [] from e]; rfl
  | _ :: _, _, 0, ⟨v, r, e, _, h2⟩ => by
    subst e
    exact ⟨_, _, rfl, hv, h2⟩
  | _ :: _, _, i + 1, ⟨v, r, e, h1, h2⟩ => by
    subst e
    exact ⟨_, _, rfl, h1, RepL.set hv i h2⟩
theorem RepL.take : ∀ {ds : List D} {vs : List V} (n : Nat), RepL K H ξ ι ds vs → RepL K H ξ ι (ds.take n) (vs.take n)
  | [], _, n, e => by rw [show _ = [] from e]; cases n <;> rfl
  | _ :: _, _, 0, _ => rfl
  | _ :: _, _, n + 1, ⟨v, r, e, h1, h2⟩ => by
    subst e
    exact ⟨_, _, rfl, h1, RepL.take n h2⟩
theorem RepL.drop : ∀ {ds : List D} {vs : List V} (n : Nat), RepL K H ξ ι ds vs → RepL K H ξ ι (ds.drop n) (vs.drop n)
  | [], _, n, e => by rw [show _ = [] from e]; cases n <;> rfl
  | _ :: _, _, 0, h => h
  | _ :: _, _, n + 1, ⟨v, r, e, h1, h2⟩ => by
    subst e
    exact RepL.drop n h2
theorem RepL.reverse : ∀ {ds : List D} {vs : List V}, RepL K H ξ ι ds vs → RepL K H ξ ι ds.reverse vs.reverse
  | [], _, e => by rw [show _ = [] from e]; rfl
  | _ :: _, _, ⟨v, r, e, h1, h2⟩ => by
    subst e
    rw [List.reverse_cons, List.reverse_cons]
    exact RepL.append (RepL.reverse h2) (RepL.one h1)
theorem RepL.ints : ∀ {ns : List Int} {vs : List V}, RepL K H ξ ι (ns.map D.int) vs ↔ vs = ns.map V.int
  | [], _ => Iff.rfl
  | n :: ns, vs => by
    constructor
    · rintro ⟨v, r, e, h1, h2⟩
      rw [e, show v = .int n from h1, RepL.ints.mp h2]
      rfl
    · intro e
      exact ⟨.int n, ns.map V.int, e, rfl, RepL.ints.mpr rfl⟩

/-! ### the store, the environment, steps -/
def CellOk (K : Frag) (H : Hp) (ξ ι : List Addr) (a : Addr) : C → Prop
  | .lst ds => ∃ vs, H a = some (.lst vs) ∧ RepL K H ξ ι ds vs
  | .dct kvs => ∃ ws : List (Key × V), H a = some (.dK ws) ∧ ws.map (·.1) = kvs.map (·.1) ∧ RepL K H ξ ι (kvs.map (·.2)) (ws.map (·.2))
  | .lck kvs => ∃ (ws : List (Key × V)) (o : Obj), H a = some (.frz o (.dK ws)) ∧ ws.map (·.1) = kvs.map (·.1) ∧ RepL K H ξ ι (kvs.map (·.2)) (ws.map (·.2))
structure StoOk (K : Frag) (H : Hp) (ξ ι : List Addr) (S : Sto) : Prop where
  len : ι.length = S.length
  nd : ι.Nodup
  apart : ∀ a ∈ ι, a ∉ ξ
  live : ∀ a ∈ ξ, H a ≠ none
  cell : ∀ (n : Nat) (c : C), S[n]? = some c → ∃ a, ι[n]? = some a ∧ CellOk K H ξ ι a c
  asc : ∀ (n : Nat) (c : C), S[n]? = some c → C.fit n c = true
structure RepE (K : Frag) (H : Hp) (ξ ι : List Addr) (ρ : Env) (σ : L2.St) : Prop where
  len : ρ.length = σ.length
  at_ : ∀ (i : Nat) (d : D), ρ[i]? = some (some d) → ∃ v, σ[i]? = some (some v) ∧ RepV K H ξ ι d v
structure Step (H : Hp) (ι : List Addr) (H' : Hp) (ι' : List Addr) : Prop where
  more : ∃ m, ι' = ι ++ m
  keep : ∀ a o, H a = some o → a ∉ ι → H' a = some o ∧ a ∉ ι'
  frz : ∀ a o u, H a = some (.frz o u) → H' a = some (.frz o u)
theorem Step.refl : Step H ι H ι := ⟨⟨[], (List.append_nil _).symm⟩, fun _ _ h n => ⟨h, n⟩, fun _ _ _ h => h⟩
theorem Step.trans {H2 : Hp} {ι2 : List Addr} (s : Step H ι H' ι') (t : Step H' ι' H2 ι2) : Step H ι H2 ι2 := by
  obtain ⟨⟨m, rfl⟩, k, f⟩ := s
  obtain ⟨⟨n, rfl⟩, l, g⟩ := t
  exact ⟨⟨m ++ n, by rw [List.append_assoc]⟩, fun a o h hn => l a o (k a o h hn).1 (k a o h hn).2, fun a o u h => g a o u (f a o u h)⟩
theorem Step.mv (s : Step H ι H' ι') : Mv H ξ ι ι.length H' ξ ι' := by
  obtain ⟨⟨m, rfl⟩, k, _⟩ := s
  refine ⟨fun a o h h1 h2 => ⟨(k a o h h2).1, h1, (k a o h h2).2⟩, fun i a hi e => ?_⟩
  rw [List.getElem?_append_left hi]
  exact e
theorem Step.val (s : Step H ι H' ι') {d : D} {v : V} (r : RepV K H ξ ι d v) : RepV K H' ξ ι' d v := RepV.mv s.mv r.fit r
theorem Step.vals (s : Step H ι H' ι') {ds : List D} {vs : List V} (r : RepL K H ξ ι ds vs) : RepL K H' ξ ι' ds vs := RepL.mv s.mv r.fit r
theorem Step.env (s : Step H ι H' ι') {ρ : Env} {σ : L2.St} (r : RepE K H ξ ι ρ σ) : RepE K H' ξ ι' ρ σ := ⟨r.len, fun i d e => by
  obtain ⟨v, h1, h2⟩ := r.at_ i d e
  exact ⟨v, h1, s.val h2⟩⟩
/-- a new immutable thing -/
theorem Step.upd {p : Addr} {o : HO} (h : H p = none) : Step H ι (upd H p o) ι := ⟨⟨[], (List.append_nil _).symm⟩, fun a u e n => ⟨by rw [upd_ne (ne_of_none e h)]; exact e, n⟩, fun a o u e => by rw [upd_ne (ne_of_none e h)]; exact e⟩
theorem CellOk.mono {a : Addr} {c : C} (s : ∀ ds vs, RepL K H ξ ι ds vs → RepL K H' ξ' ι' ds vs) (k : ∀ o, H a = some o → H' a = some o) (h : CellOk K H ξ ι a c) : CellOk K H' ξ' ι' a c := by
  cases c with
  | lst ds =>
    obtain ⟨vs, h1, h2⟩ := h
    exact ⟨vs, k _ h1, s _ _ h2⟩
  | dct kvs =>
    obtain ⟨ws, h1, h2, h3⟩ := h
    exact ⟨ws, k _ h1, h2, s _ _ h3⟩
  | lck kvs =>
    obtain ⟨ws, o, h1, h2, h3⟩ := h
    exact ⟨ws, o, k _ h1, h2, s _ _ h3⟩
theorem CellOk.some {a : Addr} {c : C} (h : CellOk K H ξ ι a c) : H a ≠ none := by
  cases c with
  | lst ds =>
    obtain ⟨vs, h1, h2⟩ := h
    rw [h1]
    exact fun z => nomatch z
  | dct kvs =>
    obtain ⟨ws, h1, h2, h3⟩ := h
    rw [h1]
    exact fun z => nomatch z
  | lck kvs =>
    obtain ⟨ws, o, h1, h2, h3⟩ := h
    rw [h1]
    exact fun z => nomatch z
theorem StoOk.get {S : Sto} (h : StoOk K H ξ ι S) {a : Addr} (ha : a ∈ ι) : ∃ (n : Nat) (c : C), S[n]? = some c ∧ ι[n]? = some a ∧ CellOk K H ξ ι a c := by
  obtain ⟨n, hn, e⟩ := List.getElem_of_mem ha
  have hn' : n < S.length := by rw [← h.len]; exact hn
  obtain ⟨b, hb, hc⟩ := h.cell n S[n] (List.getElem?_eq_getElem hn')
  have e2 : ι[n]? = some a := by rw [List.getElem?_eq_getElem hn, e]
  have : b = a := Option.some.inj (hb.symm.trans e2)
  subst this
  exact ⟨n, S[n], List.getElem?_eq_getElem hn', e2, hc⟩
theorem StoOk.ne {S : Sto} (h : StoOk K H ξ ι S) {a : Addr} (ha : a ∈ ι) : H a ≠ none := by
  obtain ⟨n, c, _, _, hc⟩ := h.get ha
  exact hc.some
/-- something new beside the store -/
theorem StoOk.beside {S : Sto} (h : StoOk K H ξ ι S) (k : ∀ a o, H a = some o → H' a = some o) : StoOk K H' ξ ι S := by
  have s : Step H ι H' ι := ⟨⟨[], (List.append_nil _).symm⟩, fun a o e n => ⟨k a o e, n⟩, fun a o u e => k a _ e⟩
  refine ⟨h.len, h.nd, h.apart, fun a ha z => ?_, fun n c e => ?_, h.asc⟩
  · cases q : H a with
    | none => exact h.live a ha q
    | some o => rw [k a o q] at z; cases z
  · obtain ⟨a, h1, h2⟩ := h.cell n c e
    exact ⟨a, h1, h2.mono (fun _ _ r => s.vals r) (k a)⟩
theorem keep_upd {p : Addr} {o : HO} (h : H p = none) : ∀ a u, H a = some u → (upd H p o) a = some u := fun a u e => by rw [upd_ne (ne_of_none e h)]; exact e
theorem StoOk.upd {S : Sto} {p : Addr} {o : HO} (h : StoOk K H ξ ι S) (hp : H p = none) : StoOk K (upd H p o) ξ ι S := h.beside (keep_upd hp)
theorem StoOk.fresh {S : Sto} {p : Addr} (h : StoOk K H ξ ι S) (hp : H p = none) : p ∉ ξ ∧ p ∉ ι := ⟨fun z => h.live p z hp, fun z => h.ne z hp⟩
/-- a new tuple, a new unchanging list -/
theorem new_tup {S : Sto} {p : Addr} {ds : List D} {vs : List V} (h : StoOk K H ξ ι S) (hp : H p = none) (r : RepL K H ξ ι ds vs) : RepV K (upd H p (.tup vs)) ξ ι (.tup ds) (.ref p) :=
  ⟨p, vs, rfl, ⟨upd_same, h.fresh hp⟩, (Step.upd hp).vals r⟩
theorem new_fl {S : Sto} {p : Addr} {ds : List D} {vs : List V} (h : StoOk K H ξ ι S) (hp : H p = none) (r : RepL K H ξ ι ds vs) : RepV K (upd H p (.lst vs)) ξ ι (.fl ds) (.ref p) :=
  ⟨p, vs, rfl, ⟨upd_same, h.fresh hp⟩, (Step.upd hp).vals r⟩
/-- a new mutable thing -/
theorem Step.push {S : Sto} {p : Addr} {o : HO} (h : StoOk K H ξ ι S) (hp : H p = none) : Step H ι (L2.upd H p o) (ι ++ [p]) :=
  ⟨⟨[p], rfl⟩, fun a u e n => ⟨by rw [upd_ne (ne_of_none e hp)]; exact e, fun z => by
    rcases List.mem_append.mp z with z | z
    · exact n z
    · rw [List.mem_singleton.mp z, hp] at e
      cases e⟩, fun a o u e => by rw [upd_ne (ne_of_none e hp)]; exact e⟩
theorem StoOk.push {S : Sto} {p : Addr} {o : HO} {c : C} (h : StoOk K H ξ ι S) (hp : H p = none) (hc : CellOk K (L2.upd H p o) ξ (ι ++ [p]) p c) (hb : C.fit S.length c = true) : StoOk K (L2.upd H p o) ξ (ι ++ [p]) (S ++ [c]) := by
  have s : Step H ι (L2.upd H p o) (ι ++ [p]) := Step.push h hp
  have f := h.fresh hp
  refine ⟨by simp [h.len], ?_, fun a ha => ?_, fun a ha z => ?_, fun n d e => ?_, fun n d e => ?_⟩
  · rw [List.nodup_append]
    exact ⟨h.nd, by simp, fun a ha b hb => by rw [List.mem_singleton.mp hb]; exact fun z => f.2 (z ▸ ha)⟩
  · rcases List.mem_append.mp ha with ha | ha
    · exact h.apart a ha
    · rw [List.mem_singleton.mp ha]
      exact f.1
  · cases q : H a with
    | none => exact h.live a ha q
    | some u => rw [keep_upd hp a u q] at z; cases z
  · by_cases hn : n < S.length
    · rw [List.getElem?_append_left hn] at e
      obtain ⟨a, h1, h2⟩ := h.cell n d e
      exact ⟨a, by rw [List.getElem?_append_left (by rw [h.len]; exact hn)]; exact h1, h2.mono (fun _ _ r => s.vals r) (keep_upd hp a)⟩
    · rw [List.getElem?_append_right (by omega)] at e
      have hz : n - S.length = 0 := by
        rcases Nat.eq_zero_or_pos (n - S.length) with z | z
        · exact z
        · rw [List.getElem?_eq_none (by simp; omega)] at e; cases e
      rw [hz] at e
      cases e
      exact ⟨p, by rw [List.getElem?_append_right (by rw [h.len]; omega), h.len, hz]; rfl, hc⟩
  · by_cases hn : n < S.length
    · rw [List.getElem?_append_left hn] at e
      exact h.asc n d e
    · rw [List.getElem?_append_right (by omega)] at e
      have hz : n - S.length = 0 := by
        rcases Nat.eq_zero_or_pos (n - S.length) with z | z
        · exact z
        · rw [List.getElem?_eq_none (by simp; omega)] at e; cases e
      rw [hz] at e
      cases e
      rw [show n = S.length by omega]
      exact hb
/-- a thing that is not locked -/
def NoFrz (H : Hp) (p : Addr) : Prop := ∀ o u, H p ≠ some (.frz o u)
theorem NoFrz.lst {H : Hp} {p : Addr} {vs : List V} (h : H p = some (.lst vs)) : NoFrz H p := fun o u z => by rw [h] at z; cases z
theorem NoFrz.dK {H : Hp} {p : Addr} {ws : List (Key × V)} (h : H p = some (.dK ws)) : NoFrz H p := fun o u z => by rw [h] at z; cases z
theorem Step.write {S : Sto} {n : Nat} {p : Addr} {o : HO} (hn : ι[n]? = some p) (hf : NoFrz H p) : Step H ι (L2.upd H p o) ι :=
  ⟨⟨[], (List.append_nil _).symm⟩, fun a u e z => ⟨by rw [upd_ne (fun w => z (by rw [w]; exact List.mem_of_getElem? hn))]; exact e, z⟩, fun a o' u e => by rw [upd_ne (fun w => hf o' u (by rw [← w]; exact e))]; exact e⟩
theorem nodup_ix {l : List Addr} (h : l.Nodup) {i j : Nat} {a : Addr} (hi : l[i]? = some a) (hj : l[j]? = some a) : i = j := by
  exact (List.getElem?_inj (List.getElem?_eq_some_iff.mp hi).1 h).mp (hi.trans hj.symm)
theorem Mv.write {p : Addr} {o : HO} {k : Nat} (hp : p ∈ ι) : Mv H ξ ι k (L2.upd H p o) ξ ι := ⟨fun a u e h1 h2 => ⟨by rw [upd_ne (fun w => h2 (by rw [w]; exact hp))]; exact e, h1, h2⟩, fun _ _ _ e => e⟩
theorem StoOk.swap {S : Sto} {n : Nat} {p : Addr} {o : HO} {c : C} (h : StoOk K H ξ ι S) (hn : ι[n]? = some p) (hc : CellOk K (L2.upd H p o) ξ ι p c) (hb : C.fit n c = true) : StoOk K (L2.upd H p o) ξ ι (S.set n c) := by
  have s : Mv H ξ ι ι.length (L2.upd H p o) ξ ι := Mv.write (List.mem_of_getElem? hn)
  refine ⟨by rw [List.length_set]; exact h.len, h.nd, h.apart, fun a ha z => ?_, fun m d e => ?_, fun m d e => ?_⟩
  · have hne : a ≠ p := fun w => h.apart p (List.mem_of_getElem? hn) (w ▸ ha)
    rw [upd_ne hne] at z
    exact h.live a ha z
  · by_cases hm : m = n
    · subst hm
      have hl : m < S.length := by
        rw [← h.len]
        exact (List.getElem?_eq_some_iff.mp hn).1
      rw [List.getElem?_set_self hl] at e
      cases e
      exact ⟨p, hn, hc⟩
    · rw [List.getElem?_set_ne (Ne.symm hm)] at e
      obtain ⟨a, h1, h2⟩ := h.cell m d e
      have hne : a ≠ p := fun w => hm (nodup_ix h.nd (w ▸ h1) hn)
      exact ⟨a, h1, h2.mono (fun _ _ r => RepL.mv s r.fit r) (fun u q => by rw [upd_ne hne]; exact q)⟩
  · by_cases hm : m = n
    · subst hm
      have hl : m < S.length := by
        rw [← h.len]
        exact (List.getElem?_eq_some_iff.mp hn).1
      rw [List.getElem?_set_self hl] at e
      cases e
      exact hb
    · rw [List.getElem?_set_ne (Ne.symm hm)] at e
      exact h.asc m d e
theorem StoOk.write {S : Sto} {n : Nat} {p : Addr} {o : HO} {c : C} (h : StoOk K H ξ ι S) (hn : ι[n]? = some p) (_ : NoFrz H p) (hc : CellOk K (L2.upd H p o) ξ ι p c) (hb : C.fit n c = true) : StoOk K (L2.upd H p o) ξ ι (S.set n c) := h.swap hn hc hb
theorem RepE.set {ρ : Env} {σ : L2.St} {i : Nat} {d : D} {v : V} (h : RepE K H ξ ι ρ σ) (r : RepV K H ξ ι d v) : RepE K H ξ ι (ρ.set i (some d)) (σ.set i (some v)) := by
  refine ⟨by rw [List.length_set, List.length_set]; exact h.len, fun j e hj => ?_⟩
  by_cases hij : j = i
  · subst hij
    by_cases hl : j < ρ.length
    · rw [List.getElem?_set_self hl] at hj
      cases hj
      exact ⟨v, by rw [List.getElem?_set_self (by rw [← h.len]; exact hl)], r⟩
    · rw [List.getElem?_eq_none (by rw [List.length_set]; omega)] at hj
      cases hj
  · rw [List.getElem?_set_ne (Ne.symm hij)] at hj ⊢
    exact h.at_ j e hj
end
end MS

namespace MS
open PySem PySem.Spec PyProof.Rows L2

/-! ### readings by denotations -/
abbrev EDen := Env → Sto → Option (D × Sto)
abbrev TDen := Env → Sto → Option (Bool × Sto)
abbrev ADen := Env → Sto → Option (List D × Sto)
def bnd {α β : Type} (x : Option (α × Sto)) (k : α → Sto → Option β) : Option β := match x with
  | some (a, S) => k a S
  | none => none
theorem bnd_some {α β : Type} {x : Option (α × Sto)} {k : α → Sto → Option β} {r : β} (h : bnd x k = some r) : ∃ a S, x = some (a, S) ∧ k a S = some r := by
  unfold bnd at h
  split at h
  · exact ⟨_, _, rfl, h⟩
  · cases h
@[simp] theorem bnd_mk {α β : Type} {a : α} {S : Sto} {k : α → Sto → Option β} : bnd (some (a, S)) k = k a S := rfl
/-- what must hold of the end -/
def Ans (K : Frag) (ξ ι : List Addr) (H : Hp) (S' : Sto) (d : D) (Q : VK) : Prop := ∀ v H' ι', Step H ι H' ι' → StoOk K H' ξ ι' S' → RepV K H' ξ ι' d v → Q v H'
def AnsL (K : Frag) (ξ ι : List Addr) (H : Hp) (S' : Sto) (ds : List D) (Q : List V → Hp → Prop) : Prop := ∀ vs H' ι', Step H ι H' ι' → StoOk K H' ξ ι' S' → RepL K H' ξ ι' ds vs → Q vs H'
def AnsT (K : Frag) (ξ ι : List Addr) (H : Hp) (S' : Sto) (Q : Hp → Prop) : Prop := ∀ H' ι', Step H ι H' ι' → StoOk K H' ξ ι' S' → Q H'
def tE (K : Frag) (f : EDen) : TE := fun σ H Q => ∃ ξ ι ρ S d S', StoOk K H ξ ι S ∧ RepE K H ξ ι ρ σ ∧ f ρ S = some (d, S') ∧ Ans K ξ ι H S' d Q
def tB (K : Frag) (f : TDen) : TT := fun σ H Q => ∃ ξ ι ρ S b S', StoOk K H ξ ι S ∧ RepE K H ξ ι ρ σ ∧ f ρ S = some (b, S') ∧ AnsT K ξ ι H S' (Q b)
def tA (K : Frag) (f : ADen) : TA := fun σ H Q => ∃ ξ ι ρ S ds S', StoOk K H ξ ι S ∧ RepE K H ξ ι ρ σ ∧ f ρ S = some (ds, S') ∧ AnsL K ξ ι H S' ds Q
abbrev ME (X : Cx) (e : Expr) (f : EDen) : Prop := PE X e (tE X.K f)
abbrev MT (X : Cx) (e : Expr) (f : TDen) : Prop := PT X e (tB X.K f)
abbrev MA (X : Cx) (es : List Expr) (f : ADen) : Prop := PA X es (tA X.K f)
section
variable {K : Frag} {H : Hp} {ξ ι : List Addr} {S S' : Sto} {ρ : Env} {σ : L2.St}
theorem Ans.here {d : D} {v : V} {Q : VK} (h : Ans K ξ ι H S d Q) (st : StoOk K H ξ ι S) (r : RepV K H ξ ι d v) : Q v H := h v H ι Step.refl st r
theorem Ans.next {H' : Hp} {ι' : List Addr} {d : D} {Q : VK} (h : Ans K ξ ι H S d Q) (s : Step H ι H' ι') : Ans K ξ ι' H' S d Q := fun v H2 ι2 s2 => h v H2 ι2 (s.trans s2)
theorem AnsT.next {H' : Hp} {ι' : List Addr} {Q : Hp → Prop} (h : AnsT K ξ ι H S Q) (s : Step H ι H' ι') : AnsT K ξ ι' H' S Q := fun H2 ι2 s2 => h H2 ι2 (s.trans s2)
theorem AnsL.next {H' : Hp} {ι' : List Addr} {ds : List D} {Q : List V → Hp → Prop} (h : AnsL K ξ ι H S ds Q) (s : Step H ι H' ι') : AnsL K ξ ι' H' S ds Q := fun v H2 ι2 s2 => h v H2 ι2 (s.trans s2)
theorem tE.run {f : EDen} {d : D} {Q : VK} (st : StoOk K H ξ ι S) (re : RepE K H ξ ι ρ σ) (e : f ρ S = some (d, S')) (k : Ans K ξ ι H S' d Q) : tE K f σ H Q := ⟨ξ, ι, ρ, S, d, S', st, re, e, k⟩
theorem tB.run {f : TDen} {b : Bool} {Q : Bool → Hp → Prop} (st : StoOk K H ξ ι S) (re : RepE K H ξ ι ρ σ) (e : f ρ S = some (b, S')) (k : AnsT K ξ ι H S' (Q b)) : tB K f σ H Q := ⟨ξ, ι, ρ, S, b, S', st, re, e, k⟩
theorem tA.run {f : ADen} {ds : List D} {Q : List V → Hp → Prop} (st : StoOk K H ξ ι S) (re : RepE K H ξ ι ρ σ) (e : f ρ S = some (ds, S')) (k : AnsL K ξ ι H S' ds Q) : tA K f σ H Q := ⟨ξ, ι, ρ, S, ds, S', st, re, e, k⟩
end
section
variable {X : Cx} {e a b c : Expr}
theorem _root_.L2.PE.weak {t t' : TE} (h : PE X e t) (w : ∀ σ H Q, t' σ H Q → t σ H Q) : PE X e t' := ⟨fun pins s σ H Q I q => h.run pins s σ H Q I (w σ H Q q)⟩
theorem _root_.L2.PT.weak {t t' : TT} (h : PT X e t) (w : ∀ σ H Q, t' σ H Q → t σ H Q) : PT X e t' := ⟨fun pins s σ H Q I q => h.run pins s σ H Q I (w σ H Q q)⟩
theorem _root_.L2.PA.weak {es : List Expr} {t t' : TA} (h : PA X es t) (w : ∀ σ H Q, t' σ H Q → t σ H Q) : PA X es t' := ⟨fun pos pins s σ H Q I q => h.run pos pins s σ H Q I (w σ H Q q)⟩

/-! ### names, constants -/
def dVar (i : Nat) : EDen := fun ρ S => match ρ[i]? with
  | some (some d) => some (d, S)
  | _ => none
theorem me_var (i : Nat) {x : Str} {pos : Pos} (hN : X.N[i]? = some x := by rfl) (hv : Vis X.env.scope x := by first | exact Or.inl rfl | exact Or.inr (Or.inl rfl) | exact Or.inr (Or.inr rfl)) (hd : (x == ("__debug__" : Str)) = false := by decide)
    (hcd : (x == ("__classdict__" : Str)) = false := by decide) : ME X (.Name x pos) (dVar i) := (pe_var hN hv hd hcd).weak fun σ H Q ⟨ξ, ι, ρ, S, d, S', st, re, e, k⟩ => by
  unfold dVar at e
  split at e
  · rename_i d' h
    cases e
    obtain ⟨v, h1, h2⟩ := re.at_ i d h
    exact ⟨v, h1, k.here st h2⟩
  · cases e
def dC (d : D) : EDen := fun _ S => some (d, S)
theorem tE.const {K : Frag} {d : D} {v : V} (r : ∀ H ξ ι, RepV K H ξ ι d v) {σ : L2.St} {H : Hp} {Q : VK} (h : tE K (dC d) σ H Q) : tC v σ H Q := by
  obtain ⟨ξ, ι, ρ, S, d', S', st, re, e, k⟩ := h
  cases e
  exact k.here st (r _ _ _)
theorem me_int {i : Int} {j : Nat} {pos : Pos} : ME X (.Constant (.int i) j pos) (dC (.int i)) := pe_int.weak fun _ _ _ h => tE.const (d := .int i) (fun _ _ _ => rfl) h
theorem me_bl {b : Bool} {j : Nat} {pos : Pos} : ME X (.Constant (.bool b) j pos) (dC (.bl b)) := pe_bl.weak fun _ _ _ h => tE.const (d := .bl b) (fun _ _ _ => rfl) h
theorem me_non {j : Nat} {pos : Pos} : ME X (.Constant .none j pos) (dC .non) := pe_non.weak fun _ _ _ h => tE.const (d := .non) (fun _ _ _ => rfl) h
theorem me_str {x : Str} {j : Nat} {pos : Pos} : ME X (.Constant (.str x) j pos) (dC (.str x)) := pe_str.weak fun _ _ _ h => tE.const (d := .str x) (fun _ _ _ => rfl) h

/-! ### operations on two values -/
abbrev Op2 := D → D → Sto → Option (D × Sto)
def MOp (K : Frag) (r : R2) (g : Op2) : Prop := ∀ (H : Hp) (ξ ι : List Addr) (S S' : Sto) (x y d : D) (v w : V) (Q : VK), StoOk K H ξ ι S → RepV K H ξ ι x v → RepV K H ξ ι y w → g x y S = some (d, S') → Ans K ξ ι H S' d Q → r v w H Q
def dOp (g : Op2) (fa fb : EDen) : EDen := fun ρ S => bnd (fa ρ S) fun x S => bnd (fb ρ S) fun y S => g x y S
theorem tE.op {K : Frag} {r : R2} {g : Op2} (m : MOp K r g) {fa fb : EDen} {σ : L2.St} {H : Hp} {Q : VK} (h : tE K (dOp g fa fb) σ H Q) : tOp r (tE K fa) (tE K fb) σ H Q := by
  obtain ⟨ξ, ι, ρ, S, d, S', st, re, e, k⟩ := h
  obtain ⟨x, S1, e1, e⟩ := bnd_some e
  obtain ⟨y, S2, e2, e⟩ := bnd_some e
  refine tE.run st re e1 fun v1 H1 ι1 s1 st1 r1 => tE.run st1 (s1.env re) e2 fun v2 H2 ι2 s2 st2 r2 => ?_
  exact m H2 ξ ι2 S2 S' x y d v1 v2 Q st2 (s2.val r1) r2 e ((k.next s1).next s2)
theorem me_op {op : Operator} {r : R2} {g : Op2} {fa fb : EDen} {pos : Pos} (ho : OpR X (binaryOp op) r) (m : MOp X.K r g) (ha : ME X a fa) (hb : ME X b fb) : ME X (.BinOp a op b pos) (dOp g fa fb) :=
  (pe_op ho ha hb).weak fun _ _ _ h => h.op m
theorem me_cmp {op : CmpOp} {r : R2} {g : Op2} {fa fb : EDen} {pos : Pos} (ho : OpR X (compareOp op) r) (m : MOp X.K r g) (ha : ME X a fa) (hb : ME X b fb) (hm : behindInMarks op b = false) : ME X (.Compare a [op] [b] pos) (dOp g fa fb) :=
  (pe_cmpR ho ha hb hm).weak fun _ _ _ h => h.op m
def asB (f : EDen) : TDen := fun ρ S => bnd (f ρ S) fun d S => match d with
  | .bl b => some (b, S)
  | _ => none
theorem tB.of {K : Frag} {f : EDen} {σ : L2.St} {H : Hp} {Q : Bool → Hp → Prop} (h : tB K (asB f) σ H Q) : tE K f σ H fun z H3 => ∃ k, z = .bl k ∧ Q k H3 := by
  obtain ⟨ξ, ι, ρ, S, b, S', st, re, e, k⟩ := h
  obtain ⟨x, S1, e1, e⟩ := bnd_some e
  cases x with
  | bl c =>
    cases e
    exact tE.run st re e1 fun v H1 ι1 s1 st1 r1 => ⟨b, r1, k H1 ι1 s1 st1⟩
  | _ => cases e
theorem mt_cmp {op : CmpOp} {r : R2} {g : Op2} {fa fb : EDen} {pos : Pos} (ho : OpR X (compareOp op) r) (m : MOp X.K r g) (ha : ME X a fa) (hb : ME X b fb) (hm : behindInMarks op b = false) : MT X (.Compare a [op] [b] pos) (asB (dOp g fa fb)) :=
  (pt_cmpR ho ha hb hm).weak fun _ _ _ h => (tB.of h).op m
/-- an expression that gives True or False, as a test -/
theorem mt_val {f : EDen} (h : ME X e f) (he : ∀ whole, isTrue e X.env whole = (do let v ← whole; standAt e.pos; holding [v] (truthy v)) := by intro _; rfl) : MT X e (asB f) := (pt_val h he).weak fun _ _ _ h => tB.of h
/-- a < b < c -/
def dChain (g g' : Op2) (fa fb fc : EDen) : EDen := fun ρ S => bnd (fa ρ S) fun x S => bnd (fb ρ S) fun y S => bnd (g x y S) fun z S => match z with
  | .bl true => bnd (fc ρ S) fun w S => g' y w S
  | .bl false => some (.bl false, S)
  | _ => none
theorem tE.chain {K : Frag} {r r' : R2} {g g' : Op2} (m : MOp K r g) (m' : MOp K r' g') {fa fb fc : EDen} {σ : L2.St} {H : Hp} {Q : VK} (h : tE K (dChain g g' fa fb fc) σ H Q) : tChain r r' (tE K fa) (tE K fb) (tE K fc) σ H Q := by
  obtain ⟨ξ, ι, ρ, S, d, S', st, re, e, k⟩ := h
  obtain ⟨x, S1, e1, e⟩ := bnd_some e
  obtain ⟨y, S2, e2, e⟩ := bnd_some e
  obtain ⟨z, S3, e3, e⟩ := bnd_some e
  refine tE.run st re e1 fun v1 H1 ι1 s1 st1 r1 => tE.run st1 (s1.env re) e2 fun v2 H2 ι2 s2 st2 r2 => ?_
  refine m H2 ξ ι2 S2 S3 x y z v1 v2 _ st2 (s2.val r1) r2 e3 fun v3 H3 ι3 s3 st3 r3 => ?_
  cases z with
  | bl b =>
    refine ⟨b, r3, ?_⟩
    cases b with
    | true =>
      obtain ⟨w, S4, e4, e⟩ := bnd_some e
      refine iteT (tE.run st3 (s3.env (s2.env (s1.env re))) e4 fun v4 H4 ι4 s4 st4 r4 => ?_)
      exact m' H4 ξ ι4 S4 S' y w d v2 v4 Q st4 (s4.val (s3.val r2)) r4 e ((((k.next s1).next s2).next s3).next s4)
    | false =>
      cases e
      exact iteF ((((k.next s1).next s2).next s3).here st3 rfl)
  | _ => cases e
theorem me_chain {op op' : CmpOp} {r r' : R2} {g g' : Op2} {fa fb fc : EDen} {pos : Pos} (ho : OpR X (compareOp op) r) (m : MOp X.K r g) (ho' : OpR X (compareOp op') r') (m' : MOp X.K r' g') (ha : ME X a fa) (hb : ME X b fb) (hc : ME X c fc)
    (hm : lastMarks [op, op'] [b, c] = false := by with_unfolding_all rfl) : ME X (.Compare a [op, op'] [b, c] pos) (dChain g g' fa fb fc) := (pe_chain ho ho' ha hb hc hm).weak fun _ _ _ h => h.chain m m'
theorem mt_chain {op op' : CmpOp} {r r' : R2} {g g' : Op2} {fa fb fc : EDen} {pos : Pos} (ho : OpR X (compareOp op) r) (m : MOp X.K r g) (ho' : OpR X (compareOp op') r') (m' : MOp X.K r' g') (ha : ME X a fa) (hb : ME X b fb) (hc : ME X c fc)
    (hm : lastMarks [op, op'] [b, c] = false := by with_unfolding_all rfl) : MT X (.Compare a [op, op'] [b, c] pos) (asB (dChain g g' fa fb fc)) := (pt_chain ho ho' ha hb hc hm).weak fun _ _ _ h => (tB.of h).chain m m'
theorem OpR.or {f : Value → Value → Sem Value} {r r' : R2} (h : OpR X f r) (h' : OpR X f r') : OpR X f (fun x y H Q => r x y H Q ∨ r' x y H Q) := by
  intro pins s σ H x y v u Q I rx ry q
  rcases q with q | q
  · exact h pins s σ H x y v u Q I rx ry q
  · exact h' pins s σ H x y v u Q I rx ry q

/-! ### ints -/
def gI (g : Int → Int → Option D) : Op2 := fun x y S => match x, y with
  | .int i, .int j => (g i j).map fun d => (d, S)
  | _, _ => none
theorem gI_some {g : Int → Int → Option D} {x y d : D} {S S' : Sto} (h : gI g x y S = some (d, S')) : ∃ i j, x = .int i ∧ y = .int j ∧ g i j = some d ∧ S' = S := by
  unfold gI at h
  split at h
  · rename_i i j
    cases q : g i j with
    | none => rw [q] at h; cases h
    | some e => rw [q] at h; cases h; exact ⟨i, j, rfl, rfl, q, rfl⟩
  · cases h
theorem mI {K : Frag} {C : Int → Int → Prop} {g : Int → Int → Option D} {f : Int → Int → V} (h : ∀ i j d, g i j = some d → C i j ∧ ∀ H ξ ι, RepV K H ξ ι d (f i j)) : MOp K (rI C f) (gI g) := by
  intro H ξ ι S S' x y d v w Q st rx ry e k
  obtain ⟨i, j, rfl, rfl, e2, rfl⟩ := gI_some e
  obtain ⟨h1, h2⟩ := h i j d e2
  exact ⟨i, j, rx, ry, h1, k.here st (h2 _ _ _)⟩
theorem mI0 {K : Frag} {g : Int → Int → Option D} {f : Int → Int → V} (h : ∀ i j d, g i j = some d → ∀ H ξ ι, RepV K H ξ ι d (f i j)) : MOp K (rI0 f) (gI g) := by
  intro H ξ ι S S' x y d v w Q st rx ry e k
  obtain ⟨i, j, rfl, rfl, e2, rfl⟩ := gI_some e
  exact ⟨i, j, rx, ry, k.here st (h i j d e2 _ _ _)⟩
/-- products: one side below 2 ^ 64, or both together below a million bits -/
def mulOk (i j : Int) : Bool := decide (i.natAbs < 2 ^ 64) || decide (j.natAbs < 2 ^ 64) || decide (i.natAbs.log2 + j.natAbs.log2 < 1000000)
def divOk (j : Int) : Bool := decide (j ≠ 0) && decide (j.natAbs.log2 < 9000)
def gSub : Op2 := gI fun i j => some (.int (i - j))
def gMod : Op2 := gI fun i j => if j ≠ 0 then some (.int (i.fmod j)) else none
def gDiv : Op2 := gI fun i j => if divOk j then some (.int (i.fdiv j)) else none
def gPow : Op2 := gI fun i j => if 0 ≤ j ∧ j ≤ 1000000 ∧ i.natAbs < 2 ^ 64 then some (.int (i ^ j.toNat)) else none
def gShl : Op2 := gI fun i j => if 0 ≤ j ∧ j ≤ 1000000 ∧ i.natAbs < 2 ^ 64 then some (.int (i * 2 ^ j.toNat)) else none
def gLt : Op2 := gI fun i j => some (.bl (decide (i < j)))
def gLe : Op2 := gI fun i j => some (.bl (decide (i ≤ j)))
def gGt : Op2 := gI fun i j => some (.bl (decide (j < i)))
def gGe : Op2 := gI fun i j => some (.bl (decide (j ≤ i)))
variable {K : Frag}
theorem o_sub : OpR X (binaryOp .Sub) (rI0 fun i j => .int (i - j)) := op_sub
theorem m_sub : MOp K (rI0 fun i j => .int (i - j)) gSub := mI0 fun i j d h _ _ _ => by cases h; rfl
def CMulA (i j : Int) : Prop := mulOk i j = true
theorem CMulA.ok {i j : Int} (h : CMulA i j) : IntMulOk i j := by
  have h : mulOk i j = true := h
  unfold mulOk at h
  simp only [Bool.or_eq_true, decide_eq_true_eq] at h
  rcases h with (h | h) | h
  · exact CMul.ok (.inl (by omega))
  · exact CMul.ok (.inr (by omega))
  · exact CMulW.ok h
theorem o_mulI : OpR X (binaryOp .Mult) (rI CMulA fun i j => .int (i * j)) := opI fun _ _ _ _ _ _ _ hc q => mul_int q hc.ok
def gMulI : Op2 := gI fun i j => if mulOk i j then some (.int (i * j)) else none
theorem m_mulI : MOp K (rI CMulA fun i j => .int (i * j)) gMulI := mI fun i j d h => by
  split at h
  · rename_i q
    cases h
    exact ⟨q, fun _ _ _ => rfl⟩
  · cases h
theorem o_mod : OpR X (binaryOp .Mod) (rI (fun _ j => j ≠ 0) fun i j => .int (i.fmod j)) := op_modN
theorem m_mod : MOp K (rI (fun _ j => j ≠ 0) fun i j => .int (i.fmod j)) gMod := mI fun i j d h => by
  split at h
  · rename_i q
    cases h
    exact ⟨q, fun _ _ _ => rfl⟩
  · cases h
def CDivA (_ j : Int) : Prop := divOk j = true
theorem o_div : OpR X (binaryOp .FloorDiv) (rI CDivA fun i j => .int (i.fdiv j)) := opI fun i j _ _ _ _ _ hc q => by
  have hc : divOk j = true := hc
  unfold divOk at hc
  simp only [Bool.and_eq_true, decide_eq_true_eq] at hc
  exact floordiv_int hc.1 q (.inl (PyProof.noPylong_of_log2 hc.2))
theorem m_div : MOp K (rI CDivA fun i j => .int (i.fdiv j)) gDiv := mI fun i j d h => by
  split at h
  · rename_i q
    cases h
    exact ⟨q, fun _ _ _ => rfl⟩
  · cases h
theorem m_pow : MOp K (rI CPow fun i j => .int (i ^ j.toNat)) gPow := mI fun i j d h => by
  split at h
  · rename_i q
    cases h
    exact ⟨q, fun _ _ _ => rfl⟩
  · cases h
theorem m_shl : MOp K (rI CPow fun i j => .int (i * 2 ^ j.toNat)) gShl := mI fun i j d h => by
  split at h
  · rename_i q
    cases h
    exact ⟨q, fun _ _ _ => rfl⟩
  · cases h
theorem m_lt : MOp K (rI0 fun i j => .bl (decide (i < j))) gLt := mI0 fun i j d h _ _ _ => by cases h; rfl
theorem m_le : MOp K (rI0 fun i j => .bl (decide (i ≤ j))) gLe := mI0 fun i j d h _ _ _ => by cases h; rfl
theorem m_gt : MOp K (rI0 fun i j => .bl (decide (j < i))) gGt := mI0 fun i j d h _ _ _ => by cases h; rfl
theorem m_ge : MOp K (rI0 fun i j => .bl (decide (j ≤ i))) gGe := mI0 fun i j d h _ _ _ => by cases h; rfl
/-- one value -/
def MUn (K : Frag) (r : V → Hp → VK → Prop) (g : D → Option D) : Prop := ∀ (H : Hp) (ξ ι : List Addr) (S : Sto) (x d : D) (v : V) (Q : VK), StoOk K H ξ ι S → RepV K H ξ ι x v → g x = some d → Ans K ξ ι H S d Q → r v H Q
def dUn (g : D → Option D) (fa : EDen) : EDen := fun ρ S => bnd (fa ρ S) fun x S => (g x).map fun d => (d, S)
theorem me_un {op : UnaryOp} {r : V → Hp → VK → Prop} {g : D → Option D} {fa : EDen} {pos : Pos} (ho : UnR X (unaryOp op) r) (m : MUn X.K r g) (ha : ME X a fa) : ME X (.UnaryOp op a pos) (dUn g fa) :=
  (pe_un ho ha).weak fun σ H Q ⟨ξ, ι, ρ, S, d, S', st, re, e, k⟩ => by
    obtain ⟨x, S1, e1, e⟩ := bnd_some e
    cases q : g x with
    | none => rw [q] at e; cases e
    | some d' =>
      rw [q] at e
      cases e
      exact tE.run st re e1 fun v1 H1 ι1 s1 st1 r1 => m H1 ξ ι1 _ x _ v1 Q st1 r1 q (k.next s1)
def gNeg : D → Option D
  | .int i => some (.int (-i))
  | _ => none
theorem m_neg : MUn K (rU fun i => .int (-i)) gNeg := by
  intro H ξ ι S x d v Q st rx e k
  cases x with
  | int i => cases e; exact ⟨i, rx, k.here st rfl⟩
  | _ => cases e

/-! ### and, or, not, if -/
def tbAnd (fa fb : TDen) : TDen := fun ρ S => bnd (fa ρ S) fun b S => if b = true then fb ρ S else some (false, S)
def tbOr (fa fb : TDen) : TDen := fun ρ S => bnd (fa ρ S) fun b S => if b = true then some (true, S) else fb ρ S
def tbNot (fa : TDen) : TDen := fun ρ S => bnd (fa ρ S) fun b S => some (!b, S)
abbrev MW (X : Cx) (e : Expr) (f : TDen) : Prop := PW X e (tB X.K f)
theorem _root_.L2.PW.weak {t t' : TT} (h : PW X e t) (w : ∀ σ H Q, t' σ H Q → t σ H Q) : PW X e t' := ⟨fun wh pins s σ H Q I q => h.run wh pins s σ H Q I (w σ H Q q)⟩
theorem mw_and1 {fa : TDen} {pos : Pos} (h : MT X a fa) : MW X (.BoolOp .And [a] pos) fa := pw_and1 h
theorem mw_or1 {fa : TDen} {pos : Pos} (h : MT X a fa) : MW X (.BoolOp .Or [a] pos) fa := pw_or1 h
theorem mw_and {fa fb : TDen} {rest : List Expr} {pos : Pos} (ha : MT X a fa) (hb : MW X (.BoolOp .And (b :: rest) pos) fb) : MW X (.BoolOp .And (a :: b :: rest) pos) (tbAnd fa fb) :=
  (pw_and ha hb).weak fun σ H Q ⟨ξ, ι, ρ, S, d, S', st, re, e, k⟩ => by
    obtain ⟨x, S1, e1, e⟩ := bnd_some e
    refine tB.run st re e1 fun H1 ι1 s1 st1 => ?_
    cases x with
    | true => exact iteT (tB.run st1 (s1.env re) e (k.next s1))
    | false => cases e; exact iteF (k H1 ι1 s1 st1)
theorem mw_or {fa fb : TDen} {rest : List Expr} {pos : Pos} (ha : MT X a fa) (hb : MW X (.BoolOp .Or (b :: rest) pos) fb) : MW X (.BoolOp .Or (a :: b :: rest) pos) (tbOr fa fb) :=
  (pw_or ha hb).weak fun σ H Q ⟨ξ, ι, ρ, S, d, S', st, re, e, k⟩ => by
    obtain ⟨x, S1, e1, e⟩ := bnd_some e
    refine tB.run st re e1 fun H1 ι1 s1 st1 => ?_
    cases x with
    | false => exact iteF (tB.run st1 (s1.env re) e (k.next s1))
    | true => cases e; exact iteT (k H1 ι1 s1 st1)
theorem MW.pt {f : TDen} (h : MW X e f) : MT X e f := L2.PW.pt h
theorem mt_not {fa : TDen} {pos : Pos} (ha : MT X a fa) : MT X (.UnaryOp .Not a pos) (tbNot fa) := (pt_not ha).weak fun σ H Q ⟨ξ, ι, ρ, S, d, S', st, re, e, k⟩ => by
  obtain ⟨x, S1, e1, e⟩ := bnd_some e
  cases e
  exact tB.run st re e1 k
/-- .. as values -/
def dAnd (fa fb : EDen) : EDen := fun ρ S => bnd (fa ρ S) fun x S => match x with
  | .bl true => fb ρ S
  | .bl false => some (.bl false, S)
  | _ => none
def dOr (fa fb : EDen) : EDen := fun ρ S => bnd (fa ρ S) fun x S => match x with
  | .bl true => some (.bl true, S)
  | .bl false => fb ρ S
  | _ => none
def dNot (fa : EDen) : EDen := fun ρ S => bnd (fa ρ S) fun x S => match x with
  | .bl b => some (.bl !b, S)
  | _ => none
theorem me_one {op : BoolOp} {f : EDen} {pos : Pos} (h : ME X a f) : ME X (.BoolOp op [a] pos) f := pe_one h
theorem me_and {fa fb : EDen} {rest : List Expr} {pos : Pos} (ha : ME X a fa) (hb : ME X (.BoolOp .And (b :: rest) pos) fb) : ME X (.BoolOp .And (a :: b :: rest) pos) (dAnd fa fb) :=
  (pe_and ha hb).weak fun σ H Q ⟨ξ, ι, ρ, S, d, S', st, re, e, k⟩ => by
    obtain ⟨x, S1, e1, e⟩ := bnd_some e
    refine tE.run st re e1 fun v1 H1 ι1 s1 st1 r1 => ?_
    cases x with
    | bl c =>
      refine ⟨c, r1, ?_⟩
      cases c with
      | true => exact iteT (tE.run st1 (s1.env re) e (k.next s1))
      | false => cases e; exact iteF (k _ H1 ι1 s1 st1 rfl)
    | _ => cases e
theorem me_or {fa fb : EDen} {rest : List Expr} {pos : Pos} (ha : ME X a fa) (hb : ME X (.BoolOp .Or (b :: rest) pos) fb) : ME X (.BoolOp .Or (a :: b :: rest) pos) (dOr fa fb) :=
  (pe_or ha hb).weak fun σ H Q ⟨ξ, ι, ρ, S, d, S', st, re, e, k⟩ => by
    obtain ⟨x, S1, e1, e⟩ := bnd_some e
    refine tE.run st re e1 fun v1 H1 ι1 s1 st1 r1 => ?_
    cases x with
    | bl c =>
      refine ⟨c, r1, ?_⟩
      cases c with
      | false => exact iteF (tE.run st1 (s1.env re) e (k.next s1))
      | true => cases e; exact iteT (k _ H1 ι1 s1 st1 rfl)
    | _ => cases e
theorem me_not {fa : EDen} {pos : Pos} (ha : ME X a fa) : ME X (.UnaryOp .Not a pos) (dNot fa) := (pe_not ha).weak fun σ H Q ⟨ξ, ι, ρ, S, d, S', st, re, e, k⟩ => by
  obtain ⟨x, S1, e1, e⟩ := bnd_some e
  refine tE.run st re e1 fun v1 H1 ι1 s1 st1 r1 => ?_
  cases x with
  | bl c => cases e; exact ⟨c, r1, k _ H1 ι1 s1 st1 rfl⟩
  | _ => cases e
def dIf (fc : TDen) (fa fb : EDen) : EDen := fun ρ S => bnd (fc ρ S) fun b S => if b = true then fa ρ S else fb ρ S
theorem me_if {fc : TDen} {fa fb : EDen} {pos : Pos} (hc : MT X c fc) (ha : ME X a fa) (hb : ME X b fb) : ME X (.IfExp c a b pos) (dIf fc fa fb) := (pe_ifExp hc ha hb).weak fun σ H Q ⟨ξ, ι, ρ, S, d, S', st, re, e, k⟩ => by
  obtain ⟨x, S1, e1, e⟩ := bnd_some e
  refine tB.run st re e1 fun H1 ι1 s1 st1 => ?_
  cases x with
  | true => exact iteT (tE.run st1 (s1.env re) e (k.next s1))
  | false => exact iteF (tE.run st1 (s1.env re) e (k.next s1))

/-! ### argument lists, displays -/
def aNil : ADen := fun _ S => some ([], S)
def aCons (fa : EDen) (fr : ADen) : ADen := fun ρ S => bnd (fa ρ S) fun x S => bnd (fr ρ S) fun xs S => some (x :: xs, S)
theorem ma_nil : MA X [] aNil := pa_nil.weak fun σ H Q ⟨ξ, ι, ρ, S, d, S', st, re, e, k⟩ => by
  cases e
  exact k [] H ι Step.refl st rfl
theorem ma_cons {es : List Expr} {fa : EDen} {fr : ADen} (ha : ME X e fa) (hr : MA X es fr) (hs : starEach (e :: es) X.env = (false, eval e X.env) :: starEach es X.env := by rfl) : MA X (e :: es) (aCons fa fr) :=
  (pa_cons ha hr hs).weak fun σ H Q ⟨ξ, ι, ρ, S, d, S', st, re, e, k⟩ => by
    obtain ⟨x, S1, e1, e⟩ := bnd_some e
    obtain ⟨xs, S2, e2, e⟩ := bnd_some e
    cases e
    exact tE.run st re e1 fun v1 H1 ι1 s1 st1 r1 => tA.run st1 (s1.env re) e2 fun vs H2 ι2 s2 st2 r2 => ((k.next s1).next s2) _ H2 ι2 Step.refl st2 (RepL.cons (s2.val r1) r2)
def szOk {α : Type} (ds : List α) : Bool := decide (ds.length ≤ sizeLine)
def dTup (f : ADen) : EDen := fun ρ S => bnd (f ρ S) fun ds S => if szOk ds then some (.tup ds, S) else none
def dLst (f : ADen) : EDen := fun ρ S => bnd (f ρ S) fun ds S => if szOk ds then some (.fl ds, S) else none
def dCell (f : ADen) : EDen := fun ρ S => bnd (f ρ S) fun ds S => if szOk ds then (if D.fitL S.length ds then some (.ref S.length, S ++ [.lst ds]) else none) else none
theorem Ans.tup {S : Sto} {H : Hp} {ξ ι : List Addr} {ds : List D} {vs : List V} {Q : VK} {p : Addr} (k : Ans K ξ ι H S (.tup ds) Q) (st : StoOk K H ξ ι S) (r : RepL K H ξ ι ds vs) (hp : H p = none) : Q (.ref p) (upd H p (.tup vs)) :=
  k _ _ ι (Step.upd hp) (st.upd hp) (new_tup st hp r)
theorem Ans.fl {S : Sto} {H : Hp} {ξ ι : List Addr} {ds : List D} {vs : List V} {Q : VK} {p : Addr} (k : Ans K ξ ι H S (.fl ds) Q) (st : StoOk K H ξ ι S) (r : RepL K H ξ ι ds vs) (hp : H p = none) : Q (.ref p) (upd H p (.lst vs)) :=
  k _ _ ι (Step.upd hp) (st.upd hp) (new_fl st hp r)
theorem new_cell {S : Sto} {H : Hp} {ξ ι : List Addr} {ds : List D} {vs : List V} {p : Addr} (st : StoOk K H ξ ι S) (r : RepL K H ξ ι ds vs) (hp : H p = none) (hf : D.fitL S.length ds = true) :
    StoOk K (upd H p (.lst vs)) ξ (ι ++ [p]) (S ++ [.lst ds]) ∧ RepV K (upd H p (.lst vs)) ξ (ι ++ [p]) (.ref S.length) (.ref p) := by
  have s : Step H ι (upd H p (.lst vs)) (ι ++ [p]) := Step.push st hp
  refine ⟨st.push hp ⟨vs, upd_same, s.vals r⟩ hf, p, rfl, ?_⟩
  rw [← st.len, List.getElem?_append_right (Nat.le_refl _), Nat.sub_self]
  rfl
theorem Ans.cell {S : Sto} {H : Hp} {ξ ι : List Addr} {ds : List D} {vs : List V} {Q : VK} {p : Addr} (k : Ans K ξ ι H (S ++ [.lst ds]) (.ref S.length) Q) (st : StoOk K H ξ ι S) (r : RepL K H ξ ι ds vs) (hp : H p = none) (hf : D.fitL S.length ds = true) : Q (.ref p) (upd H p (.lst vs)) :=
  k _ _ (ι ++ [p]) (Step.push st hp) (new_cell st r hp hf).1 (new_cell st r hp hf).2
theorem me_tup {es : List Expr} {f : ADen} {x1 : Nat} {pos : Pos} (h : MA X es f) : ME X (.Tuple es x1 pos) (dTup f) := (pe_tup h).weak fun σ H Q ⟨ξ, ι, ρ, S, d, S', st, re, e, k⟩ => by
  obtain ⟨ds, S1, e1, e⟩ := bnd_some e
  split at e
  · rename_i hz
    cases e
    refine tA.run st re e1 fun vs H1 ι1 s1 st1 r1 => ⟨?_, fun p hp => ?_⟩
    · rw [r1.length]; exact of_decide_eq_true hz
    · exact (k.next s1).tup st1 r1 hp
  · cases e
theorem me_lst {es : List Expr} {f : ADen} {pos : Pos} (h : MA X es f) : ME X (.List es pos) (dLst f) := (pe_lst h).weak fun σ H Q ⟨ξ, ι, ρ, S, d, S', st, re, e, k⟩ => by
  obtain ⟨ds, S1, e1, e⟩ := bnd_some e
  split at e
  · rename_i hz
    cases e
    refine tA.run st re e1 fun vs H1 ι1 s1 st1 r1 => ⟨?_, fun p hp => ?_⟩
    · rw [r1.length]; exact of_decide_eq_true hz
    · exact (k.next s1).fl st1 r1 hp
  · cases e
theorem me_cell {es : List Expr} {f : ADen} {pos : Pos} (h : MA X es f) : ME X (.List es pos) (dCell f) := (pe_lst h).weak fun σ H Q ⟨ξ, ι, ρ, S, d, S', st, re, e, k⟩ => by
  obtain ⟨ds, S1, e1, e⟩ := bnd_some e
  split at e
  · rename_i hz
    split at e
    · rename_i hf
      cases e
      refine tA.run st re e1 fun vs H1 ι1 s1 st1 r1 => ⟨?_, fun p hp => ?_⟩
      · rw [r1.length]; exact of_decide_eq_true hz
      · exact (k.next s1).cell st1 r1 hp hf
    · cases e
  · cases e
end
end MS

namespace MS
open PySem PySem.Spec PyProof.Rows L2

/-! ### lists, tuples -/
def listOf (S : Sto) : D → Option (List D)
  | .fl ds => some ds
  | .rl ds => some ds
  | .ref n => match S[n]? with
    | some (.lst ds) => some ds
    | _ => none
  | _ => none
/-- .. that the store tracks (not the script) -/
def mlistOf (S : Sto) : D → Option (List D)
  | .fl ds => some ds
  | .ref n => match S[n]? with
    | some (.lst ds) => some ds
    | _ => none
  | _ => none
section
variable {K : Frag} {H : Hp} {ξ ι : List Addr} {S : Sto} {d : D} {v : V} {ds : List D}
theorem mlistOf_ok (st : StoOk K H ξ ι S) (r : RepV K H ξ ι d v) (e : mlistOf S d = some ds) : ∃ a vs, v = .ref a ∧ H a = some (.lst vs) ∧ RepL K H ξ ι ds vs := by
  cases d with
  | fl es =>
    cases e
    obtain ⟨a, vs, h1, h2, h3⟩ := r
    exact ⟨a, vs, h1, h2.1, h3⟩
  | ref n =>
    obtain ⟨a, h1, h2⟩ := r
    unfold mlistOf at e
    simp only at e
    split at e
    · rename_i es q
      cases e
      obtain ⟨b, h3, h4⟩ := st.cell n _ q
      obtain rfl : b = a := Option.some.inj (h3.symm.trans h2)
      obtain ⟨vs, h5, h6⟩ := h4
      exact ⟨b, vs, h1, h5, h6⟩
    · cases e
  | _ => cases e
theorem listOf_ok (st : StoOk K H ξ ι S) (r : RepV K H ξ ι d v) (e : listOf S d = some ds) : ∃ a vs, v = .ref a ∧ SqL K H a vs ∧ RepL K H ξ ι ds vs := by
  cases d with
  | rl es =>
    cases e
    obtain ⟨a, vs, h1, h2, h3⟩ := r
    exact ⟨a, vs, h1, h2.sq, h3⟩
  | fl es =>
    obtain ⟨a, vs, h1, h2, h3⟩ := mlistOf_ok st r (show mlistOf S (.fl es) = some ds from e)
    exact ⟨a, vs, h1, .inl (.inl h2), h3⟩
  | ref n =>
    obtain ⟨a, vs, h1, h2, h3⟩ := mlistOf_ok st r (show mlistOf S (.ref n) = some ds from e)
    exact ⟨a, vs, h1, .inl (.inl h2), h3⟩
  | _ => cases e
/-- a list or a tuple -/
def seqOf (S : Sto) : D → Option (List D)
  | .tup ds => some ds
  | d => listOf S d
theorem seqOf_ok (st : StoOk K H ξ ι S) (r : RepV K H ξ ι d v) (e : seqOf S d = some ds) : ∃ a vs, v = .ref a ∧ (SqL K H a vs ∨ SqT K H a vs) ∧ RepL K H ξ ι ds vs := by
  cases d with
  | tup es =>
    cases e
    obtain ⟨a, vs, h1, h2, h3⟩ := r
    exact ⟨a, vs, h1, .inr h2.sq, h3⟩
  | _ =>
    obtain ⟨a, vs, h1, h2, h3⟩ := listOf_ok st r e
    exact ⟨a, vs, h1, .inl h2, h3⟩
theorem atI_rep {vs : List V} {i : Int} (r : RepL K H ξ ι ds vs) (e : atI ds i = some d) : ∃ v, atI vs i = some v ∧ RepV K H ξ ι d v := by
  unfold atI at e ⊢
  rw [r.length]
  cases q : ixN ds.length i with
  | none => rw [q] at e; cases e
  | some j =>
    rw [q] at e
    exact r.get e
end
section
variable {X : Cx} {K : Frag}
/-! ### a[i] -/
def gIx : Op2 := fun x y S => match y with
  | .int i => match x with
    | .tup ds => (atI ds i).map fun d => (d, S)
    | .str z => if z.length ≤ sizeLine then (atI z.cps.toList i).map fun c => (.str ⟨#[c]⟩, S) else none
    | x => (listOf S x).bind fun ds => (atI ds i).map fun d => (d, S)
  | _ => none
theorem m_ix : MOp K (rIx K) gIx := by
  intro H ξ ι S S' x y d v w Q st rx ry e k
  have lst : (listOf S x).bind (fun ds => match y with
      | .int i => (atI ds i).map fun d => (d, S)
      | _ => none) = some (d, S') → rIx K v w H Q := fun e => by
    cases q : listOf S x with
    | none => rw [q] at e; cases e
    | some ds =>
      rw [q] at e
      cases y with
      | int i =>
        have e : (atI ds i).map (fun d => (d, S)) = some (d, S') := e
        cases q2 : atI ds i with
        | none => rw [q2] at e; cases e
        | some z =>
          rw [q2] at e
          cases e
          obtain ⟨a, vs, h1, h2, h3⟩ := listOf_ok st rx q
          obtain ⟨u, h4, h5⟩ := atI_rep h3 q2
          exact .inl ⟨a, vs, i, u, h1, ry, h2, h4, k.here st h5⟩
      | _ => cases e
  cases y with
  | int i =>
    cases x with
    | tup ds =>
      have e : (atI ds i).map (fun d => (d, S)) = some (d, S') := e
      cases q2 : atI ds i with
      | none => rw [q2] at e; cases e
      | some z =>
        rw [q2] at e
        cases e
        obtain ⟨a, vs, h1, h2, h3⟩ := rx
        obtain ⟨u, h4, h5⟩ := atI_rep h3 q2
        exact .inr (.inl ⟨a, vs, i, u, h1, ry, h2.sq, h4, k.here st h5⟩)
    | str z =>
      have e : (if z.length ≤ sizeLine then (atI z.cps.toList i).map fun c => (D.str ⟨#[c]⟩, S) else none) = some (d, S') := e
      split at e
      · rename_i hz
        cases q2 : atI z.cps.toList i with
        | none => rw [q2] at e; cases e
        | some c =>
          rw [q2] at e
          cases e
          exact .inr (.inr ⟨z, i, c, rx, ry, hz, q2, k.here st rfl⟩)
      · cases e
    | fl ds => exact lst e
    | rl ds => exact lst e
    | ref n => exact lst e
    | _ => cases e
  | _ => cases e
theorem me_ix {a b : Expr} {fa fb : EDen} {pos : Pos} (ha : ME X a fa) (hb : ME X b fb) (hs : PlainIx b := by exact fun _ _ => rfl) : ME X (.Subscript a b pos) (dOp gIx fa fb) := (pe_ix ix_seq ha hb hs).weak fun _ _ _ h => h.op m_ix

/-! ### slices -/
abbrev PDen := Env → Sto → Option (Option Int × Sto)
def tP (K : Frag) (f : PDen) : TO := fun σ H Q => ∃ ξ ι ρ S o S', StoOk K H ξ ι S ∧ RepE K H ξ ι ρ σ ∧ f ρ S = some (o, S') ∧ AnsT K ξ ι H S' (Q o)
theorem _root_.L2.PO.weak {e : Option Expr} {t t' : TO} (h : PO X e t) (w : ∀ σ H Q, t' σ H Q → t σ H Q) : PO X e t' := ⟨fun pins s σ H Q I q => h.run pins s σ H Q I (w σ H Q q)⟩
def pNo : PDen := fun _ S => some (none, S)
def pAt (f : EDen) : PDen := fun ρ S => bnd (f ρ S) fun d S => match d with
  | .int i => some (some i, S)
  | _ => none
theorem mp_none : PO X none (tP X.K pNo) := po_none.weak fun σ H Q ⟨ξ, ι, ρ, S, d, S', st, re, e, k⟩ => by
  cases e
  exact k H ι Step.refl st
theorem mp_some {e : Expr} {f : EDen} (h : ME X e f) : PO X (some e) (tP X.K (pAt f)) := (po_some h).weak fun σ H Q ⟨ξ, ι, ρ, S, d, S', st, re, e, k⟩ => by
  obtain ⟨x, S1, e1, e⟩ := bnd_some e
  cases x with
  | int i =>
    cases e
    exact tE.run st re e1 fun v1 H1 ι1 s1 st1 r1 => ⟨i, r1, k H1 ι1 s1 st1⟩
  | _ => cases e
def cutD (ds : List D) (lo hi : Option Int) : List D := (ds.drop (HT.sIx ds.length 0 lo)).take (HT.sIx ds.length ds.length hi - HT.sIx ds.length 0 lo)
theorem cut_rep {H : Hp} {ξ ι : List Addr} {ds : List D} {vs : List V} {lo hi : Option Int} (r : RepL K H ξ ι ds vs) : RepL K H ξ ι (cutD ds lo hi) (cutV vs lo hi) := by
  unfold cutD cutV
  rw [r.length]
  exact (r.drop _).take _
def cutS' (z : Str) (lo hi : Option Int) : Str := cutS z lo hi
def gSl (x : D) (lo hi : Option Int) (S : Sto) : Option (D × Sto) := match x with
  | .tup ds => some (.tup (cutD ds lo hi), S)
  | .str z => if z.length ≤ sizeLine then some (.str (cutS z lo hi), S) else none
  | x => (listOf S x).map fun ds => (.fl (cutD ds lo hi), S)
def dSl (fa : EDen) (fl fh : PDen) : EDen := fun ρ S => bnd (fa ρ S) fun x S => bnd (fl ρ S) fun lo S => bnd (fh ρ S) fun hi S => gSl x lo hi S
def rSlS : V → Option Int → Option Int → Hp → VK → Prop := fun x lo hi H Q => ∃ z, x = .str z ∧ z.length ≤ sizeLine ∧ Q (.str (cutS z lo hi)) H
def rSlAll (K : Frag) : V → Option Int → Option Int → Hp → VK → Prop := fun x lo hi H Q => rSlL K x lo hi H Q ∨ rSlA K x lo hi H Q ∨ rSlS x lo hi H Q
theorem sl_all (hs : SlR X rSlS) : SlR X (rSlAll X.K) := sl_list.or (sl_tupA.or hs)
theorem whole_cut (ds : List D) (lo hi : Option Int) (h : HT.sIx ds.length 0 lo = 0 ∧ HT.sIx ds.length ds.length hi = ds.length) : cutD ds lo hi = ds := by
  unfold cutD
  rw [h.1, h.2]
  simp
theorem m_sl {x d : D} {lo hi : Option Int} {S S' : Sto} {H : Hp} {ξ ι : List Addr} {v : V} {Q : VK} (st : StoOk K H ξ ι S) (rx : RepV K H ξ ι x v) (e : gSl x lo hi S = some (d, S')) (k : Ans K ξ ι H S' d Q) : rSlAll K v lo hi H Q := by
  have lst : (listOf S x).map (fun ds => (D.fl (cutD ds lo hi), S)) = some (d, S') → rSlAll K v lo hi H Q := fun e => by
    cases q : listOf S x with
    | none => rw [q] at e; cases e
    | some ds =>
      rw [q] at e
      cases e
      obtain ⟨a, vs, h1, h2, h3⟩ := listOf_ok st rx q
      exact .inl ⟨a, vs, h1, h2, fun p hp => k.fl st (cut_rep h3) hp⟩
  cases x with
  | tup ds =>
    cases e
    obtain ⟨a, vs, h1, h2, h3⟩ := rx
    refine .inr (.inl ⟨a, vs, h1, h2.sq, fun hw => ?_, fun _ p hp => k.tup st (cut_rep h3) hp⟩)
    have hw' : HT.sIx ds.length 0 lo = 0 ∧ HT.sIx ds.length ds.length hi = ds.length := by rw [← h3.length]; exact hw
    refine k.here st ?_
    rw [whole_cut _ _ _ hw']
    exact ⟨a, vs, rfl, h2, h3⟩
  | str z =>
    have e : (if z.length ≤ sizeLine then some (D.str (cutS z lo hi), S) else none) = some (d, S') := e
    split at e
    · rename_i hz
      cases e
      exact .inr (.inr ⟨z, rx, hz, k.here st rfl⟩)
    · cases e
  | fl ds => exact lst e
  | rl ds => exact lst e
  | ref n => exact lst e
  | _ => cases e
theorem me_sl {a : Expr} {lo hi : Option Expr} {p2 pos : Pos} {fa : EDen} {fl fh : PDen} (ha : ME X a fa) (hl : PO X lo (tP X.K fl)) (hh : PO X hi (tP X.K fh)) : ME X (.Subscript a (.Slice lo hi none p2) pos) (dSl fa fl fh) :=
  (pe_slice (sl_all sl_str) ha hl hh).weak fun σ H Q ⟨ξ, ι, ρ, S, d, S', st, re, e, k⟩ => by
    obtain ⟨x, S1, e1, e⟩ := bnd_some e
    obtain ⟨l, S2, e2, e⟩ := bnd_some e
    obtain ⟨h, S3, e3, e⟩ := bnd_some e
    refine tE.run st re e1 fun v1 H1 ι1 s1 st1 r1 => ⟨ξ, ι1, ρ, S1, l, S2, st1, s1.env re, e2, fun H2 ι2 s2 st2 => ⟨ξ, ι2, ρ, S2, h, S3, st2, s2.env (s1.env re), e3, fun H3 ι3 s3 st3 => ?_⟩⟩
    exact m_sl st3 (s3.val (s2.val r1)) e (((k.next s1).next s2).next s3)
/-- xs[::-1] of a list -/
def dRev (fa : EDen) : EDen := fun ρ S => bnd (fa ρ S) fun x S => (listOf S x).map fun ds => (.fl ds.reverse, S)
def dRevC (fa : EDen) : EDen := fun ρ S => bnd (fa ρ S) fun x S => (listOf S x).bind fun ds => if D.fitL S.length ds then some (.ref S.length, S ++ [.lst ds.reverse]) else none
theorem fitL_reverse {n : Nat} {ds : List D} (h : D.fitL n ds = true) : D.fitL n ds.reverse = true := D.fitL_all.mpr fun d hd => D.fitL_all.mp h d (List.mem_reverse.mp hd)
theorem me_rev {e : Expr} {f : EDen} {k : Nat} {p1 p2 p3 pos : Pos} (he : ME X e f) : ME X (.Subscript e (.Slice none none (some (.UnaryOp .USub (.Constant (.int 1) k p1) p2)) p3) pos) (dRev f) :=
  (pe_revL he).weak fun σ H Q ⟨ξ, ι, ρ, S, d, S', st, re, e, k⟩ => by
    obtain ⟨x, S1, e1, e⟩ := bnd_some e
    cases q : listOf S1 x with
    | none => rw [q] at e; cases e
    | some ds =>
      rw [q] at e
      cases e
      refine tE.run st re e1 fun v1 H1 ι1 s1 st1 r1 => ?_
      obtain ⟨a, vs, h1, h2, h3⟩ := listOf_ok st1 r1 q
      exact ⟨a, vs, h1, h2, fun p hp => (k.next s1).fl st1 h3.reverse hp⟩
theorem me_revC {e : Expr} {f : EDen} {k : Nat} {p1 p2 p3 pos : Pos} (he : ME X e f) : ME X (.Subscript e (.Slice none none (some (.UnaryOp .USub (.Constant (.int 1) k p1) p2)) p3) pos) (dRevC f) :=
  (pe_revL he).weak fun σ H Q ⟨ξ, ι, ρ, S, d, S', st, re, e, k⟩ => by
    obtain ⟨x, S1, e1, e⟩ := bnd_some e
    cases q : listOf S1 x with
    | none => rw [q] at e; cases e
    | some ds =>
      rw [q] at e
      have e : (if D.fitL S1.length ds then some (D.ref S1.length, S1 ++ [.lst ds.reverse]) else none) = some (d, S') := e
      split at e
      · rename_i hf
        cases e
        refine tE.run st re e1 fun v1 H1 ι1 s1 st1 r1 => ?_
        obtain ⟨a, vs, h1, h2, h3⟩ := listOf_ok st1 r1 q
        exact ⟨a, vs, h1, h2, fun p hp => (k.next s1).cell st1 h3.reverse hp (fitL_reverse hf)⟩
      · cases e

/-! ### + and * -/
def gAdd : Op2 := fun x y S => match x, y with
  | .int i, .int j => some (.int (i + j), S)
  | .str a, .str b => if a.length + b.length ≤ sizeLine then some (.str (a ++ b), S) else none
  | .tup a, .tup b => if a.length + b.length ≤ sizeLine then some (.tup (a ++ b), S) else none
  | x, y => (mlistOf S x).bind fun a => (mlistOf S y).bind fun b => if a.length + b.length ≤ sizeLine then some (.fl (a ++ b), S) else none
def rAddS : R2 := fun x y H Q => ∃ a b : Str, x = .str a ∧ y = .str b ∧ a.length + b.length ≤ sizeLine ∧ Q (.str (a ++ b)) H
def rAddA (K : Frag) : R2 := fun x y H Q => rI0 (fun i j => .int (i + j)) x y H Q ∨ (fun x y H Q => rAddS x y H Q ∨ (fun x y H Q => rCatA K x y H Q ∨ rCat x y H Q) x y H Q) x y H Q
theorem o_add (hs : OpR X (binaryOp .Add) rAddS) : OpR X (binaryOp .Add) (rAddA X.K) := op_add.or (hs.or (op_catA.or op_cat))
theorem m_add : MOp K (rAddA K) gAdd := by
  intro H ξ ι S S' x y d v w Q st rx ry e k
  have lst : (mlistOf S x).bind (fun a => (mlistOf S y).bind fun b => if a.length + b.length ≤ sizeLine then some (D.fl (a ++ b), S) else none) = some (d, S') → rAddA K v w H Q := fun e => by
    cases q : mlistOf S x with
    | none => rw [q] at e; cases e
    | some a =>
      cases q2 : mlistOf S y with
      | none => rw [q, q2] at e; cases e
      | some b =>
        rw [q, q2] at e
        have e : (if a.length + b.length ≤ sizeLine then some (D.fl (a ++ b), S) else none) = some (d, S') := e
        split at e
        · rename_i hz
          cases e
          obtain ⟨p, vs, h1, h2, h3⟩ := mlistOf_ok st rx q
          obtain ⟨p', vs', h1', h2', h3'⟩ := mlistOf_ok st ry q2
          refine .inr (.inr (.inr ⟨p, p', vs, vs', h1, h1', h2, h2', ?_, fun l hl => k.fl st (h3.append h3') hl⟩))
          rw [h3.length, h3'.length]
          exact hz
        · cases e
  cases x with
  | int i =>
    cases y with
    | int j => cases e; exact .inl ⟨i, j, rx, ry, k.here st rfl⟩
    | _ => cases e
  | str a =>
    cases y with
    | str b =>
      have e : (if a.length + b.length ≤ sizeLine then some (D.str (a ++ b), S) else none) = some (d, S') := e
      split at e
      · rename_i hz
        cases e
        exact .inr (.inl ⟨a, b, rx, ry, hz, k.here st rfl⟩)
      · cases e
    | _ => cases e
  | tup a =>
    cases y with
    | tup b =>
      have e : (if a.length + b.length ≤ sizeLine then some (D.tup (a ++ b), S) else none) = some (d, S') := e
      split at e
      · rename_i hz
        cases e
        obtain ⟨p, vs, h1, h2, h3⟩ := rx
        obtain ⟨p', vs', h1', h2', h3'⟩ := ry
        refine .inr (.inr (.inl ⟨p, p', vs, vs', h1, h1', h2.sq, h2'.sq, by rw [h3.length, h3'.length]; exact hz, fun z => ?_, fun _ z => ?_, fun _ _ l hl => k.tup st (h3.append h3') hl⟩))
        · have ha : a = [] := List.eq_nil_of_length_eq_zero (by rw [← h3.length, z]; rfl)
          subst ha
          exact k.here st ⟨p', vs', rfl, h2', h3'⟩
        · have hb : b = [] := List.eq_nil_of_length_eq_zero (by rw [← h3'.length, z]; rfl)
          subst hb
          exact k.here st ⟨p, vs, rfl, h2, by rw [List.append_nil]; exact h3⟩
      · cases e
    | _ => cases e
  | fl a => exact lst (by cases y <;> exact e)
  | ref n => exact lst (by cases y <;> exact e)
  | _ => cases y <;> cases e
def gMul : Op2 := fun x y S => match x, y with
  | .int i, .int j => if mulOk i j then some (.int (i * j), S) else none
  | .tup a, .int k => if 2 ≤ k ∧ k ≤ 1000 ∧ a ≠ [] ∧ a.length ≤ 1000 then some (.tup (List.replicate k.toNat a).flatten, S) else if a.length ≤ 1000 ∧ k = 1 then none else none
  | x, .int k => (mlistOf S x).bind fun a => if -(2 ^ 63) ≤ k ∧ k < 2 ^ 63 ∧ a.length * k.toNat ≤ sizeLine then some (.fl (List.replicate k.toNat a).flatten, S) else none
  | _, _ => none
end
end MS

namespace MS
open PySem PySem.Spec PyProof.Rows L2

/-! ### data, compared, shown -/
mutual
def D.dat : D → PyData
  | .non => .none
  | .bl b => .bool b
  | .int i => .int i
  | .str x => .str x
  | .tup ds => .tuple (D.datL ds)
  | .fl ds => .list (D.datL ds)
  | .rl ds => .list (D.datL ds)
  | .ref _ => .none
def D.datL : List D → List PyData
  | [] => []
  | d :: ds => D.dat d :: D.datL ds
end
/-- data without mutable things in it; a mutable list of such -/
def datS (S : Sto) (d : D) : Option PyData := match d with
  | .ref n => match S[n]? with
    | some (.lst ds) => if D.pureL ds then some (.list (D.datL ds)) else none
    | _ => none
  | d => if D.pure d then some (D.dat d) else none
section
variable {K : Frag} {H : Hp} {ξ ι : List Addr}
mutual
theorem RepV.dp : ∀ {d : D} {v : V}, D.pure d = true → RepV K H ξ ι d v → Dp K H v (D.dat d)
  | .non, _, _, e => by cases e; exact .non
  | .bl _, _, _, e => by cases e; exact .bl _
  | .int _, _, _, e => by cases e; exact .int _
  | .str _, _, _, e => by cases e; exact .str _
  | .tup _, _, p, ⟨_, _, e, t, h⟩ => by cases e; exact .tup t.sq (RepL.dp p h)
  | .fl _, _, p, ⟨_, _, e, t, h⟩ => by cases e; exact .lst t.sq (RepL.dp p h)
  | .rl _, _, p, ⟨_, _, e, t, h⟩ => by cases e; exact .lst t.sq (RepL.dp p h)
  | .ref n, _, p, _ => absurd (of_decide_eq_true (show decide (n < 0) = true from p)) (Nat.not_lt_zero n)
theorem RepL.dp : ∀ {ds : List D} {vs : List V}, D.pureL ds = true → RepL K H ξ ι ds vs → DpAll K H vs (D.datL ds)
  | [], _, _, e => by cases e; exact .nil
  | d :: ds, _, p, ⟨v, r, e, h1, h2⟩ => by
    subst e
    have p' : (D.pure d && D.pureL ds) = true := p
    rw [Bool.and_eq_true] at p'
    exact .cons (RepV.dp p'.1 h1) (RepL.dp p'.2 h2)
end
theorem datS_ok {S : Sto} {d : D} {v : V} {x : PyData} (st : StoOk K H ξ ι S) (r : RepV K H ξ ι d v) (e : datS S d = some x) : Dp K H v x := by
  have other : (if D.pure d then some (D.dat d) else none) = some x → Dp K H v x := fun e => by
    split at e
    · rename_i p
      cases e
      exact r.dp p
    · cases e
  cases d with
  | ref n =>
    unfold datS at e
    simp only at e
    split at e
    · rename_i ds q
      split at e
      · rename_i p
        cases e
        obtain ⟨a, h1, h2⟩ := r
        obtain ⟨b, h3, vs, h4, h5⟩ := st.cell n _ q
        obtain rfl : b = a := Option.some.inj (h3.symm.trans h2)
        subst h1
        exact .lst (.inl (.inl h4)) (h5.dp p)
      · cases e
    · cases e
  | _ => exact other e
end
def gCmpD (neg : Bool) : Op2 := fun x y S => match datS S x, datS S y with
  | some a, some b => if SeqAt.shaped a && SeqAt.shaped b then some (.bl (if neg then !PyData.eqv a b else PyData.eqv a b), S) else none
  | _, _ => none
def gEq : Op2 := gCmpD false
def gNe : Op2 := gCmpD true
section
variable {X : Cx} {K : Frag}
theorem gCmpD_some {neg : Bool} {x y d : D} {S S' : Sto} (h : gCmpD neg x y S = some (d, S')) : ∃ a b, datS S x = some a ∧ datS S y = some b ∧ SeqAt.shaped a = true ∧ SeqAt.shaped b = true ∧ d = .bl (if neg then !PyData.eqv a b else PyData.eqv a b) ∧ S' = S := by
  unfold gCmpD at h
  split at h
  · rename_i a b e1 e2
    split at h
    · rename_i q
      rw [Bool.and_eq_true] at q
      cases h
      exact ⟨a, b, e1, e2, q.1, q.2, rfl, rfl⟩
    · cases h
  · cases h
theorem m_eq : MOp K (rEqD K) gEq := by
  intro H ξ ι S S' x y d v w Q st rx ry e k
  obtain ⟨a, b, h1, h2, h3, h4, rfl, rfl⟩ := gCmpD_some e
  exact ⟨a, b, datS_ok st rx h1, datS_ok st ry h2, h3, h4, k.here st rfl⟩
theorem m_ne : MOp K (rNeD K) gNe := by
  intro H ξ ι S S' x y d v w Q st rx ry e k
  obtain ⟨a, b, h1, h2, h3, h4, rfl, rfl⟩ := gCmpD_some e
  exact ⟨a, b, datS_ok st rx h1, datS_ok st ry h2, h3, h4, k.here st rfl⟩
/-- is None, is not None -/
def D.isNon : D → Bool
  | .non => true
  | _ => false
theorem isNon_rep {H : Hp} {ξ ι : List Addr} {d : D} {v : V} (r : RepV K H ξ ι d v) : decide (v = .non) = D.isNon d := by
  cases d with
  | non => cases r; rfl
  | bl _ => cases r; rfl
  | int _ => cases r; rfl
  | str _ => cases r; rfl
  | tup _ => obtain ⟨_, _, rfl, _⟩ := r; rfl
  | fl _ => obtain ⟨_, _, rfl, _⟩ := r; rfl
  | rl _ => obtain ⟨_, _, rfl, _⟩ := r; rfl
  | ref _ => obtain ⟨_, rfl, _⟩ := r; rfl
def gIsN : Op2 := fun x y S => match y with
  | .non => some (.bl (D.isNon x), S)
  | _ => none
def gNotN : Op2 := fun x y S => match y with
  | .non => some (.bl (!D.isNon x), S)
  | _ => none
theorem m_isN : MOp K (fun x y H Q => y = .non ∧ Q (.bl (decide (x = .non))) H) gIsN := by
  intro H ξ ι S S' x y d v w Q st rx ry e k
  cases y with
  | non => cases e; exact ⟨ry, by rw [isNon_rep rx]; exact k.here st rfl⟩
  | _ => cases e
theorem m_notN : MOp K (fun x y H Q => y = .non ∧ Q (.bl (!decide (x = .non))) H) gNotN := by
  intro H ξ ι S S' x y d v w Q st rx ry e k
  cases y with
  | non => cases e; exact ⟨ry, by rw [isNon_rep rx]; exact k.here st rfl⟩
  | _ => cases e
/-- is True, is False -/
def gIsB : Op2 := fun x y S => match x, y with
  | .bl a, .bl b => some (.bl (decide (a = b)), S)
  | _, _ => none
def gNotB : Op2 := fun x y S => match x, y with
  | .bl a, .bl b => some (.bl (!decide (a = b)), S)
  | _, _ => none
theorem m_isB : MOp K rIsB gIsB := by
  intro H ξ ι S S' x y d v w Q st rx ry e k
  cases x with
  | bl a =>
    cases y with
    | bl b => cases e; exact ⟨a, b, rx, ry, k.here st rfl⟩
    | _ => cases e
  | _ => cases e
theorem m_notB : MOp K rNotB gNotB := by
  intro H ξ ι S S' x y d v w Q st rx ry e k
  cases x with
  | bl a =>
    cases y with
    | bl b => cases e; exact ⟨a, b, rx, ry, k.here st rfl⟩
    | _ => cases e
  | _ => cases e

/-! ### built-ins -/
abbrev CDen := List D → Sto → Option (D × Sto)
def MCall (K : Frag) (r : List V → Hp → VK → Prop) (g : CDen) : Prop := ∀ (H : Hp) (ξ ι : List Addr) (S S' : Sto) (ds : List D) (d : D) (vs : List V) (Q : VK), StoOk K H ξ ι S → RepL K H ξ ι ds vs → g ds S = some (d, S') → Ans K ξ ι H S' d Q → r vs H Q
def dCB (g : CDen) (f : ADen) : EDen := fun ρ S => bnd (f ρ S) g
theorem tE.cb {r : List V → Hp → VK → Prop} {g : CDen} (m : MCall K r g) {f : ADen} {σ : L2.St} {H : Hp} {Q : VK} (h : tE K (dCB g f) σ H Q) : tCB r (tA K f) σ H Q := by
  obtain ⟨ξ, ι, ρ, S, d, S', st, re, e, k⟩ := h
  obtain ⟨ds, S1, e1, e⟩ := bnd_some e
  exact tA.run st re e1 fun vs H1 ι1 s1 st1 r1 => m H1 ξ ι1 S1 S' ds d vs Q st1 r1 e (k.next s1)
section
variable {r : List V → Hp → VK → Prop} {g : CDen} {f : ADen} {x : Str} {id T : String} {p pos : Pos} {e : Expr} {es : List Expr}
theorem me_cb (hc : CallR X (.builtin id) r) (m : MCall X.K r g) (hg : Gl X x) (hm : X.mg x = none) (hv : bootBuiltins x = some (.builtin id)) (ha : MA X (e :: es) f) (hn : x ≠ "__name__" := by decide) (hdb : (x == ("__debug__" : Str)) = false := by decide)
    (he : starEach (e :: es) X.env = (false, eval e X.env) :: starEach es X.env := by rfl) (hpl : (backTo pos (starEach es X.env)).any (·.1) = false := by rfl) : ME X (.Call (.Name x p) (e :: es) [] pos) (dCB g f) :=
  (pe_callB hc hg hm hv ha hn hdb he hpl).weak fun _ _ _ h => tE.cb m h
theorem me_ct (hc : CallR X (.type T) r) (m : MCall X.K r g) (hg : Gl X x) (hm : X.mg x = none) (hv : bootBuiltins x = some (.type T)) (ha : MA X (e :: es) f) (hn : x ≠ "__name__" := by decide) (hdb : (x == ("__debug__" : Str)) = false := by decide)
    (he : starEach (e :: es) X.env = (false, eval e X.env) :: starEach es X.env := by rfl) (hpl : (backTo pos (starEach es X.env)).any (·.1) = false := by rfl) : ME X (.Call (.Name x p) (e :: es) [] pos) (dCB g f) :=
  (pe_callTy hc hg hm hv ha hn hdb he hpl).weak fun _ _ _ h => tE.cb m h
end
/-- one int -/
def cI (g : Int → D) : CDen := fun ds S => match ds with
  | [.int i] => some (g i, S)
  | _ => none
def cII (g : Int → Int → D) : CDen := fun ds S => match ds with
  | [.int i, .int j] => some (g i j, S)
  | _ => none
theorem RepL.one' {H : Hp} {ξ ι : List Addr} {d : D} {vs : List V} (r : RepL K H ξ ι [d] vs) : ∃ v, vs = [v] ∧ RepV K H ξ ι d v := by
  obtain ⟨v, t, e, h1, h2⟩ := r
  obtain rfl : t = [] := h2
  exact ⟨v, e, h1⟩
theorem RepL.two' {H : Hp} {ξ ι : List Addr} {d e : D} {vs : List V} (r : RepL K H ξ ι [d, e] vs) : ∃ v w, vs = [v, w] ∧ RepV K H ξ ι d v ∧ RepV K H ξ ι e w := by
  obtain ⟨v, t, h, h1, h2⟩ := r
  obtain ⟨w, rfl, h3⟩ := RepL.one' h2
  exact ⟨v, w, h, h1, h3⟩
def cAbs : CDen := cI fun i => .int (if i < 0 then -i else i)
theorem mc_abs : MCall K (fun xs H Q => ∃ i, xs = [.int i] ∧ Q (.int (if i < 0 then -i else i)) H) cAbs := by
  intro H ξ ι S S' ds d vs Q st r e k
  unfold cAbs cI at e
  split at e
  · rename_i i
    cases e
    obtain ⟨v, rfl, h⟩ := RepL.one' r
    obtain rfl : v = .int i := h
    exact ⟨i, rfl, k.here st rfl⟩
  · cases e
def cMax2 : CDen := cII fun i j => .int (if j > i then j else i)
def cMin2 : CDen := cII fun i j => .int (if j < i then j else i)
theorem mc_ii {g : Int → Int → D} {f : Int → Int → V} (h : ∀ i j H ξ ι, RepV K H ξ ι (g i j) (f i j)) : MCall K (fun xs H Q => ∃ i j, xs = [.int i, .int j] ∧ Q (f i j) H) (cII g) := by
  intro H ξ ι S S' ds d vs Q st r e k
  unfold cII at e
  split at e
  · rename_i i j
    cases e
    obtain ⟨v, w, rfl, h1, h2⟩ := RepL.two' r
    obtain rfl : v = .int i := h1
    obtain rfl : w = .int j := h2
    exact ⟨i, j, rfl, k.here st (h i j _ _ _)⟩
  · cases e
theorem mc_max2 : MCall K (fun xs H Q => ∃ i j, xs = [.int i, .int j] ∧ Q (.int (if j > i then j else i)) H) cMax2 := mc_ii (f := fun i j => .int (if j > i then j else i)) fun _ _ _ _ _ => rfl
theorem mc_min2 : MCall K (fun xs H Q => ∃ i j, xs = [.int i, .int j] ∧ Q (.int (if j < i then j else i)) H) cMin2 := mc_ii (f := fun i j => .int (if j < i then j else i)) fun _ _ _ _ _ => rfl
def cInt : CDen := fun ds S => match ds with
  | [.int i] => some (.int i, S)
  | [.bl k] => some (.int (if k then 1 else 0), S)
  | _ => none
theorem mc_int : MCall K (fun xs H Q => (∃ i, xs = [.int i] ∧ Q (.int i) H) ∨ ∃ k, xs = [.bl k] ∧ Q (.int (if k then 1 else 0)) H) cInt := by
  intro H ξ ι S S' ds d vs Q st r e k
  unfold cInt at e
  split at e
  · rename_i i
    cases e
    obtain ⟨v, rfl, h⟩ := RepL.one' r
    obtain rfl : v = .int i := h
    exact .inl ⟨i, rfl, k.here st rfl⟩
  · rename_i i
    cases e
    obtain ⟨v, rfl, h⟩ := RepL.one' r
    obtain rfl : v = .bl i := h
    exact .inr ⟨i, rfl, k.here st rfl⟩
  · cases e
/-- len -/
def cLen : CDen := fun ds S => match ds with
  | [.str z] => if z.length ≤ sizeLine then some (.int z.length, S) else none
  | [.ref n] => match S[n]? with
    | some (.lst es) => some (.int es.length, S)
    | some (.dct kvs) => some (.int kvs.length, S)
    | _ => none
  | [d] => (seqOf S d).map fun es => (.int es.length, S)
  | _ => none
def rLenA (K : Frag) : List V → Hp → VK → Prop := fun xs H Q => (∃ p ys, xs = [.ref p] ∧ (SqL K H p ys ∨ SqT K H p ys) ∧ Q (.int ys.length) H) ∨ (fun xs H Q => (∃ z, xs = [.str z] ∧ z.length ≤ sizeLine ∧ Q (.int z.length) H) ∨ ∃ a kvs, xs = [V.ref a] ∧ H a = some (.dK kvs) ∧ Q (.int kvs.length) H) xs H Q
theorem c_len : CallR X (.builtin "len") (rLenA X.K) := call_len_seq.or (call_len_str.or call_lenD)
theorem mc_len : MCall K (rLenA K) cLen := by
  intro H ξ ι S S' ds d vs Q st r e k
  have seq : ∀ x, ds = [x] → (seqOf S x).map (fun es => (D.int es.length, S)) = some (d, S') → rLenA K vs H Q := fun x hx e' => by
    subst hx
    obtain ⟨v, rfl, h⟩ := RepL.one' r
    cases q : seqOf S x with
    | none => rw [q] at e'; cases e'
    | some es =>
      rw [q] at e'
      cases e'
      obtain ⟨a, ys, rfl, h2, h3⟩ := seqOf_ok st h q
      exact .inl ⟨a, ys, rfl, h2, by rw [h3.length]; exact k.here st rfl⟩
  unfold cLen at e
  split at e
  · rename_i z
    split at e
    · rename_i hz
      cases e
      obtain ⟨v, rfl, h⟩ := RepL.one' r
      obtain rfl : v = .str z := h
      exact .inr (.inl ⟨z, rfl, hz, k.here st rfl⟩)
    · cases e
  · rename_i n
    split at e
    · rename_i es q
      exact seq _ rfl (by
        show (listOf S (.ref n)).map _ = _
        unfold listOf
        simp only [q]
        exact e)
    · rename_i kvs q
      cases e
      obtain ⟨v, rfl, a, rfl, h⟩ := RepL.one' r
      obtain ⟨b, h3, ws, h4, h5, _⟩ := st.cell n _ q
      obtain rfl : b = a := Option.some.inj (h3.symm.trans h)
      have hl : ws.length = kvs.length := by
        have := congrArg List.length h5
        simpa using this
      exact .inr (.inr ⟨b, ws, rfl, h4, by rw [hl]; exact k.here st rfl⟩)
    · cases e
  · rename_i x _ _
    exact seq x rfl e
  · cases e
/-- tuple(xs), list(xs) -/
def cTuple : CDen := fun ds S => match ds with
  | [.tup es] => some (.tup es, S)
  | [d] => (listOf S d).map fun es => (.tup es, S)
  | _ => none
theorem mc_tuple : MCall K (fun xs H Q => ∃ p ys, xs = [.ref p] ∧ ((SqL K H p ys ∧ ∀ l, H l = none → Q (.ref l) (upd H l (.tup ys))) ∨ (SqT K H p ys ∧ Q (.ref p) H))) cTuple := by
  intro H ξ ι S S' ds d vs Q st r e k
  unfold cTuple at e
  split at e
  · rename_i es
    cases e
    obtain ⟨v, rfl, h⟩ := RepL.one' r
    have h' := h
    obtain ⟨a, ys, rfl, h2, h3⟩ := h
    exact ⟨a, ys, rfl, .inr ⟨h2.sq, k.here st h'⟩⟩
  · rename_i x _
    cases q : listOf S x with
    | none => rw [q] at e; cases e
    | some es =>
      rw [q] at e
      cases e
      obtain ⟨v, rfl, h⟩ := RepL.one' r
      obtain ⟨a, ys, rfl, h2, h3⟩ := listOf_ok st h q
      exact ⟨a, ys, rfl, .inl ⟨h2, fun l hl => k.tup st h3 hl⟩⟩
  · cases e
def cList : CDen := fun ds S => match ds with
  | [d] => (seqOf S d).map fun es => (.fl es, S)
  | _ => none
def cListC : CDen := fun ds S => match ds with
  | [d] => (seqOf S d).bind fun es => if D.fitL S.length es then some (.ref S.length, S ++ [.lst es]) else none
  | _ => none
theorem mc_list : MCall K (fun xs H Q => ∃ p ys, xs = [.ref p] ∧ (SqL K H p ys ∨ SqT K H p ys) ∧ ∀ l, H l = none → Q (.ref l) (upd H l (.lst ys))) cList := by
  intro H ξ ι S S' ds d vs Q st r e k
  unfold cList at e
  split at e
  · rename_i x
    cases q : seqOf S x with
    | none => rw [q] at e; cases e
    | some es =>
      rw [q] at e
      cases e
      obtain ⟨v, rfl, h⟩ := RepL.one' r
      obtain ⟨a, ys, rfl, h2, h3⟩ := seqOf_ok st h q
      exact ⟨a, ys, rfl, h2, fun l hl => k.fl st h3 hl⟩
  · cases e
theorem mc_listC : MCall K (fun xs H Q => ∃ p ys, xs = [.ref p] ∧ (SqL K H p ys ∨ SqT K H p ys) ∧ ∀ l, H l = none → Q (.ref l) (upd H l (.lst ys))) cListC := by
  intro H ξ ι S S' ds d vs Q st r e k
  unfold cListC at e
  split at e
  · rename_i x
    cases q : seqOf S x with
    | none => rw [q] at e; cases e
    | some es =>
      rw [q] at e
      have e : (if D.fitL S.length es then some (D.ref S.length, S ++ [.lst es]) else none) = some (d, S') := e
      split at e
      · rename_i hf
        cases e
        obtain ⟨v, rfl, h⟩ := RepL.one' r
        obtain ⟨a, ys, rfl, h2, h3⟩ := seqOf_ok st h q
        exact ⟨a, ys, rfl, h2, fun l hl => k.cell st h3 hl hf⟩
      · cases e
  · cases e
/-- lists of ints -/
def intsOf : List D → Option (List Int)
  | [] => some []
  | .int i :: ds => (intsOf ds).map (i :: ·)
  | _ :: _ => none
@[simp] theorem intsOf_map (ns : List Int) : intsOf (ns.map D.int) = some ns := by
  induction ns with
  | nil => rfl
  | cons n ns ih =>
    show (intsOf (ns.map D.int)).map (n :: ·) = some (n :: ns)
    rw [ih]
    rfl
theorem intsOf_eq : ∀ {ds : List D} {ns : List Int}, intsOf ds = some ns → ds = ns.map D.int
  | [], _, e => by cases e; rfl
  | .int i :: ds, ns, e => by
    have e : (intsOf ds).map (i :: ·) = some ns := e
    cases q : intsOf ds with
    | none => rw [q] at e; cases e
    | some ms =>
      rw [q] at e
      cases e
      rw [intsOf_eq q]
      rfl
  | .non :: _, _, e => by cases e
  | .bl _ :: _, _, e => by cases e
  | .str _ :: _, _, e => by cases e
  | .tup _ :: _, _, e => by cases e
  | .fl _ :: _, _, e => by cases e
  | .rl _ :: _, _, e => by cases e
  | .ref _ :: _, _, e => by cases e
def cSum : CDen := fun ds S => match ds with
  | [d] => (listOf S d).bind fun es => (intsOf es).map fun ns => (.int ns.sum, S)
  | _ => none
theorem mc_sum : MCall K (rSum K) cSum := by
  intro H ξ ι S S' ds d vs Q st r e k
  unfold cSum at e
  split at e
  · rename_i x
    cases q : listOf S x with
    | none => rw [q] at e; cases e
    | some es =>
      rw [q] at e
      have e : (intsOf es).map (fun ns => (D.int ns.sum, S)) = some (d, S') := e
      cases q2 : intsOf es with
      | none => rw [q2] at e; cases e
      | some ns =>
        rw [q2] at e
        cases e
        obtain ⟨v, rfl, h⟩ := RepL.one' r
        obtain ⟨a, ys, rfl, h2, h3⟩ := listOf_ok st h q
        rw [intsOf_eq q2] at h3
        rw [RepL.ints.mp h3] at h2
        exact ⟨a, ns, rfl, h2, k.here st rfl⟩
  · cases e
/-- lists of truth values -/
def blsOf : List D → Option (List Bool)
  | [] => some []
  | .bl i :: ds => (blsOf ds).map (i :: ·)
  | _ :: _ => none
@[simp] theorem blsOf_map (ns : List Bool) : blsOf (ns.map D.bl) = some ns := by
  induction ns with
  | nil => rfl
  | cons n ns ih =>
    show (blsOf (ns.map D.bl)).map (n :: ·) = some (n :: ns)
    rw [ih]
    rfl
theorem blsOf_rep {H : Hp} {ξ ι : List Addr} : ∀ {ds : List D} {ns : List Bool} {vs : List V}, blsOf ds = some ns → RepL K H ξ ι ds vs → vs = ns.map V.bl
  | [], _, _, e, r => by cases e; exact r
  | .bl i :: ds, ns, vs, e, r => by
    have e : (blsOf ds).map (i :: ·) = some ns := e
    cases q : blsOf ds with
    | none => rw [q] at e; cases e
    | some ms =>
      rw [q] at e
      cases e
      obtain ⟨v, t, rfl, h1, h2⟩ := r
      obtain rfl : v = .bl i := h1
      rw [blsOf_rep q h2]
      rfl
  | .non :: _, _, _, e, _ => by cases e
  | .int _ :: _, _, _, e, _ => by cases e
  | .str _ :: _, _, _, e, _ => by cases e
  | .tup _ :: _, _, _, e, _ => by cases e
  | .fl _ :: _, _, _, e, _ => by cases e
  | .rl _ :: _, _, _, e, _ => by cases e
  | .ref _ :: _, _, _, e, _ => by cases e
def cBls (g : List Bool → Bool) : CDen := fun ds S => match ds with
  | [d] => (listOf S d).bind fun es => (blsOf es).map fun ns => (.bl (g ns), S)
  | _ => none
def cAll : CDen := cBls fun bs => bs.all id
def cAny : CDen := cBls fun bs => bs.any id
theorem mc_bls {g : List Bool → Bool} : MCall K (fun vs H Q => ∃ (a : Addr) (bs : List Bool), vs = [V.ref a] ∧ SqL K H a (bs.map V.bl) ∧ Q (.bl (g bs)) H) (cBls g) := by
  intro H ξ ι S S' ds d vs Q st r e k
  unfold cBls at e
  split at e
  · rename_i x
    cases q : listOf S x with
    | none => rw [q] at e; cases e
    | some es =>
      rw [q] at e
      have e : (blsOf es).map (fun ns => (D.bl (g ns), S)) = some (d, S') := e
      cases q2 : blsOf es with
      | none => rw [q2] at e; cases e
      | some ns =>
        rw [q2] at e
        cases e
        obtain ⟨v, rfl, h⟩ := RepL.one' r
        obtain ⟨a, ys, rfl, h2, h3⟩ := listOf_ok st h q
        rw [blsOf_rep q2 h3] at h2
        exact ⟨a, ns, rfl, h2, k.here st rfl⟩
  · cases e
theorem mc_all : MCall K (rAll K) cAll := mc_bls
theorem mc_any : MCall K (rAny K) cAny := mc_bls
/-- max, min of a list of ints -/
def listMax : List Int → Int
  | [] => 0
  | [x] => x
  | x :: y :: r => max x (listMax (y :: r))
def listMin : List Int → Int
  | [] => 0
  | [x] => x
  | x :: y :: r => min x (listMin (y :: r))
theorem listMax_ge : ∀ (ns : List Int) (y : Int), y ∈ ns → y ≤ listMax ns
  | [x], y, h => by rw [List.mem_singleton.mp h]; exact Int.le_refl _
  | x :: z :: r, y, h => by
    show y ≤ max x (listMax (z :: r))
    rcases List.mem_cons.mp h with rfl | h
    · omega
    · have := listMax_ge (z :: r) y h
      omega
theorem listMax_mem : ∀ (ns : List Int), ns ≠ [] → listMax ns ∈ ns
  | [x], _ => by simp [listMax]
  | x :: z :: r, _ => by
    show max x (listMax (z :: r)) ∈ _
    have := listMax_mem (z :: r) (by simp)
    rcases Int.le_total x (listMax (z :: r)) with q | q
    · rw [Int.max_eq_right q]; exact List.mem_cons_of_mem _ this
    · rw [Int.max_eq_left q]; exact List.mem_cons_self
theorem listMin_le : ∀ (ns : List Int) (y : Int), y ∈ ns → listMin ns ≤ y
  | [x], y, h => by rw [List.mem_singleton.mp h]; exact Int.le_refl _
  | x :: z :: r, y, h => by
    show min x (listMin (z :: r)) ≤ y
    rcases List.mem_cons.mp h with rfl | h
    · omega
    · have := listMin_le (z :: r) y h
      omega
theorem listMin_mem : ∀ (ns : List Int), ns ≠ [] → listMin ns ∈ ns
  | [x], _ => by simp [listMin]
  | x :: z :: r, _ => by
    show min x (listMin (z :: r)) ∈ _
    have := listMin_mem (z :: r) (by simp)
    rcases Int.le_total x (listMin (z :: r)) with q | q
    · rw [Int.min_eq_left q]; exact List.mem_cons_self
    · rw [Int.min_eq_right q]; exact List.mem_cons_of_mem _ this
def cNums (g : List Int → Int) : CDen := fun ds S => match ds with
  | [d] => (listOf S d).bind fun es => (intsOf es).bind fun ns => if ns ≠ [] then some (.int (g ns), S) else none
  | _ => none
def cMax1 : CDen := cNums listMax
def cMin1 : CDen := cNums listMin
theorem cNums_ok {g : List Int → Int} {H : Hp} {ξ ι : List Addr} {S S' : Sto} {ds : List D} {d : D} {vs : List V} (st : StoOk K H ξ ι S) (r : RepL K H ξ ι ds vs) (e : cNums g ds S = some (d, S')) :
    ∃ a ns, vs = [V.ref a] ∧ SqL K H a (ns.map V.int) ∧ ns ≠ [] ∧ d = .int (g ns) ∧ S' = S := by
  unfold cNums at e
  split at e
  · rename_i x
    cases q : listOf S x with
    | none => rw [q] at e; cases e
    | some es =>
      rw [q] at e
      have e : (intsOf es).bind (fun ns => if ns ≠ [] then some (D.int (g ns), S) else none) = some (d, S') := e
      cases q2 : intsOf es with
      | none => rw [q2] at e; cases e
      | some ns =>
        rw [q2] at e
        have e : (if ns ≠ [] then some (D.int (g ns), S) else none) = some (d, S') := e
        split at e
        · rename_i hn
          cases e
          obtain ⟨v, rfl, h⟩ := RepL.one' r
          obtain ⟨a, ys, rfl, h2, h3⟩ := listOf_ok st h q
          rw [intsOf_eq q2] at h3
          rw [RepL.ints.mp h3] at h2
          exact ⟨a, ns, rfl, h2, hn, rfl, rfl⟩
        · cases e
  · cases e
theorem mc_max1 : MCall K (rMax K) cMax1 := by
  intro H ξ ι S S' ds d vs Q st r e k
  obtain ⟨a, ns, rfl, h2, hn, rfl, rfl⟩ := cNums_ok st r e
  refine ⟨a, ns, rfl, h2, List.length_pos_iff.mpr hn, fun m hm hle => ?_⟩
  have : m = listMax ns := Int.le_antisymm (listMax_ge ns m hm) (hle _ (listMax_mem ns hn))
  rw [this]
  exact k.here st rfl
theorem mc_min1 : MCall K (rMin K) cMin1 := by
  intro H ξ ι S S' ds d vs Q st r e k
  obtain ⟨a, ns, rfl, h2, hn, rfl, rfl⟩ := cNums_ok st r e
  refine ⟨a, ns, rfl, h2, List.length_pos_iff.mpr hn, fun m hm hle => ?_⟩
  have : m = listMin ns := Int.le_antisymm (hle _ (listMin_mem ns hn)) (listMin_le ns m hm)
  rw [this]
  exact k.here st rfl
/-- str(n) -/
def cStr : CDen := fun ds S => match ds with
  | [.int i] => if i.natAbs.log2 < 1920 then some (.str (toString i), S) else none
  | _ => none
theorem mc_str : MCall K (fun xs H Q => ∃ i : Int, xs = [.int i] ∧ i.natAbs.log2 < 1920 ∧ Q (.str (toString i)) H) cStr := by
  intro H ξ ι S S' ds d vs Q st r e k
  unfold cStr at e
  split at e
  · rename_i i
    split at e
    · rename_i hz
      cases e
      obtain ⟨v, rfl, h⟩ := RepL.one' r
      obtain rfl : v = .int i := h
      exact ⟨i, rfl, hz, k.here st rfl⟩
    · cases e
  · cases e
/-- isinstance(x, T) -/
def tyOf (S : Sto) : D → String
  | .non => "NoneType"
  | .bl _ => "bool"
  | .int _ => "int"
  | .str _ => "str"
  | .tup _ => "tuple"
  | .fl _ => "list"
  | .rl _ => "list"
  | .ref n => match S[n]? with
    | some (.dct _) => "dict"
    | some (.lck _) => "dict"
    | _ => "list"
def isT (a b : String) : Bool := a == b || (a == "bool" && b == "int")
def dIsi (T : String) (f : EDen) : EDen := fun ρ S => bnd (f ρ S) fun d S => some (.bl (isT (tyOf S d) T), S)
theorem tyOf_ok {H : Hp} {ξ ι : List Addr} {S : Sto} {d : D} {v : V} (st : StoOk K H ξ ι S) (r : RepV K H ξ ι d v) : TyX K H v (.type (tyOf S d)) := by
  cases d with
  | non => cases r; exact .base .non
  | bl _ => cases r; exact .base (.bl _)
  | int _ => cases r; exact .base (.int _)
  | str _ => cases r; exact .base (.str _)
  | tup _ => obtain ⟨a, vs, rfl, h, _⟩ := r; exact .base (.tup h.1)
  | fl _ => obtain ⟨a, vs, rfl, h, _⟩ := r; exact .base (.lst h.1)
  | rl _ =>
    obtain ⟨a, vs, rfl, h, _⟩ := r
    rcases h.sq with (h | ⟨o, h⟩) | ⟨o, its, n, h1, h2, _⟩
    · exact .base (.lst h)
    · exact .base (.frz h)
    · exact .kList h1 h2
  | ref n =>
    obtain ⟨a, rfl, h⟩ := r
    have hn : n < S.length := by
      rw [← st.len]
      exact (List.getElem?_eq_some_iff.mp h).1
    obtain ⟨b, h3, h4⟩ := st.cell n S[n] (List.getElem?_eq_getElem hn)
    obtain rfl : b = a := Option.some.inj (h3.symm.trans h)
    show TyX K H (V.ref b) (Value.type (match S[n]? with
      | some (.dct _) => "dict"
      | some (.lck _) => "dict"
      | _ => "list"))
    rw [List.getElem?_eq_getElem hn]
    cases q : S[n] with
    | lst ds =>
      rw [q] at h4
      obtain ⟨vs, h5, _⟩ := h4
      exact .base (.lst h5)
    | dct kvs =>
      rw [q] at h4
      obtain ⟨ws, h5, _⟩ := h4
      exact .base (.dK h5)
    | lck kvs =>
      rw [q] at h4
      obtain ⟨ws, o, h5, _⟩ := h4
      exact .fDict h5
theorem tyOf_in (S : Sto) (d : D) : tyOf S d ∈ ["NoneType", "bool", "int", "str", "tuple", "list", "dict"] := by
  cases d <;> simp [tyOf]
  split <;> simp
theorem me_isi {e : Expr} {f : EDen} {p p2 pos : Pos} {x2 : Str} {T : String} (hT : T ∈ ["bool", "int", "str", "tuple", "list", "dict"]) (hg : Gl X "isinstance") (hm : X.mg "isinstance" = none) (hg2 : Gl X x2) (hm2 : X.mg x2 = none) (hv2 : bootBuiltins x2 = some (.type T)) (he : ME X e f)
    (hx2 : x2 ≠ "__name__" := by decide) (hdb2 : (x2 == ("__debug__" : Str)) = false := by decide)
    (hs1 : starEach [e, .Name x2 p2] X.env = (false, eval e X.env) :: starEach [.Name x2 p2] X.env := by rfl) (hs2 : starEach [.Name x2 p2] X.env = (false, eval (.Name x2 p2) X.env) :: starEach [] X.env := by rfl) (hpl : (backTo pos (starEach [.Name x2 p2] X.env)).any (·.1) = false := by rfl) :
    ME X (.Call (.Name "isinstance" p) [e, .Name x2 p2] [] pos) (dIsi T f) :=
  (pe_callB call_isi hg hm (by decide +kernel) (pa_cons he (pa_cons (pe_bltn (v := .ty T) hg2 hm2 hv2 rfl hx2 hdb2) pa_nil hs2) hs1) (by decide) (by decide) hs1 hpl).weak fun σ H Q ⟨ξ, ι, ρ, S, d, S', st, re, e, k⟩ => by
    obtain ⟨x, S1, e1, e⟩ := bnd_some e
    cases e
    refine tE.run st re e1 fun v1 H1 ι1 s1 st1 r1 => ⟨v1, .ty T, .type (tyOf S' x), .type T, isT (tyOf S' x) T, rfl, .ty T, tyOf_ok st1 r1, kit_ty ?_, k _ H1 ι1 s1 st1 rfl⟩
    have all : ∀ a ∈ ["NoneType", "bool", "int", "str", "tuple", "list", "dict"], ∀ b ∈ ["bool", "int", "str", "tuple", "list", "dict"], kitB a b = some (isT a b) := by decide +kernel
    exact all _ (tyOf_in S' x) T hT
end
end MS

namespace MS
open PySem PySem.Spec PyProof.Rows L2

/-! ### defs called where no repr runs around -/
structure RoomG (k : Nat) (A : Around) : Prop where
  room : Room k A
  gd : A.guards = some []
theorem RoomG.mono {j k : Nat} {A : Around} (r : RoomG k A) (h : j ≤ k) : RoomG j A := ⟨r.room.mono h, r.gd⟩
theorem RoomG.u64 {k : Nat} {A : Around} (r : RoomG k A) : A.units + 64 < cLine := r.room.units
theorem RoomG.u1 {k : Nat} {A : Around} (r : RoomG k A) : A.units + 1 < cLine := hu_of r.room
structure FnG (P : Program) (w : World) (K : Frag) (mg : Str → Option Value) (base : Heap) (CX : CXT) (k : Nat) (f : Addr) (fd : FuncData) (ps : List Str) (sp : Sp) : Prop where
  len : ∀ vs H Q E, sp vs H Q E → vs.length = ps.length
  run : ∀ (A : Around) (outer : List PySem.Env) (s : Shared) (H : Hp) (args : Args) (us : List Value) (vs : List V) (Q : VK) (E : XK), RoomG k A → Env0 P w K mg base A outer s H → BindsTo s fd args (ps.zip us) →
    Vals vs us → sp vs H Q E → codeAny (model P w) A (.call (.ref f) args) (CR CX outer P w H s Q E) s
theorem FnG.mono {P : Program} {w : World} {K : Frag} {mg : Str → Option Value} {base : Heap} {CX : CXT} {j k : Nat} {f : Addr} {fd : FuncData} {ps : List Str} {sp : Sp} (F : FnG P w K mg base CX j f fd ps sp) (h : j ≤ k) : FnG P w K mg base CX k f fd ps sp :=
  ⟨F.len, fun A outer s H args us vs Q E hr => F.run A outer s H args us vs Q E (hr.mono h)⟩
/-- a def by its body -/
theorem fnG_of {CX : CXT} {P : Program} {w : World} {K : Frag} {mg : Str → Option Value} {base : Heap} {k : Nat} {f : Addr} {fd : FuncData} {x qual : Str} {params : Arguments} {body : List Stmt} {scope : Scope} {dvs : List V} {kws : List (Str × V)} {N ps : List Str} {sp : Sp}
    (F : FunD K x qual params body scope dvs kws f fd) (S : FnScope N ps scope) (len : ∀ vs H Q E, sp vs H Q E → vs.length = ps.length)
    (hbody : ∀ (cdv : Value) (A : Around) (outer : List PySem.Env) (s : Shared) (H : Hp) (vs : List V) (Q : VK) (E : XK), RoomG k (A.deeper (envOfC qual scope s.heap.objs.size f cdv)) → sp vs H Q E →
      ∃ t, PSs (cxOf CX P w K mg base N qual scope f cdv A outer s H E) body t ∧ t { nx := fun _ H' => Q .non H', rt := Q } (start N vs) H) : FnG P w K mg base CX (k + 1) f fd ps sp := by
  obtain ⟨oc, od, dV, kV, doc, pm, an, cdv, ct, osl, rfl, lk, hcd, _, _⟩ := F.ex
  refine ⟨len, fun A outer s H args us vs Q E hr e0 hb r hsp => ?_⟩
  have lenv := len _ _ _ _ hsp
  have Kin : K.In s.heap := e0.mod.kin.keeps fun b o e => (e0.bs b o e).1
  have nolim : s.heap.NoLimit := e0.mod.nolimit.keeps fun b o e => (e0.bs b o e).1
  have places : ∀ y ∈ ps.zip us, scope.names.lookup y.1 = some .local ∨ (scope.names.lookup y.1 = some .cell ∧ ((cellsFrom (s.heap.objs.size + 1) scope.names []).lookup y.1).isSome = true) := by
    rintro ⟨n, v⟩ hy
    exact (S.par n (List.of_mem_zip hy).1).imp id fun q => ⟨q, PySem.W.cellsFrom_some _ _ _ (.inl q)⟩
  refine codeAny_call_function hr.room.depth (Kin _ _ lk) rfl S.co S.gen rfl (PySem.W.codeRec_of Kin hcd) (hb _ _ _ _ (wpAny_newFunctionEnv_cells S.kind places fun env he s1 sx => ?_))
  subst he
  refine ⟨nolim.keeps sx.toInCall.keep, codeAny_func ?_⟩
  obtain ⟨t, ht, hq⟩ := hbody cdv A outer s H vs Q E ⟨hr.room.deeper _, hr.gd⟩ hsp
  refine wpAny_mono (ht.run [] s1 (start N vs) H _ (inv_start S hr.room.hd e0 lenv r sx) hq) (fun fl s' hs => ?_) fun e s' hs => hs
  match fl, hs with
  | .ret u, ⟨v, σ', H', J, rv, q⟩ => exact ⟨v, H', J.os, J.bare, J.base, J.hok, rv, q⟩
  | .next, ⟨σ', H', J, q⟩ => exact ⟨.non, H', J.os, J.bare, J.base, J.hok, rfl, q⟩
  | .brk, ⟨_, _, _, q⟩ => exact q.elim
  | .cont, ⟨_, _, _, q⟩ => exact q.elim
/-- a def that is called by its name -/
structure Cal (P : Program) (w : World) (K : Frag) (mg : Str → Option Value) (base : Heap) (k : Nat) (x : Str) (sp : Sp) : Prop where
  ex : ∃ (f : Addr) (fd : FuncData) (ps : List Str), FnG P w K mg base CX0 k f fd ps sp ∧ mg x = some (.ref f) ∧ PySem.W.keepIn K (.ref f) = true ∧ Binds K fd ps []
section
variable {X : Cx} {k j : Nat} {x : Str} {p pos : Pos} {sp : Sp} {e : Expr} {es : List Expr} {t : TA}
theorem runG {pins : List (Addr × Obj)} {σ : L2.St} {H : Hp} {s : Shared} {Q : VK} {us : List Value} {vs : List V} {f : Addr} {fd : FuncData} {ps : List Str} (F : FnG X.prog X.w X.K X.mg X.base CX0 k f fd ps sp) (hr : RoomG k X.A) (hb : Binds X.K fd ps [])
    (I : Inv X pins σ H s) (r : Vals vs us) (h : sp vs H Q E0) : wpAny (model X.prog X.w) X.A (call (.ref f) us) (EP X pins σ Q) X.xe s := by
  have hl : (us ++ ([] : List Value)).length = ps.length := by rw [List.append_nil, ← r.length]; exact F.len _ _ _ _ h
  have B := hb s us I.kIn hl
  rw [List.append_nil] at B
  refine wpAny_call (codeAny_mono (F.run X.A X.stack s H ⟨us, []⟩ us vs Q E0 hr I.env0 B r h) fun r s' hq => ?_)
  match r, hq with
  | .error _, hq => exact False.elim hq
  | .ok (.ret u), hq => exact I.after hq
  | .ok .next, hq => exact False.elim hq
  | .ok .brk, hq => exact False.elim hq
  | .ok .cont, hq => exact False.elim hq
theorem pe_cal (c : Cal X.prog X.w X.K X.mg X.base k x sp) (hr : RoomG j X.A) (hk : k ≤ j) (hg : Gl X x) (ha : PA X (e :: es) t)
    (hdb : (x == ("__debug__" : Str)) = false := by decide) (he : starEach (e :: es) X.env = (false, eval e X.env) :: starEach es X.env := by rfl) (hpl : (backTo pos (starEach es X.env)).any (·.1) = false := by rfl) :
    PE X (.Call (.Name x p) (e :: es) [] pos) (fun σ H Q => t σ H fun vs H1 => sp vs H1 Q E0) := by
  obtain ⟨f, fd, ps, F, hm, kp, b⟩ := c.ex
  refine ⟨fun pins s σ H Q I h => wpAny_Call_Name_kw (ld_glob I hg hm ?_ hdb)⟩
  exact PySem.W.callWith_K (h₀ := X.base) I.ok.mod.kin kp (thn (ha.run pos pins s σ H _ I h) fun us s1 ⟨vs, H1, I1, r, q⟩ => ⟨I1.kIn, runG F (hr.mono hk) b I1 r q⟩) he hpl
end

/-! ### what a def is worth: a function of values; one of values and the store -/
abbrev FP := List D → Option D
abbrev FM := List D → Sto → Option (D × Sto)
def spP (K : Frag) (F : FP) : Sp := fun vs H Q _ => ∃ ξ ds d, (∀ a ∈ ξ, H a ≠ none) ∧ RepL K H ξ [] ds vs ∧ F ds = some d ∧ ∀ v H', Step H [] H' [] → RepV K H' ξ [] d v → Q v H'
def spM (K : Frag) (F : FM) : Sp := fun vs H Q _ => ∃ ξ ι S ds d S', StoOk K H ξ ι S ∧ RepL K H ξ ι ds vs ∧ F ds S = some (d, S') ∧ Ans K ξ ι H S' d Q
def dCalP (F : FP) (f : ADen) : EDen := fun ρ S => bnd (f ρ S) fun ds S => if D.pureL ds then (F ds).map fun d => (d, S) else none
def dCalM (F : FM) (f : ADen) : EDen := fun ρ S => bnd (f ρ S) F
section
variable {X : Cx} {k j : Nat} {x : Str} {p pos : Pos} {e : Expr} {es : List Expr} {f : ADen}
theorem pure_call {K : Frag} {F : FP} {H : Hp} {ξ ι : List Addr} {S : Sto} {ds : List D} {d : D} {vs : List V} {Q : VK} (st : StoOk K H ξ ι S) (r : RepL K H ξ ι ds vs) (hp : D.pureL ds = true) (e : F ds = some d) (k : Ans K ξ ι H S d Q) : spP K F vs H Q E0 := by
  have live : ∀ a ∈ ξ ++ ι, H a ≠ none := fun a ha => (List.mem_append.mp ha).elim (fun h => st.live a h) fun h => st.ne h
  have m : Mv H ξ ι 0 H (ξ ++ ι) [] := ⟨fun a o h h1 h2 => ⟨h, fun z => (List.mem_append.mp z).elim h1 h2, by simp⟩, fun m a h => absurd h (Nat.not_lt_zero _)⟩
  refine ⟨ξ ++ ι, ds, d, live, RepL.mv m hp r, e, fun v H' s rv => ?_⟩
  have hk : ∀ a o, H a = some o → H' a = some o := fun a o h => (s.keep a o h (by simp)).1
  have pd : D.fit 0 d = true := rv.fit
  have m2 : Mv H' (ξ ++ ι) [] 0 H' ξ ι := ⟨fun a o h h1 _ => ⟨h, fun z => h1 (List.mem_append.mpr (.inl z)), fun z => h1 (List.mem_append.mpr (.inr z))⟩, fun m a h => absurd h (Nat.not_lt_zero _)⟩
  exact k v H' ι ⟨⟨[], (List.append_nil _).symm⟩, fun a o h n => ⟨hk a o h, n⟩, fun a o u h => hk a _ h⟩ (st.beside hk) (RepV.mv m2 pd rv)
theorem me_calP {F : FP} (c : Cal X.prog X.w X.K X.mg X.base k x (spP X.K F)) (hr : RoomG j X.A) (hk : k ≤ j) (hg : Gl X x) (ha : MA X (e :: es) f)
    (hdb : (x == ("__debug__" : Str)) = false := by decide) (he : starEach (e :: es) X.env = (false, eval e X.env) :: starEach es X.env := by rfl) (hpl : (backTo pos (starEach es X.env)).any (·.1) = false := by rfl) :
    ME X (.Call (.Name x p) (e :: es) [] pos) (dCalP F f) := (pe_cal c hr hk hg ha hdb he hpl).weak fun σ H Q ⟨ξ, ι, ρ, S, d, S', st, re, e, k⟩ => by
  obtain ⟨ds, S1, e1, e⟩ := bnd_some e
  split at e
  · rename_i hp
    cases q : F ds with
    | none => rw [q] at e; cases e
    | some d' =>
      rw [q] at e
      cases e
      exact tA.run st re e1 fun vs H1 ι1 s1 st1 r1 => pure_call st1 r1 hp q (k.next s1)
  · cases e
theorem me_calM {F : FM} (c : Cal X.prog X.w X.K X.mg X.base k x (spM X.K F)) (hr : RoomG j X.A) (hk : k ≤ j) (hg : Gl X x) (ha : MA X (e :: es) f)
    (hdb : (x == ("__debug__" : Str)) = false := by decide) (he : starEach (e :: es) X.env = (false, eval e X.env) :: starEach es X.env := by rfl) (hpl : (backTo pos (starEach es X.env)).any (·.1) = false := by rfl) :
    ME X (.Call (.Name x p) (e :: es) [] pos) (dCalM F f) := (pe_cal c hr hk hg ha hdb he hpl).weak fun σ H Q ⟨ξ, ι, ρ, S, d, S', st, re, e, k⟩ => by
  obtain ⟨ds, S1, e1, e⟩ := bnd_some e
  exact tA.run st re e1 fun vs H1 ι1 s1 st1 r1 => ⟨ξ, ι1, S1, ds, d, S', st1, r1, e, k.next s1⟩
end

/-! ### statements -/
inductive Out where
  | nx | bk | ct | rt (d : D)
abbrev SDen := Env → Sto → Option (Out × Env × Sto)
def AnsS (K : Frag) (ξ ι : List Addr) (H : Hp) (o : Out) (ρ' : Env) (S' : Sto) (T : Ends) : Prop := match o with
  | .nx => ∀ σ' H' ι', Step H ι H' ι' → StoOk K H' ξ ι' S' → RepE K H' ξ ι' ρ' σ' → T.nx σ' H'
  | .bk => ∀ σ' H' ι', Step H ι H' ι' → StoOk K H' ξ ι' S' → RepE K H' ξ ι' ρ' σ' → T.bk σ' H'
  | .ct => ∀ σ' H' ι', Step H ι H' ι' → StoOk K H' ξ ι' S' → RepE K H' ξ ι' ρ' σ' → T.ct σ' H'
  | .rt d => Ans K ξ ι H S' d T.rt
theorem AnsS.next {K : Frag} {ξ ι ι' : List Addr} {H H' : Hp} {o : Out} {ρ' : Env} {S' : Sto} {T : Ends} (h : AnsS K ξ ι H o ρ' S' T) (s : Step H ι H' ι') : AnsS K ξ ι' H' o ρ' S' T := by
  cases o with
  | nx => exact fun σ2 H2 ι2 s2 => h σ2 H2 ι2 (s.trans s2)
  | bk => exact fun σ2 H2 ι2 s2 => h σ2 H2 ι2 (s.trans s2)
  | ct => exact fun σ2 H2 ι2 s2 => h σ2 H2 ι2 (s.trans s2)
  | rt d => exact Ans.next (S := S') h s
def tS (K : Frag) (f : SDen) : TS := fun T σ H => ∃ ξ ι ρ S o ρ' S', StoOk K H ξ ι S ∧ RepE K H ξ ι ρ σ ∧ f ρ S = some (o, ρ', S') ∧ AnsS K ξ ι H o ρ' S' T
abbrev MS (X : Cx) (st : Stmt) (f : SDen) : Prop := PS X st (tS X.K f)
abbrev MSs (X : Cx) (sts : List Stmt) (f : SDen) : Prop := PSs X sts (tS X.K f)
theorem _root_.L2.PS.weak {X : Cx} {st : Stmt} {t t' : TS} (h : PS X st t) (w : ∀ T σ H, t' T σ H → t T σ H) : PS X st t' := ⟨fun pins s σ H T I q => h.run pins s σ H T I (w T σ H q)⟩
theorem _root_.L2.PSs.weak {X : Cx} {st : List Stmt} {t t' : TS} (h : PSs X st t) (w : ∀ T σ H, t' T σ H → t T σ H) : PSs X st t' := ⟨fun pins s σ H T I q => h.run pins s σ H T I (w T σ H q)⟩
theorem tS.run {K : Frag} {H : Hp} {ξ ι : List Addr} {S S' : Sto} {ρ ρ' : Env} {σ : L2.St} {f : SDen} {o : Out} {T : Ends} (st : StoOk K H ξ ι S) (re : RepE K H ξ ι ρ σ) (e : f ρ S = some (o, ρ', S')) (k : AnsS K ξ ι H o ρ' S' T) : tS K f T σ H := ⟨ξ, ι, ρ, S, o, ρ', S', st, re, e, k⟩
def sNil : SDen := fun ρ S => some (.nx, ρ, S)
def sSeq (f g : SDen) : SDen := fun ρ S => match f ρ S with
  | some (.nx, ρ', S') => g ρ' S'
  | r => r
section
variable {X : Cx} {pos : Pos} {st : Stmt} {rest : List Stmt} {f g : SDen}
theorem mss_nil : MSs X [] sNil := pss_nil.weak fun T σ H ⟨ξ, ι, ρ, S, o, ρ', S', st, re, e, k⟩ => by
  cases e
  exact k σ H ι Step.refl st re
theorem mss_cons (h1 : MS X st f) (h2 : MSs X rest g) : MSs X (st :: rest) (sSeq f g) := (pss_cons h1 h2).weak fun T σ H ⟨ξ, ι, ρ, S, o, ρ', S', st, re, e, k⟩ => by
  unfold sSeq at e
  split at e
  · rename_i ρ1 S1 e1
    exact tS.run st re e1 fun σ1 H1 ι1 s1 st1 re1 => tS.run st1 re1 e (k.next s1)
  · rename_i h
    refine tS.run (o := o) st re e ?_
    cases o with
    | nx => exact absurd e (fun z => h ρ' S' (z ▸ rfl))
    | bk => exact k
    | ct => exact k
    | rt d => exact k
theorem mss_one (h1 : MS X st f) : MSs X [st] f := pss_one h1
def sPass : SDen := sNil
theorem ms_pass : MS X (.Pass pos) sPass := ps_pass.weak fun T σ H ⟨ξ, ι, ρ, S, o, ρ', S', st, re, e, k⟩ => by
  cases e
  exact k σ H ι Step.refl st re
def sBrk : SDen := fun ρ S => some (.bk, ρ, S)
def sCnt : SDen := fun ρ S => some (.ct, ρ, S)
theorem ms_break : MS X (.Break pos) sBrk := ps_break.weak fun T σ H ⟨ξ, ι, ρ, S, o, ρ', S', st, re, e, k⟩ => by
  cases e
  exact k σ H ι Step.refl st re
theorem ms_continue : MS X (.Continue pos) sCnt := ps_continue.weak fun T σ H ⟨ξ, ι, ρ, S, o, ρ', S', st, re, e, k⟩ => by
  cases e
  exact k σ H ι Step.refl st re
/-- a statement that is not reached -/
def sNever : SDen := fun _ _ => none
theorem ms_never : MS X st sNever := ps_never.weak fun T σ H ⟨ξ, ι, ρ, S, o, ρ', S', st, re, e, k⟩ => by cases e
variable {e : Expr} {fe : EDen}
def sExpr (fe : EDen) : SDen := fun ρ S => bnd (fe ρ S) fun _ S => some (.nx, ρ, S)
theorem ms_expr (he : ME X e fe) (hs : swapsWith e none pos.line X.env = pure false := by rfl) : MS X (.Expr e pos) (sExpr fe) := (ps_expr he hs).weak fun T σ H ⟨ξ, ι, ρ, S, o, ρ', S', st, re, e, k⟩ => by
  obtain ⟨d, S1, e1, e⟩ := bnd_some e
  cases e
  exact tE.run st re e1 fun v1 H1 ι1 s1 st1 r1 => k σ H1 ι1 s1 st1 (s1.env re)
def sRet (fe : EDen) : SDen := fun ρ S => bnd (fe ρ S) fun d S => some (.rt d, ρ, S)
theorem ms_ret (he : ME X e fe) : MS X (.Return (some e) pos) (sRet fe) := (ps_ret he).weak fun T σ H ⟨ξ, ι, ρ, S, o, ρ', S', st, re, e, k⟩ => by
  obtain ⟨d, S1, e1, e⟩ := bnd_some e
  cases e
  exact tE.run st re e1 k
def sRetN : SDen := fun ρ S => some (.rt .non, ρ, S)
theorem ms_retN : MS X (.Return none pos) sRetN := ps_retN.weak fun T σ H ⟨ξ, ι, ρ, S, o, ρ', S', st, re, e, k⟩ => by
  cases e
  exact Ans.here (d := .non) k st rfl
def sIf (fc : TDen) (f g : SDen) : SDen := fun ρ S => bnd (fc ρ S) fun b S => if b = true then f ρ S else g ρ S
theorem ms_if {c : Expr} {a b : List Stmt} {fc : TDen} (hc : MT X c fc) (ha : MSs X a f) (hb : MSs X b g) : MS X (.If c a b pos) (sIf fc f g) := (ps_if hc ha hb).weak fun T σ H ⟨ξ, ι, ρ, S, o, ρ', S', st, re, e, k⟩ => by
  obtain ⟨d, S1, e1, e⟩ := bnd_some e
  refine tB.run st re e1 fun H1 ι1 s1 st1 => ?_
  cases d with
  | true => exact iteT (tS.run st1 (s1.env re) e (k.next s1))
  | false => exact iteF (tS.run st1 (s1.env re) e (k.next s1))
end

/-! ### stores -/
abbrev GDen := D → Env → Sto → Option (Env × Sto)
def AnsG (K : Frag) (ξ ι : List Addr) (H : Hp) (ρ' : Env) (S' : Sto) (Q : L2.St → Hp → Prop) : Prop := ∀ σ' H' ι', Step H ι H' ι' → StoOk K H' ξ ι' S' → RepE K H' ξ ι' ρ' σ' → Q σ' H'
theorem AnsG.next {K : Frag} {ξ ι ι' : List Addr} {H H' : Hp} {ρ' : Env} {S' : Sto} {Q : L2.St → Hp → Prop} (h : AnsG K ξ ι H ρ' S' Q) (s : Step H ι H' ι') : AnsG K ξ ι' H' ρ' S' Q := fun σ2 H2 ι2 s2 => h σ2 H2 ι2 (s.trans s2)
def tG (K : Frag) (g : GDen) : TG := fun v σ H Q => ∃ ξ ι ρ S d ρ' S', StoOk K H ξ ι S ∧ RepE K H ξ ι ρ σ ∧ RepV K H ξ ι d v ∧ g d ρ S = some (ρ', S') ∧ AnsG K ξ ι H ρ' S' Q
abbrev MG (X : Cx) (e : Expr) (g : GDen) : Prop := PG X e (tG X.K g)
abbrev GsDen := List D → Env → Sto → Option (Env × Sto)
def tGs (K : Frag) (g : GsDen) : TGs := fun vs σ H Q => ∃ ξ ι ρ S ds ρ' S', StoOk K H ξ ι S ∧ RepE K H ξ ι ρ σ ∧ RepL K H ξ ι ds vs ∧ g ds ρ S = some (ρ', S') ∧ AnsG K ξ ι H ρ' S' Q
abbrev MGs (X : Cx) (es : List Expr) (g : GsDen) : Prop := PGs X es (tGs X.K g)
theorem _root_.L2.PG.weak {X : Cx} {e : Expr} {t t' : TG} (h : PG X e t) (w : ∀ v σ H Q, t' v σ H Q → t v σ H Q) : PG X e t' := ⟨fun pins s σ H v u Q I r q => h.run pins s σ H v u Q I r (w v σ H Q q)⟩
theorem _root_.L2.PGs.weak {X : Cx} {e : List Expr} {t t' : TGs} (h : PGs X e t) (w : ∀ v σ H Q, t' v σ H Q → t v σ H Q) : PGs X e t' := ⟨fun pins s σ H v u Q I r q => h.run pins s σ H v u Q I r (w v σ H Q q)⟩
def gN (i : Nat) : GDen := fun d ρ S => some (ρ.set i (some d), S)
def gsNil : GsDen := fun ds ρ S => match ds with
  | [] => some (ρ, S)
  | _ => none
def gsCons (g : GDen) (gs : GsDen) : GsDen := fun ds ρ S => match ds with
  | d :: r => (g d ρ S).bind fun p => gs r p.1 p.2
  | _ => none
def gT (n : Nat) (gs : GsDen) : GDen := fun d ρ S => match d with
  | .tup ds => if ds.length = n then gs ds ρ S else none
  | _ => none
section
variable {X : Cx} {pos : Pos}
theorem mg_name {i : Nat} {x : Str} (hN : X.N.Nodup) (hi : X.N[i]? = some x) (hx : Loc X.env.scope x := by first | exact .inl rfl | exact .inr rfl) (hf : X.fn x = true ∨ X.env.scope.names.lookup x = some .local := by first | exact .inl rfl | exact .inr rfl | assumption) : MG X (.Name x pos) (gN i) :=
  (pg_name hN hi hx hf).weak fun v σ H Q ⟨ξ, ι, ρ, S, d, ρ', S', st, re, r, e, k⟩ => by
    cases e
    exact k _ H ι Step.refl st (re.set r)
theorem mgs_nil : MGs X [] gsNil := pgs_nil.weak fun v σ H Q ⟨ξ, ι, ρ, S, ds, ρ', S', st, re, r, e, k⟩ => by
  cases ds with
  | nil =>
    cases e
    exact ⟨r, k σ H ι Step.refl st re⟩
  | cons _ _ => cases e
theorem mgs_cons {e : Expr} {es : List Expr} {g : GDen} {gs : GsDen} (h1 : MG X e g) (h2 : MGs X es gs) (hs : (assignEach (e :: es) X.env).map (·.2) = assign e X.env :: (assignEach es X.env).map (·.2) := by rfl) : MGs X (e :: es) (gsCons g gs) :=
  (pgs_cons h1 h2 hs).weak fun v σ H Q ⟨ξ, ι, ρ, S, ds, ρ', S', st, re, r, e, k⟩ => by
    cases ds with
    | nil => cases e
    | cons d t =>
      have e : (g d ρ S).bind (fun p => gs t p.1 p.2) = some (ρ', S') := e
      cases q : g d ρ S with
      | none => rw [q] at e; cases e
      | some p =>
        rw [q] at e
        obtain ⟨v1, r1, rfl, hv, hr⟩ := r
        exact ⟨v1, r1, rfl, ξ, ι, ρ, S, d, p.1, p.2, st, re, hv, q, fun σ1 H1 ι1 s1 st1 re1 => ⟨ξ, ι1, p.1, p.2, t, ρ', S', st1, re1, s1.vals hr, e, k.next s1⟩⟩
theorem mg_tup {es : List Expr} {k : Nat} {gs : GsDen} {n : Nat} (hc : X.calm = true) (h : MGs X es gs) (hn : (assignEach es X.env).length = n := by rfl) (hst : (assignEach es X.env).findIdx? (·.1) = none := by rfl) : MG X (.Tuple es k pos) (gT n gs) :=
  (pg_tup hc h hn hst).weak fun v σ H Q ⟨ξ, ι, ρ, S, d, ρ', S', st, re, r, e, k⟩ => by
    cases d with
    | tup ds =>
      have e : (if ds.length = n then gs ds ρ S else none) = some (ρ', S') := e
      split at e
      · rename_i hl
        obtain ⟨a, vs, rfl, h2, h3⟩ := r
        exact ⟨a, vs, rfl, h2.sq, by rw [h3.length]; exact hl, ξ, ι, ρ, S, ds, ρ', S', st, re, h3, e, k⟩
      · cases e
    | _ => cases e
def sAsg (fe : EDen) (g : GDen) : SDen := fun ρ S => bnd (fe ρ S) fun d S => (g d ρ S).map fun p => (.nx, p.1, p.2)
theorem asg_ok {K : Frag} {fe : EDen} {g : GDen} {T : Ends} {σ : L2.St} {H : Hp} (h : tS K (sAsg fe g) T σ H) : tAsg (tE K fe) (tG K g) T σ H := by
  obtain ⟨ξ, ι, ρ, S, o, ρ', S', st, re, e, k⟩ := h
  obtain ⟨d, S1, e1, e⟩ := bnd_some e
  cases q : g d ρ S1 with
  | none => rw [q] at e; cases e
  | some p =>
    rw [q] at e
    cases e
    exact tE.run st re e1 fun v1 H1 ι1 s1 st1 r1 => ⟨ξ, ι1, ρ, S1, d, p.1, p.2, st1, s1.env re, r1, q, AnsS.next (o := .nx) k s1⟩
theorem ms_asg {tg e : Expr} {fe : EDen} {g : GDen} (he : ME X e fe) (hg : MG X tg g) (hs : swapsWithSole [tg] e pos.line X.env = pure false := by rfl) (hw : swappedStores [tg] e X.env = pure none := by rfl)
    (h1 : (assignEach [tg] X.env).map (·.2) = [assign tg X.env] := by rfl) : MS X (.Assign [tg] e pos) (sAsg fe g) := (ps_asg he hg hs hw h1).weak fun T σ H h => asg_ok h
theorem ms_set {i : Nat} {x : Str} {e : Expr} {fe : EDen} {pos' : Pos} (hN : X.N.Nodup) (hi : X.N[i]? = some x) (he : ME X e fe) (hx : Loc X.env.scope x := by first | exact .inl rfl | exact .inr rfl) (hs : swapsWith e (some (.Name x pos')) pos.line X.env = pure false := by rfl) (hf : X.fn x = true ∨ X.env.scope.names.lookup x = some .local := by first | exact .inl rfl | exact .inr rfl | assumption) :
    MS X (.Assign [.Name x pos'] e pos) (sAsg fe (gN i)) := (ps_set hN hi hx he hs hf).weak fun T σ H ⟨ξ, ι, ρ, S, o, ρ', S', st, re, e, k⟩ => by
  obtain ⟨d, S1, e1, e⟩ := bnd_some e
  cases e
  exact tE.run st re e1 fun v1 H1 ι1 s1 st1 r1 => k _ H1 ι1 s1 st1 ((s1.env re).set r1)
/-- a, b = x, y; a, b, c = x, y, z: plain local names -/
def sPar (is : List Nat) (fa : ADen) : SDen := fun ρ S => bnd (fa ρ S) fun ds S => if ds.length = is.length then some (.nx, (is.zip ds).foldl (fun ρ p => ρ.set p.1 (some p.2)) ρ, S) else none
theorem ms_par {i j : Nat} {x y : Str} {a b : Expr} {fa : ADen} {px py pt : Pos} {kt k2 : Nat} {pt2 : Pos} (hc : X.calm = true) (hN : X.N.Nodup) (hi : X.N[i]? = some x) (hj : X.N[j]? = some y) (ha : MA X [a, b] fa) (hij : i ≠ j := by decide)
    (hx : X.env.scope.names.lookup x = some .local := by rfl) (hy : X.env.scope.names.lookup y = some .local := by rfl)
    (hw : swappedStores [.Tuple [.Name x px, .Name y py] kt pt] (.Tuple [a, b] k2 pt2) X.env = pure (some [x, y]) := by rfl)
    (hs : swapsWithSole [.Tuple [.Name x px, .Name y py] kt pt] (.Tuple [a, b] k2 pt2) pos.line X.env = pure false := by rfl) :
    MS X (.Assign [.Tuple [.Name x px, .Name y py] kt pt] (.Tuple [a, b] k2 pt2) pos) (sPar [i, j] fa) := (ps_par hc hN hi hj hij hx hy ha hw hs).weak fun T σ H ⟨ξ, ι, ρ, S, o, ρ', S', st, re, e, k⟩ => by
  obtain ⟨ds, S1, e1, e⟩ := bnd_some e
  split at e
  · rename_i hl
    cases e
    match ds, hl, e1, k with
    | [d1, d2], _, e1, k =>
      refine tA.run st re e1 fun vs H1 ι1 s1 st1 r1 => ?_
      obtain ⟨v, w, rfl, h1, h2⟩ := RepL.two' r1
      exact ⟨v, w, rfl, k _ H1 ι1 s1 st1 (((s1.env re).set h1).set h2)⟩
  · cases e
theorem ms_par3 {i j l : Nat} {x y z : Str} {a b c : Expr} {fa : ADen} {px py pz pt pos : Pos} {kt k2 : Nat} {pt2 : Pos} (hc : X.calm = true) (hN : X.N.Nodup) (hi : X.N[i]? = some x) (hj : X.N[j]? = some y) (hl : X.N[l]? = some z) (ha : MA X [a, b, c] fa)
    (hij : i ≠ j := by decide) (hil : i ≠ l := by decide) (hjl : j ≠ l := by decide)
    (hx : X.env.scope.names.lookup x = some .local := by rfl) (hy : X.env.scope.names.lookup y = some .local := by rfl) (hz : X.env.scope.names.lookup z = some .local := by rfl)
    (hw : swappedStores [.Tuple [.Name x px, .Name y py, .Name z pz] kt pt] (.Tuple [a, b, c] k2 pt2) X.env = pure (some [x, y, z]) := by rfl)
    (hs : swapsWithSole [.Tuple [.Name x px, .Name y py, .Name z pz] kt pt] (.Tuple [a, b, c] k2 pt2) pos.line X.env = pure false := by rfl) :
    MS X (.Assign [.Tuple [.Name x px, .Name y py, .Name z pz] kt pt] (.Tuple [a, b, c] k2 pt2) pos) (sPar [i, j, l] fa) := (ps_par3 hc hN hi hj hl hij hil hjl hx hy hz ha hw hs).weak fun T σ H ⟨ξ, ι, ρ, S, o, ρ', S', st, re, e, k⟩ => by
  obtain ⟨ds, S1, e1, e⟩ := bnd_some e
  split at e
  · rename_i hl
    cases e
    match ds, hl, e1, k with
    | [d1, d2, d3], _, e1, k =>
      refine tA.run st re e1 fun vs H1 ι1 s1 st1 r1 => ?_
      obtain ⟨u, t, rfl, h1, hr⟩ := r1
      obtain ⟨v, w, rfl, h2, h3⟩ := RepL.two' hr
      exact ⟨u, v, w, rfl, k _ H1 ι1 s1 st1 ((((s1.env re).set h1).set h2).set h3)⟩
  · cases e
/-- o[i] = e -/
def MSet (K : Frag) (t : TSet) (g : D → D → D → Sto → Option Sto) : Prop := ∀ (H : Hp) (ξ ι : List Addr) (S S' : Sto) (o i d : D) (ov iv v : V) (Q : Hp → Prop), StoOk K H ξ ι S → RepV K H ξ ι o ov → RepV K H ξ ι i iv → RepV K H ξ ι d v → g o i d S = some S' → AnsT K ξ ι H S' Q → t ov iv v H Q
def gS (fo fi : EDen) (g : D → D → D → Sto → Option Sto) : GDen := fun d ρ S => bnd (fo ρ S) fun o S => bnd (fi ρ S) fun i S => (g o i d S).map fun S => (ρ, S)
theorem mg_sub {o i : Expr} {fo fi : EDen} {t : TSet} {g : D → D → D → Sto → Option Sto} (ho : ME X o fo) (hi : ME X i fi) (hs : PSet X t) (m : MSet X.K t g)
    (ha : ∀ v, assign (.Subscript o i pos) X.env v = (do
      let ov ← holding [v] (eval o X.env)
      let iv ← holding [v, ov] (eval i X.env)
      standAt pos
      holding [v, ov, iv] (setItem ov iv v)
      release [v, ov, iv] []) := by intro _; rfl) : MG X (.Subscript o i pos) (gS fo fi g) := (pg_sub ho hi hs ha).weak fun v σ H Q ⟨ξ, ι, ρ, S, d, ρ', S', st, re, r, e, k⟩ => by
  obtain ⟨x, S1, e1, e⟩ := bnd_some e
  obtain ⟨y, S2, e2, e⟩ := bnd_some e
  cases q : g x y d S2 with
  | none => rw [q] at e; cases e
  | some S3 =>
    rw [q] at e
    cases e
    refine tE.run st re e1 fun v1 H1 ι1 s1 st1 r1 => tE.run st1 (s1.env re) e2 fun v2 H2 ι2 s2 st2 r2 => ?_
    exact m H2 ξ ι2 S2 S' x y d v1 v2 v _ st2 (s2.val r1) r2 (s2.val (s1.val r)) q fun H3 ι3 s3 st3 => k σ H3 ι3 (s1.trans (s2.trans s3)) st3 (s3.env (s2.env (s1.env re)))
/-- .. of a list -/
def setL (o i d : D) (S : Sto) : Option Sto := match o, i with
  | .ref n, .int z => match S[n]? with
    | some (.lst ds) => (ixN ds.length z).bind fun j => if D.fit n d then some (S.set n (.lst (ds.set j d))) else none
    | _ => none
  | _, _ => none
theorem fitL_set {n : Nat} {d : D} {ds : List D} {j : Nat} (h : D.fitL n ds = true) (hd : D.fit n d = true) : D.fitL n (ds.set j d) = true := D.fitL_all.mpr fun x hx => by
  rcases List.mem_or_eq_of_mem_set hx with h1 | h1
  · exact D.fitL_all.mp h x h1
  · rw [h1]; exact hd
theorem m_setL {K : Frag} : MSet K rSetL setL := by
  intro H ξ ι S S' o i d ov iv v Q st ro ri rd e k
  cases o with
  | ref n =>
    cases i with
    | int z =>
      unfold setL at e
      simp only at e
      split at e
      · rename_i ds q
        cases q2 : ixN ds.length z with
        | none => rw [q2] at e; cases e
        | some j =>
          rw [q2] at e
          have e : (if D.fit n d then some (S.set n (.lst (ds.set j d))) else none) = some S' := e
          split at e
          · rename_i hf
            cases e
            obtain ⟨a, rfl, hn⟩ := ro
            obtain ⟨b, h3, vs, h4, h5⟩ := st.cell n _ q
            obtain rfl : b = a := Option.some.inj (h3.symm.trans hn)
            have s : Step H ι (upd H b (.lst (vs.set j v))) ι := Step.write (S := S) hn (.lst h4)
            refine ⟨b, vs, z, j, rfl, ri, h4, by rw [h5.length]; exact q2, k _ ι s ?_⟩
            exact st.write hn (.lst h4) ⟨_, upd_same, (s.vals h5).set (s.val rd) j⟩ (fitL_set (st.asc n _ q) hf)
          · cases e
      · cases e
    | _ => cases e
  | _ => cases e
end
end MS

namespace MS
open PySem PySem.Spec PyProof.Rows L2

/-! ### while -/
def whileN (c : TDen) (b : SDen) (n : Nat) : SDen := Nat.rec (fun _ _ => none) (fun _ ih ρ S => bnd (c ρ S) fun t S => if t = true then (match b ρ S with
  | some (.nx, ρ', S') => ih ρ' S'
  | some (.ct, ρ', S') => ih ρ' S'
  | some (.bk, ρ', S') => some (.nx, ρ', S')
  | r => r) else some (.nx, ρ, S)) n
theorem whileN_succ (c : TDen) (b : SDen) (n : Nat) (ρ : Env) (S : Sto) : whileN c b (n + 1) ρ S = bnd (c ρ S) fun t S => if t = true then (match b ρ S with
  | some (.nx, ρ', S') => whileN c b n ρ' S'
  | some (.ct, ρ', S') => whileN c b n ρ' S'
  | some (.bk, ρ', S') => some (.nx, ρ', S')
  | r => r) else some (.nx, ρ, S) := rfl
/-- where a while goes: what one turn is worth -/
theorem whileN_ok {c : TDen} {b : SDen} (Pv : Nat → Env → Sto → Prop) {Qd : Option (Out × Env × Sto) → Prop}
    (turn : ∀ m ρ S, Pv m ρ S → (∃ S1, c ρ S = some (false, S1) ∧ Qd (some (.nx, ρ, S1))) ∨ ∃ S1, c ρ S = some (true, S1) ∧ ((∃ m' ρ' S', m' < m ∧ (b ρ S1 = some (.nx, ρ', S') ∨ b ρ S1 = some (.ct, ρ', S')) ∧ Pv m' ρ' S') ∨ (∃ ρ' S', b ρ S1 = some (.bk, ρ', S') ∧ Qd (some (.nx, ρ', S'))) ∨ ∃ d ρ' S', b ρ S1 = some (.rt d, ρ', S') ∧ Qd (some (.rt d, ρ', S')))) :
    ∀ (m n : Nat) (ρ : Env) (S : Sto), m < n → Pv m ρ S → Qd (whileN c b n ρ S) := by
  intro m
  induction m using Nat.strongRecOn with
  | ind m ih =>
    intro n ρ S hn p
    cases n with
    | zero => omega
    | succ n =>
      rw [whileN_succ]
      rcases turn m ρ S p with ⟨S1, e, q⟩ | ⟨S1, e, ⟨m', ρ', S', hm, hb, p'⟩ | ⟨ρ', S', hb, q⟩ | ⟨d, ρ', S', hb, q⟩⟩
      · rw [e]
        exact q
      · rw [e]
        have := ih m' hm n ρ' S' (by omega) p'
        rcases hb with hb | hb
        · simp only [bnd_mk, if_true, hb]
          exact this
        · simp only [bnd_mk, if_true, hb]
          exact this
      · rw [e]
        simp only [bnd_mk, if_true, hb]
        exact q
      · rw [e]
        simp only [bnd_mk, if_true, hb]
        exact q
section
variable {X : Cx} {pos : Pos}
theorem ms_while (n : Nat) {c : Expr} {body : List Stmt} {fc : TDen} {fb : SDen} (hp : PassesOwn (model X.prog X.w) X.A X.env X.xe) (hc : MT X c fc) (hb : MSs X body fb) : MS X (.While c body [] pos) (whileN fc fb n) :=
  (ps_while hp hc hb).weak fun T σ H h => by
    refine ⟨fun m σ H => tS X.K (whileN fc fb m) T σ H, ⟨n, h⟩, ?_⟩
    rintro m σ H ⟨ξ, ι, ρ, S, o, ρ', S', st, re, e, k⟩
    cases m with
    | zero => cases e
    | succ m =>
      rw [whileN_succ] at e
      obtain ⟨t, S1, e1, e⟩ := bnd_some e
      refine tB.run st re e1 fun H1 ι1 s1 st1 => ?_
      cases t with
      | false =>
        cases e
        exact iteF (k σ H1 ι1 s1 st1 (s1.env re))
      | true =>
        refine iteT ⟨tS X.K (whileN fc fb m) T, fun σ' H' q => ⟨m, Nat.lt_succ_self m, q⟩, ?_⟩
        simp only [if_true] at e
        have k1 := k.next s1
        cases q : fb ρ S1 with
        | none => rw [q] at e; cases e
        | some r =>
          obtain ⟨o1, ρ1, S2⟩ := r
          rw [q] at e
          refine tS.run st1 (s1.env re) q ?_
          cases o1 with
          | nx => exact fun σ2 H2 ι2 s2 st2 re2 => tS.run st2 re2 e (k1.next s2)
          | ct => exact fun σ2 H2 ι2 s2 st2 re2 => tS.run st2 re2 e (k1.next s2)
          | bk =>
            cases e
            exact k1
          | rt d =>
            cases e
            exact k1
end

/-! ### what is walked -/
/-- a source: its items; a mutable list must stand as it stood -/
inductive Src where
  | fix (ds : List D) | cell (n : Nat) (ds : List D) | grd (gs : List (Nat × List D)) (ds : List D)
def Src.items : Src → List D
  | .fix ds => ds
  | .cell _ ds => ds
  | .grd _ ds => ds
mutual
def D.same : D → D → Bool
  | .non, .non => true
  | .bl a, .bl b => a == b
  | .int a, .int b => decide (a = b)
  | .str a, .str b => decide (a = b)
  | .tup a, .tup b => D.sameL a b
  | .fl a, .fl b => D.sameL a b
  | .rl a, .rl b => D.sameL a b
  | .ref a, .ref b => decide (a = b)
  | _, _ => false
def D.sameL : List D → List D → Bool
  | [], [] => true
  | a :: as, b :: bs => D.same a b && D.sameL as bs
  | _, _ => false
end
mutual
theorem D.same_eq : ∀ {a b : D}, D.same a b = true → a = b
  | .non, b, h => by cases b <;> first | rfl | cases h
  | .bl a, b, h => by
    cases b with
    | bl b => rw [eq_of_beq (show (a == b) = true from h)]
    | _ => cases h
  | .int a, b, h => by
    cases b with
    | int b => rw [of_decide_eq_true (show decide (a = b) = true from h)]
    | _ => cases h
  | .str a, b, h => by
    cases b with
    | str b => rw [of_decide_eq_true (show decide (a = b) = true from h)]
    | _ => cases h
  | .tup a, b, h => by
    cases b with
    | tup b => rw [D.sameL_eq (show D.sameL a b = true from h)]
    | _ => cases h
  | .fl a, b, h => by
    cases b with
    | fl b => rw [D.sameL_eq (show D.sameL a b = true from h)]
    | _ => cases h
  | .rl a, b, h => by
    cases b with
    | rl b => rw [D.sameL_eq (show D.sameL a b = true from h)]
    | _ => cases h
  | .ref a, b, h => by
    cases b with
    | ref b => rw [of_decide_eq_true (show decide (a = b) = true from h)]
    | _ => cases h
theorem D.sameL_eq : ∀ {a b : List D}, D.sameL a b = true → a = b
  | [], [], _ => rfl
  | [], _ :: _, h => by cases h
  | _ :: _, [], h => by cases h
  | a :: as, b :: bs, h => by
    have h : (D.same a b && D.sameL as bs) = true := h
    rw [Bool.and_eq_true] at h
    rw [D.same_eq h.1, D.sameL_eq h.2]
end
mutual
theorem D.same_self : ∀ a : D, D.same a a = true
  | .non => rfl
  | .bl a => beq_self_eq_true a
  | .int a => decide_eq_true rfl
  | .str a => decide_eq_true rfl
  | .tup a => D.sameL_self a
  | .fl a => D.sameL_self a
  | .rl a => D.sameL_self a
  | .ref a => decide_eq_true rfl
theorem D.sameL_self : ∀ a : List D, D.sameL a a = true
  | [] => rfl
  | a :: as => by
    show (D.same a a && D.sameL as as) = true
    rw [D.same_self a, D.sameL_self as]
    rfl
end
/-- the source stands -/
def cellIs (S : Sto) (n : Nat) (ds : List D) : Bool := match S[n]? with
  | some (.lst es) => D.sameL es ds
  | _ => false
def Src.ok (s : Src) (S : Sto) : Bool := match s with
  | .fix _ => true
  | .cell n ds => cellIs S n ds
  | .grd gs _ => gs.all fun g => cellIs S g.1 g.2
theorem Src.ok_fix {ds : List D} {S : Sto} : Src.ok (.fix ds) S = true := rfl
/-- turns of an iterator: while the source stands it gives the items one by one -/
structure SrcOk (K : Frag) (ξ ι : List Addr) (H : Hp) (s : Src) (J : It) : Prop where
  go : ∀ ξ' H' ι' S i, Step H ι H' ι' → (∀ a ∈ ξ', a ∈ ξ ∨ H a = none) → StoOk K H' ξ' ι' S → s.ok S = true → i < s.items.length → J.go i H'
  stop : ∀ ξ' H' ι' S, Step H ι H' ι' → (∀ a ∈ ξ', a ∈ ξ ∨ H a = none) → StoOk K H' ξ' ι' S → s.ok S = true → J.stop s.items.length H'
  yld : ∀ ξ' H' ι' S i x H3 d, Step H ι H' ι' → (∀ a ∈ ξ', a ∈ ξ ∨ H a = none) → StoOk K H' ξ' ι' S → s.ok S = true → s.items[i]? = some d → J.yld i H' x H3 → (∀ a o, H' a = some o → H3 a = some o) ∧ RepV K H3 ξ' ι' d x
abbrev IDen := Env → Sto → Option (Src × Sto)
def tI (K : Frag) (f : IDen) : TI := fun σ H R => ∃ ξ ι ρ S s S', StoOk K H ξ ι S ∧ RepE K H ξ ι ρ σ ∧ f ρ S = some (s, S') ∧ ∀ J H' ι', Step H ι H' ι' → StoOk K H' ξ ι' S' → SrcOk K ξ ι' H' s J → R J H'
abbrev MI (X : Cx) (tg iter : Expr) (f : IDen) : Prop := PI X tg iter (tI X.K f)
theorem _root_.L2.PI.weak {X : Cx} {tg iter : Expr} {t t' : TI} (h : PI X tg iter t) (w : ∀ σ H R, t' σ H R → t σ H R) : PI X tg iter t' := ⟨fun pins s σ H R I q => h.run pins s σ H R I (w σ H R q)⟩
/-- for -/
def forL (s : Src) (g : GDen) (b : SDen) : List D → SDen
  | [] => fun ρ S => if s.ok S then some (.nx, ρ, S) else none
  | d :: ds => fun ρ S => if s.ok S then (match g d ρ S with
    | some (ρ1, S1) => (match b ρ1 S1 with
      | some (.nx, ρ', S') => forL s g b ds ρ' S'
      | some (.ct, ρ', S') => forL s g b ds ρ' S'
      | some (.bk, ρ', S') => some (.nx, ρ', S')
      | r => r)
    | none => none) else none
def sFor (fi : IDen) (g : GDen) (b : SDen) : SDen := fun ρ S => bnd (fi ρ S) fun s S => forL s g b s.items ρ S
section
variable {X : Cx} {pos : Pos}
theorem ms_for {tg iter : Expr} {body : List Stmt} {fi : IDen} {g : GDen} {fb : SDen} (hp : PassesOwn (model X.prog X.w) X.A X.env X.xe) (hc : X.calm = true) (hi : MI X tg iter fi) (hg : MG X tg g) (hb : MSs X body fb) (hs : ∀ x, foldedSetIterable iter X.env x = pure x := by intro _; rfl) : MS X (.For tg iter body [] pos) (sFor fi g fb) :=
  (ps_for hp hc hi hg hb hs).weak fun T σ H ⟨ξ, ι, ρ, S, o, ρ', S', st, re, e, k⟩ => by
    obtain ⟨s, S1, e1, e⟩ := bnd_some e
    refine ⟨ξ, ι, ρ, S, s, S1, st, re, e1, fun J H1 ι1 s1 st1 so => ?_⟩
    refine ⟨fun i m σ H => m = s.items.length - i ∧ i ≤ s.items.length ∧ ∃ ι' ρ1 S2, Step H1 ι1 H ι' ∧ StoOk X.K H ξ ι' S2 ∧ RepE X.K H ξ ι' ρ1 σ ∧ forL s g fb (s.items.drop i) ρ1 S2 = some (o, ρ', S') ∧ AnsS X.K ξ ι' H o ρ' S' T,
      ⟨_, rfl, Nat.zero_le _, ι1, ρ, S1, Step.refl, st1, s1.env re, e, k.next s1⟩, ?_⟩
    rintro i m σ2 H2 ⟨rfl, hi2, ι2, ρ2, S2, s2, st2, re2, e2, k2⟩
    by_cases hlt : i < s.items.length
    · rw [List.drop_eq_getElem_cons hlt] at e2
      have e2 : (if s.ok S2 then (match g s.items[i] ρ2 S2 with
        | some (ρ1, S1) => (match fb ρ1 S1 with
          | some (.nx, ρ', S') => forL s g fb (s.items.drop (i + 1)) ρ' S'
          | some (.ct, ρ', S') => forL s g fb (s.items.drop (i + 1)) ρ' S'
          | some (.bk, ρ', S') => some (.nx, ρ', S')
          | r => r)
        | none => none) else none) = some (o, ρ', S') := e2
      split at e2
      · rename_i hok
        refine .inr ⟨so.go ξ H2 ι2 S2 i s2 (fun a ha => .inl ha) st2 hok hlt, fun σ' H' => ∃ m', m' < s.items.length - i ∧ (m' = s.items.length - (i + 1) ∧ i + 1 ≤ s.items.length ∧ ∃ ι' ρ1 S2, Step H1 ι1 H' ι' ∧ StoOk X.K H' ξ ι' S2 ∧ RepE X.K H' ξ ι' ρ1 σ' ∧ forL s g fb (s.items.drop (i + 1)) ρ1 S2 = some (o, ρ', S') ∧ AnsS X.K ξ ι' H' o ρ' S' T),
          fun σ' H' h => h, fun x H3 hy => ?_⟩
        obtain ⟨kp, rx⟩ := so.yld ξ H2 ι2 S2 i x H3 _ s2 (fun a ha => .inl ha) st2 hok (List.getElem?_eq_getElem hlt) hy
        have s3 : Step H2 ι2 H3 ι2 := ⟨⟨[], (List.append_nil _).symm⟩, fun a o h n => ⟨kp a o h, n⟩, fun a o u h => kp a _ h⟩
        have st3 := st2.beside kp
        cases q : g s.items[i] ρ2 S2 with
        | none => rw [q] at e2; cases e2
        | some p =>
          obtain ⟨ρ3, S3⟩ := p
          rw [q] at e2
          have e2 : (match fb ρ3 S3 with
            | some (.nx, ρ', S') => forL s g fb (s.items.drop (i + 1)) ρ' S'
            | some (.ct, ρ', S') => forL s g fb (s.items.drop (i + 1)) ρ' S'
            | some (.bk, ρ', S') => some (.nx, ρ', S')
            | r => r) = some (o, ρ', S') := e2
          refine ⟨ξ, ι2, ρ2, S2, _, ρ3, S3, st3, s3.env re2, rx, q, fun σ4 H4 ι4 s4 st4 re4 => ?_⟩
          cases q2 : fb ρ3 S3 with
          | none => rw [q2] at e2; cases e2
          | some r =>
            obtain ⟨o1, ρ5, S5⟩ := r
            rw [q2] at e2
            refine tS.run st4 re4 q2 ?_
            have k4 := (k2.next s3).next s4
            cases o1 with
            | nx => exact fun σ6 H6 ι6 s6 st6 re6 => ⟨_, by omega, rfl, hlt, ι6, ρ5, S5, s2.trans (s3.trans (s4.trans s6)), st6, re6, e2, k4.next s6⟩
            | ct => exact fun σ6 H6 ι6 s6 st6 re6 => ⟨_, by omega, rfl, hlt, ι6, ρ5, S5, s2.trans (s3.trans (s4.trans s6)), st6, re6, e2, k4.next s6⟩
            | bk =>
              cases e2
              exact k4
            | rt d =>
              cases e2
              exact k4
      · cases e2
    · have hl : i = s.items.length := by omega
      subst hl
      rw [List.drop_length] at e2
      have e2 : (if s.ok S2 then some (Out.nx, ρ2, S2) else none) = some (o, ρ', S') := e2
      split at e2
      · rename_i hok
        cases e2
        exact .inl ⟨so.stop ξ H2 ι2 _ s2 (fun a ha => .inl ha) st2 hok, k2 σ2 H2 ι2 Step.refl st2 re2⟩
      · cases e2

end
/-! ### targets that are names: they change nothing but slots -/
abbrev NDen := D → Env → Option Env
def gOf (g : NDen) : GDen := fun d ρ S => (g d ρ).map fun ρ' => (ρ', S)
def tGn (K : Frag) (vs : List Nat) (g : NDen) : TG := fun v σ H Q => ∃ ξ ι ρ S d ρ', StoOk K H ξ ι S ∧ RepE K H ξ ι ρ σ ∧ RepV K H ξ ι d v ∧ g d ρ = some ρ' ∧ ∀ σ', RepE K H ξ ι ρ' σ' → σ'.length = σ.length → (∀ i : Nat, i ∉ vs → σ'[i]? = σ[i]?) → Q σ' H
def tGns (K : Frag) (vs : List Nat) (g : List D → Env → Option Env) : TGs := fun xs σ H Q => ∃ ξ ι ρ S ds ρ', StoOk K H ξ ι S ∧ RepE K H ξ ι ρ σ ∧ RepL K H ξ ι ds xs ∧ g ds ρ = some ρ' ∧ ∀ σ', RepE K H ξ ι ρ' σ' → σ'.length = σ.length → (∀ i : Nat, i ∉ vs → σ'[i]? = σ[i]?) → Q σ' H
abbrev MN (X : Cx) (e : Expr) (vs : List Nat) (g : NDen) : Prop := PG X e (tGn X.K vs g)
abbrev MNs (X : Cx) (es : List Expr) (vs : List Nat) (g : List D → Env → Option Env) : Prop := PGs X es (tGns X.K vs g)
def nN (i : Nat) : NDen := fun d ρ => some (ρ.set i (some d))
def nsNil : List D → Env → Option Env := fun ds ρ => match ds with
  | [] => some ρ
  | _ => none
def nsCons (g : NDen) (gs : List D → Env → Option Env) : List D → Env → Option Env := fun ds ρ => match ds with
  | d :: r => (g d ρ).bind fun ρ' => gs r ρ'
  | _ => none
def nT (n : Nat) (gs : List D → Env → Option Env) : NDen := fun d ρ => match d with
  | .tup ds => if ds.length = n then gs ds ρ else none
  | _ => none
section
variable {X : Cx} {pos : Pos}
theorem mn_name {i : Nat} {x : Str} (hN : X.N.Nodup) (hi : X.N[i]? = some x) (hx : Loc X.env.scope x := by first | exact .inl rfl | exact .inr rfl) (hf : X.fn x = true ∨ X.env.scope.names.lookup x = some .local := by first | exact .inl rfl | exact .inr rfl | assumption) : MN X (.Name x pos) [i] (nN i) :=
  (pg_name hN hi hx hf).weak fun v σ H Q ⟨ξ, ι, ρ, S, d, ρ', st, re, r, e, k⟩ => by
    cases e
    exact k _ (re.set r) (List.length_set ..) fun j hj => List.getElem?_set_ne fun z => hj (List.mem_singleton.mpr z.symm)
theorem mns_nil : MNs X [] [] nsNil := pgs_nil.weak fun v σ H Q ⟨ξ, ι, ρ, S, ds, ρ', st, re, r, e, k⟩ => by
  cases ds with
  | nil =>
    cases e
    exact ⟨r, k σ re rfl fun _ _ => rfl⟩
  | cons _ _ => cases e
theorem mns_cons {e : Expr} {es : List Expr} {vs ws : List Nat} {g : NDen} {gs : List D → Env → Option Env} (h1 : MN X e vs g) (h2 : MNs X es ws gs) (hs : (assignEach (e :: es) X.env).map (·.2) = assign e X.env :: (assignEach es X.env).map (·.2) := by rfl) : MNs X (e :: es) (vs ++ ws) (nsCons g gs) :=
  (pgs_cons h1 h2 hs).weak fun v σ H Q ⟨ξ, ι, ρ, S, ds, ρ', st, re, r, e, k⟩ => by
    cases ds with
    | nil => cases e
    | cons d t =>
      have e : (g d ρ).bind (fun p => gs t p) = some ρ' := e
      cases q : g d ρ with
      | none => rw [q] at e; cases e
      | some p =>
        rw [q] at e
        obtain ⟨v1, r1, rfl, hv, hr⟩ := r
        refine ⟨v1, r1, rfl, ξ, ι, ρ, S, d, p, st, re, hv, q, fun σ1 re1 l1 o1 => ⟨ξ, ι, p, S, t, ρ', st, re1, hr, e, fun σ2 re2 l2 o2 => k σ2 re2 (l2.trans l1) fun i hi => ?_⟩⟩
        rw [List.mem_append, not_or] at hi
        rw [o2 i hi.2, o1 i hi.1]
theorem mn_tup {es : List Expr} {k : Nat} {vs : List Nat} {gs : List D → Env → Option Env} {n : Nat} (hc : X.calm = true) (h : MNs X es vs gs) (hn : (assignEach es X.env).length = n := by rfl) (hst : (assignEach es X.env).findIdx? (·.1) = none := by rfl) : MN X (.Tuple es k pos) vs (nT n gs) :=
  (pg_tup hc h hn hst).weak fun v σ H Q ⟨ξ, ι, ρ, S, d, ρ', st, re, r, e, k⟩ => by
    cases d with
    | tup ds =>
      have e : (if ds.length = n then gs ds ρ else none) = some ρ' := e
      split at e
      · rename_i hl
        obtain ⟨a, us, rfl, h2, h3⟩ := r
        exact ⟨a, us, rfl, h2.sq, by rw [h3.length]; exact hl, ξ, ι, ρ, S, ds, ρ', st, re, h3, e, k⟩
      · cases e
    | _ => cases e
theorem mg_of {e : Expr} {vs : List Nat} {g : NDen} (h : MN X e vs g) : MG X e (gOf g) := h.weak fun v σ H Q ⟨ξ, ι, ρ, S, d, ρ', S', st, re, r, e, k⟩ => by
  unfold gOf at e
  cases q : g d ρ with
  | none => rw [q] at e; cases e
  | some p =>
    rw [q] at e
    cases e
    exact ⟨ξ, ι, ρ, _, d, _, st, re, r, q, fun σ' re' _ _ => k σ' H ι Step.refl st re'⟩
end

/-! ### comprehensions -/
/-- the items of [e for g in s if t]: what is made so far, one behind another -/
def lcL (s : Src) (g : NDen) (t : TDen) (b : EDen) : List D → Env → Sto → Option (List D × Sto)
  | [] => fun _ S => if s.ok S then some ([], S) else none
  | d :: ds => fun ρ S => if s.ok S then (match g d ρ with
    | some ρ1 => bnd (t ρ1 S) (fun c S2 => if c = true then (bnd (b ρ1 S2) fun y S3 => bnd (lcL s g t b ds ρ S3) fun ys S4 => some (y :: ys, S4)) else lcL s g t b ds ρ S2)
    | none => none) else none
def wipeE (ρ : Env) : List Nat → Env
  | [] => ρ
  | v :: vs => (wipeE ρ vs).set v none
def tYesD : TDen := fun _ S => some (true, S)
def dLc (fi : IDen) (g : NDen) (t : TDen) (b : EDen) (vs : List Nat) : EDen := fun ρ S => bnd (fi ρ S) fun s S => bnd (lcL s g t b s.items (wipeE ρ vs) S) fun ys S => if szOk ys then some (.fl ys, S) else none
def dLcC (fi : IDen) (g : NDen) (t : TDen) (b : EDen) (vs : List Nat) : EDen := fun ρ S => bnd (fi ρ S) fun s S => bnd (lcL s g t b s.items (wipeE ρ vs) S) fun ys S => if szOk ys then (if D.fitL S.length ys then some (.ref S.length, S ++ [.lst ys]) else none) else none
theorem wipeE_ok {K : Frag} {H : Hp} {ξ ι : List Addr} {ρ : Env} {σ : L2.St} (re : RepE K H ξ ι ρ σ) : ∀ vs : List Nat, RepE K H ξ ι (wipeE ρ vs) (wipe σ vs)
  | [] => re
  | v :: vs => by
    have ih := wipeE_ok re vs
    refine ⟨by show ((wipeE ρ vs).set v none).length = ((wipe σ vs).set v none).length; rw [List.length_set, List.length_set]; exact ih.len, fun i d e => ?_⟩
    have e : ((wipeE ρ vs).set v none)[i]? = some (some d) := e
    show ∃ x, ((wipe σ vs).set v none)[i]? = some (some x) ∧ _
    by_cases h : i = v
    · subst h
      rw [List.getElem?_set] at e
      simp only [if_true] at e
      split at e <;> cases e
    · rw [List.getElem?_set_ne (Ne.symm h)] at e ⊢
      exact ih.at_ i d e
theorem wipe_get (σ : L2.St) : ∀ (vs : List Nat) (i : Nat), (wipe σ vs)[i]? = if i ∈ vs then (if i < σ.length then some none else none) else σ[i]?
  | [], i => by simp [wipe]
  | v :: vs, i => by
    show ((wipe σ vs).set v none)[i]? = _
    have ih := wipe_get σ vs i
    rw [List.getElem?_set, wipe_length]
    by_cases h : v = i
    · subst h
      simp
    · rw [if_neg h, ih]
      by_cases h2 : i ∈ vs
      · rw [if_pos h2, if_pos (List.mem_cons_of_mem _ h2)]
      · rw [if_neg h2, if_neg (fun z => (List.mem_cons.mp z).elim (fun z => h z.symm) h2)]
theorem wipe_same {σ σ2 : L2.St} {vs ws : List Nat} (hw : ∀ i ∈ ws, i ∈ vs) (hl : σ2.length = (wipe σ vs).length) (ho : ∀ i : Nat, i ∉ ws → σ2[i]? = (wipe σ vs)[i]?) : wipe σ2 vs = wipe σ vs := by
  apply List.ext_getElem?
  intro i
  rw [wipe_get, wipe_get]
  rw [wipe_length] at hl
  by_cases h : i ∈ vs
  · rw [if_pos h, if_pos h, hl]
  · rw [if_neg h, if_neg h, ho i (fun z => h (hw i z)), wipe_get, if_neg h]
section
variable {K : Frag} {H : Hp} {ξ ι : List Addr} {S : Sto} {p : Addr}
theorem Mv.off {n : Nat} : Mv H (p :: ξ) ι n H ξ ι := ⟨fun a o h h1 h2 => ⟨h, fun z => h1 (List.mem_cons_of_mem _ z), h2⟩, fun _ _ _ e => e⟩
theorem StoOk.off (st : StoOk K H (p :: ξ) ι S) : StoOk K H ξ ι S := by
  refine ⟨st.len, st.nd, fun a ha z => st.apart a ha (List.mem_cons_of_mem _ z), fun a ha => st.live a (List.mem_cons_of_mem _ ha), fun n c e => ?_, st.asc⟩
  obtain ⟨a, h1, h2⟩ := st.cell n c e
  exact ⟨a, h1, h2.mono (fun _ _ r => RepL.mv Mv.off r.fit r) fun _ q => q⟩
/-- a list that was made beside becomes a mutable thing -/
theorem StoOk.adopt {ds : List D} {vs : List V} (st : StoOk K H (p :: ξ) ι S) (hp : H p = some (.lst vs)) (pn : p ∉ ξ) (r : RepL K H (p :: ξ) ι ds vs) (hf : D.fitL S.length ds = true) : StoOk K H ξ (ι ++ [p]) (S ++ [.lst ds]) := by
  have pi : p ∉ ι := fun z => st.apart p z List.mem_cons_self
  have m : ∀ n, n ≤ ι.length → Mv H (p :: ξ) ι n H ξ (ι ++ [p]) := fun n hn => ⟨fun a o h h1 h2 => ⟨h, fun z => h1 (List.mem_cons_of_mem _ z), fun z => by
    rcases List.mem_append.mp z with z | z
    · exact h2 z
    · exact h1 (by rw [List.mem_singleton.mp z]; exact List.mem_cons_self)⟩, fun i a hi e => by rw [List.getElem?_append_left (by omega)]; exact e⟩
  refine ⟨by simp [st.len], ?_, fun a ha z => ?_, fun a ha => st.live a (List.mem_cons_of_mem _ ha), fun n c e => ?_, fun n c e => ?_⟩
  · rw [List.nodup_append]
    exact ⟨st.nd, by simp, fun a ha b hb => by rw [List.mem_singleton.mp hb]; exact fun z => pi (z ▸ ha)⟩
  · rcases List.mem_append.mp ha with ha | ha
    · exact st.apart a ha (List.mem_cons_of_mem _ z)
    · rw [List.mem_singleton.mp ha] at z
      exact pn z
  · by_cases hn : n < S.length
    · rw [List.getElem?_append_left hn] at e
      obtain ⟨a, h1, h2⟩ := st.cell n c e
      exact ⟨a, by rw [List.getElem?_append_left (by rw [st.len]; exact hn)]; exact h1, h2.mono (fun _ _ r => RepL.mv (m _ (Nat.le_refl _)) r.fit r) fun _ q => q⟩
    · rw [List.getElem?_append_right (by omega)] at e
      have hz : n - S.length = 0 := by
        rcases Nat.eq_zero_or_pos (n - S.length) with z | z
        · exact z
        · rw [List.getElem?_eq_none (by simp; omega)] at e; cases e
      rw [hz] at e
      cases e
      exact ⟨p, by rw [List.getElem?_append_right (by rw [st.len]; omega), st.len, hz]; rfl, vs, hp, RepL.mv (m _ (Nat.le_refl _)) r.fit r⟩
  · by_cases hn : n < S.length
    · rw [List.getElem?_append_left hn] at e
      exact st.asc n c e
    · rw [List.getElem?_append_right (by omega)] at e
      have hz : n - S.length = 0 := by
        rcases Nat.eq_zero_or_pos (n - S.length) with z | z
        · exact z
        · rw [List.getElem?_eq_none (by simp; omega)] at e; cases e
      rw [hz] at e
      cases e
      rw [show n = S.length by omega]
      exact hf
end
/-- the made list's elements: what a turn does to it -/
theorem lc_reads {K : Frag} {fi : IDen} {g : NDen} {t : TDen} {b : EDen} {vs ws : List Nat} (hw : ∀ i ∈ ws, i ∈ vs) {σ : L2.St} {H : Hp} {ξ ι : List Addr} {ρ : Env} {S S2 : Sto} {s : Src} {ys : List D} {S1 : Sto} {Q : VK}
    (st : StoOk K H ξ ι S) (re : RepE K H ξ ι ρ σ) (e1 : fi ρ S = some (s, S1)) (e2 : lcL s g t b s.items (wipeE ρ vs) S1 = some (ys, S2)) (hz : ys.length ≤ sizeLine)
    (k : ∀ p us H' ι', H p = none → Step H ι H' ι' → StoOk K H' (p :: ξ) ι' S2 → p ∉ ξ → H' p = some (.lst us) → RepL K H' (p :: ξ) ι' ys us → Q (.ref p) H') : tLc (tI K fi) (tGn K ws g) (tB K t) (tE K b) vs σ H Q := by
  refine ⟨ξ, ι, ρ, S, s, S1, st, re, e1, fun J H1 ι1 s1 st1 so q0 hD => ?_⟩
  have fD := st1.fresh hD
  have nq : H q0 = none := by
    cases z : H q0 with
    | none => rfl
    | some o =>
      by_cases hi : q0 ∈ ι
      · obtain ⟨m, rfl⟩ := s1.more
        exact absurd (List.mem_append.mpr (.inl hi)) fD.2
      · rw [(s1.keep q0 o z hi).1] at hD
        cases hD
  have live1 : ∀ {H2 : Hp} {us : List V}, H2 q0 = some (.lst us) → (∀ a ∈ ξ, H2 a ≠ none) → ∀ a ∈ q0 :: ξ, H2 a ≠ none := fun {H2 us} h1 h2 a ha => by
    rcases List.mem_cons.mp ha with rfl | ha
    · rw [h1]; exact fun z => nomatch z
    · exact h2 a ha
  have ok1 : ∀ a ∈ q0 :: ξ, a ∈ ξ ∨ H1 a = none := fun a ha => by
    rcases List.mem_cons.mp ha with rfl | ha
    · exact .inr hD
    · exact .inl ha
  -- from the heap ahead of the list to one within
  have mvD : ∀ {H2 : Hp} {ι2 : List Addr}, Step H1 ι1 H2 ι2 → Mv H1 ξ ι1 ι1.length H2 (q0 :: ξ) ι2 := fun {H2 ι2} z => ⟨fun a o h h1 h2 => ⟨(z.keep a o h h2).1, fun q => (List.mem_cons.mp q).elim (fun q => by rw [q, hD] at h; cases h) h1, (z.keep a o h h2).2⟩, z.mv (ξ := ξ).own⟩
  refine ⟨fun i m H2 => m = s.items.length - i ∧ i ≤ s.items.length ∧ ∃ ι2 S3 zs us made, Step H1 ι1 H2 ι2 ∧ StoOk K H2 (q0 :: ξ) ι2 S3 ∧ H2 q0 = some (.lst us) ∧ RepL K H2 (q0 :: ξ) ι2 made us ∧ lcL s g t b (s.items.drop i) (wipeE ρ vs) S3 = some (zs, S2) ∧ ys = made ++ zs, ?_, ?_⟩
  · refine ⟨_, rfl, Nat.zero_le _, ι1, S1, ys, [], [], Step.upd hD, ?_, upd_same, rfl, e2, rfl⟩
    have stU := st1.upd (o := .lst []) hD
    refine ⟨stU.len, stU.nd, fun a ha z => ?_, live1 upd_same stU.live, fun n c e => ?_, stU.asc⟩
    · rcases List.mem_cons.mp z with z | z
      · exact fD.2 (z ▸ ha)
      · exact stU.apart a ha z
    · obtain ⟨a, h1, h2⟩ := st1.cell n c e
      exact ⟨a, h1, h2.mono (fun _ _ r => RepL.mv (mvD (Step.upd hD)) r.fit r) (keep_upd hD a)⟩
  · rintro i m H2 ⟨rfl, hi, ι2, S3, zs, us, made, s2, st2, hu, ru, e3, hy⟩
    by_cases hlt : i < s.items.length
    · rw [List.drop_eq_getElem_cons hlt] at e3
      have e3 : (if s.ok S3 then (match g s.items[i] (wipeE ρ vs) with
        | some ρ1 => bnd (t ρ1 S3) (fun c S2 => if c = true then (bnd (b ρ1 S2) fun y S3 => bnd (lcL s g t b (s.items.drop (i + 1)) (wipeE ρ vs) S3) fun ys S4 => some (y :: ys, S4)) else lcL s g t b (s.items.drop (i + 1)) (wipeE ρ vs) S2)
        | none => none) else none) = some (zs, S2) := e3
      split at e3
      · rename_i hok
        refine .inr ⟨so.go (q0 :: ξ) H2 ι2 S3 i s2 ok1 st2 hok hlt, fun H' => ∃ m', m' < s.items.length - i ∧ (m' = s.items.length - (i + 1) ∧ i + 1 ≤ s.items.length ∧ ∃ ι2 S3 zs us made, Step H1 ι1 H' ι2 ∧ StoOk K H' (q0 :: ξ) ι2 S3 ∧ H' q0 = some (.lst us) ∧ RepL K H' (q0 :: ξ) ι2 made us ∧ lcL s g t b (s.items.drop (i + 1)) (wipeE ρ vs) S3 = some (zs, S2) ∧ ys = made ++ zs),
          fun H' h => h, fun x H3 hyl => ?_⟩
        obtain ⟨kp, rx⟩ := so.yld (q0 :: ξ) H2 ι2 S3 i x H3 _ s2 ok1 st2 hok (List.getElem?_eq_getElem hlt) hyl
        have s3 : Step H2 ι2 H3 ι2 := ⟨⟨[], (List.append_nil _).symm⟩, fun a o h n => ⟨kp a o h, n⟩, fun a o u h => kp a _ h⟩
        have st3 := st2.beside kp
        have re3 : RepE K H3 (q0 :: ξ) ι2 (wipeE ρ vs) (wipe σ vs) := by
          have r0 := wipeE_ok (s1.env re) vs
          exact ⟨r0.len, fun i d e => by
            obtain ⟨v, h1, h2⟩ := r0.at_ i d e
            exact ⟨v, h1, RepV.mv (mvD (s2.trans s3)) h2.fit h2⟩⟩
        cases q : g s.items[i] (wipeE ρ vs) with
        | none => rw [q] at e3; cases e3
        | some ρ1 =>
          rw [q] at e3
          obtain ⟨c, S4, e4, e3⟩ := bnd_some e3
          refine ⟨q0 :: ξ, ι2, wipeE ρ vs, S3, _, ρ1, st3, re3, rx, q, fun σ4 re4 l4 o4 => ⟨wipe_same hw l4 o4, tB.run st3 re4 e4 fun H5 ι5 s5 st5 => ?_⟩⟩
          have hu5 : H5 q0 = some (.lst us) := (s5.keep q0 _ (kp q0 _ hu) (fun z => st2.apart q0 z List.mem_cons_self)).1
          cases c with
          | true =>
            refine iteT ?_
            obtain ⟨y, S6, e6, e3⟩ := bnd_some e3
            obtain ⟨zs', S7, e7, e3⟩ := bnd_some e3
            cases e3
            refine tE.run st5 (s5.env re4) e6 fun yv H6 ι6 s6 st6 ry => ?_
            have hu6 : H6 q0 = some (.lst us) := (s6.keep q0 _ hu5 (fun z => st5.apart q0 z List.mem_cons_self)).1
            have ru6 : RepL K H6 (q0 :: ξ) ι6 made us := s6.vals (s5.vals (s3.vals ru))
            refine ⟨us, hu6, ?_, _, by omega, rfl, hlt, ι6, S6, zs', us ++ [yv], made ++ [y], ?_, ?_, upd_same, ?_, e7, ?_⟩
            · rw [hy, List.length_append, List.length_cons] at hz
              rw [ru.length]
              omega
            · have z := s2.trans (s3.trans (s5.trans s6))
              exact ⟨z.more, fun a o h n => ⟨by rw [upd_ne (ne_of_none h hD)]; exact (z.keep a o h n).1, (z.keep a o h n).2⟩, fun a o u h => by rw [upd_ne (ne_of_none h hD)]; exact z.frz a o u h⟩
            · have m : ∀ n, Mv H6 (q0 :: ξ) ι6 n (upd H6 q0 (.lst (us ++ [yv]))) (q0 :: ξ) ι6 := fun n => ⟨fun a o h h1 h2 => ⟨by rw [upd_ne (fun z => h1 (by rw [z]; exact List.mem_cons_self))]; exact h, h1, h2⟩, fun _ _ _ e => e⟩
              refine ⟨st6.len, st6.nd, st6.apart, live1 upd_same fun a ha => ?_, fun n c e => ?_, st6.asc⟩
              · rw [upd_ne (show a ≠ q0 from fun w => fD.1 (by rw [← w]; exact ha))]
                exact st6.live a (List.mem_cons_of_mem _ ha)
              · obtain ⟨a, h1, h2⟩ := st6.cell n c e
                exact ⟨a, h1, h2.mono (fun _ _ r => RepL.mv (m _) r.fit r) fun o q => by rw [upd_ne (fun z => st6.apart a (List.mem_of_getElem? h1) (by rw [z]; exact List.mem_cons_self))]; exact q⟩
            · have m : ∀ n, Mv H6 (q0 :: ξ) ι6 n (upd H6 q0 (.lst (us ++ [yv]))) (q0 :: ξ) ι6 := fun n => ⟨fun a o h h1 h2 => ⟨by rw [upd_ne (fun z => h1 (by rw [z]; exact List.mem_cons_self))]; exact h, h1, h2⟩, fun _ _ _ e => e⟩
              exact RepL.mv (m _) (ru6.append (.one ry)).fit (ru6.append (.one ry))
            · rw [hy, List.append_assoc]
              rfl
          | false =>
            refine iteF ⟨_, by omega, rfl, hlt, ι5, S4, zs, us, made, s2.trans (s3.trans s5), st5, hu5, s5.vals (s3.vals ru), ?_, hy⟩
            exact e3
      · cases e3
    · have hl : i = s.items.length := by omega
      subst hl
      rw [List.drop_length] at e3
      have e3 : (if s.ok S3 then some (([] : List D), S3) else none) = some (zs, S2) := e3
      split at e3
      · rename_i hok
        cases e3
        rw [List.append_nil] at hy
        subst hy
        exact .inl ⟨so.stop (q0 :: ξ) H2 ι2 _ s2 ok1 st2 hok, k q0 us H2 ι2 nq (s1.trans s2) st2 fD.1 hu ru⟩
      · cases e3
section
variable {X : Cx} {elt tg iter : Expr} {ifs : List Expr} {scope : Scope} {own : List (Str × Nat)} {pos : Pos} {fi : IDen} {g : NDen} {t : TDen} {b : EDen} {ws : List Nat}
abbrev MTs (X : Cx) (ifs : List Expr) (f : TDen) : Prop := PTs X ifs (tB X.K f)
theorem mts_nil : MTs X [] tYesD := ⟨fun pins s σ H Q I ⟨ξ, ι, ρ, S, b, S', st, re, e, k⟩ => pts_nil.run pins s σ H Q I (by cases e; exact k H ι Step.refl st)⟩
theorem mts_one {c : Expr} {f : TDen} (h : MT X c f) : MTs X [c] f := pts_one h
theorem lc_fl {vs : List Nat} (hw : ∀ i ∈ ws, i ∈ vs) {σ : L2.St} {H : Hp} {Q : VK} (h : tE X.K (dLc fi g t b vs) σ H Q) : tLc (tI X.K fi) (tGn X.K ws g) (tB X.K t) (tE X.K b) vs σ H Q := by
  obtain ⟨ξ, ι, ρ, S, d, S', st, re, e, k⟩ := h
  obtain ⟨s, S1, e1, e⟩ := bnd_some e
  obtain ⟨ys, S2, e2, e⟩ := bnd_some e
  split at e
  · rename_i hz
    cases e
    refine lc_reads hw st re e1 e2 (of_decide_eq_true hz) fun p us H' ι' np s' st' pn hp r => ?_
    exact k _ H' ι' s' st'.off ⟨p, us, rfl, ⟨hp, pn, fun z => st'.apart p z List.mem_cons_self⟩, RepL.mv Mv.off r.fit r⟩
  · cases e
theorem lc_cell {vs : List Nat} (hw : ∀ i ∈ ws, i ∈ vs) {σ : L2.St} {H : Hp} {Q : VK} (h : tE X.K (dLcC fi g t b vs) σ H Q) : tLc (tI X.K fi) (tGn X.K ws g) (tB X.K t) (tE X.K b) vs σ H Q := by
  obtain ⟨ξ, ι, ρ, S, d, S', st, re, e, k⟩ := h
  obtain ⟨s, S1, e1, e⟩ := bnd_some e
  obtain ⟨ys, S2, e2, e⟩ := bnd_some e
  split at e
  · rename_i hz
    split at e
    · rename_i hf
      cases e
      refine lc_reads hw st re e1 e2 (of_decide_eq_true hz) fun p us H' ι' np s' st' pn hp r => ?_
      refine k _ H' (ι' ++ [p]) ?_ (st'.adopt hp pn r hf) ⟨p, rfl, by rw [← st'.len, List.getElem?_append_right (Nat.le_refl _), Nat.sub_self]; rfl⟩
      obtain ⟨m, rfl⟩ := s'.more
      refine ⟨⟨m ++ [p], by rw [List.append_assoc]⟩, fun a o h n => ⟨(s'.keep a o h n).1, fun z => ?_⟩, s'.frz⟩
      rcases List.mem_append.mp z with z | z
      · exact (s'.keep a o h n).2 z
      · rw [List.mem_singleton.mp z, np] at h
        cases h
    · cases e
  · cases e
end
end MS

namespace MS
open PySem PySem.Spec PyProof.Rows L2

/-! ### sources -/
section
variable {X : Cx} {pos : Pos} {tg : Expr}
theorem _root_.L2.PI.or {tg iter : Expr} {t t' : TI} (h : PI X tg iter t) (h' : PI X tg iter t') : PI X tg iter (fun σ H R => t σ H R ∨ t' σ H R) := ⟨fun pins s σ H R I q => q.elim (h.run pins s σ H R I) (h'.run pins s σ H R I)⟩
theorem _root_.L2.PE.or {e : Expr} {t t' : TE} (h : PE X e t) (h' : PE X e t') : PE X e (fun σ H Q => t σ H Q ∨ t' σ H Q) := ⟨fun pins s σ H Q I q => q.elim (h.run pins s σ H Q I) (h'.run pins s σ H Q I)⟩
theorem Mv.to {H H' : Hp} {ξ ξ' ι ι' : List Addr} (s : Step H ι H' ι') (h : ∀ a ∈ ξ', a ∈ ξ ∨ H a = none) : Mv H ξ ι ι.length H' ξ' ι' := ⟨fun a o q h1 h2 => ⟨(s.keep a o q h2).1, fun z => (h a z).elim h1 (fun e => (by rw [e] at q; cases q)), (s.keep a o q h2).2⟩, s.mv (ξ := ξ).own⟩
def iSeq (fe : EDen) : IDen := fun ρ S => bnd (fe ρ S) fun d S => match d with
  | .tup ds => some (.fix ds, S)
  | .fl ds => some (.fix ds, S)
  | .rl ds => some (.fix ds, S)
  | .ref n => match S[n]? with
    | some (.lst ds) => some (.cell n ds, S)
    | _ => none
  | _ => none
theorem srcTup {K : Frag} {H : Hp} {ξ ι : List Addr} {ds : List D} {a : Addr} (r : RepV K H ξ ι (.tup ds) (.ref a)) : SrcOk K ξ ι H (.fix ds) (Itt K a) := by
  have to : ∀ {ξ' H' ι'}, Step H ι H' ι' → (∀ a ∈ ξ', a ∈ ξ ∨ H a = none) → ∃ vs, SqT K H' a vs ∧ RepL K H' ξ' ι' ds vs := fun {ξ' H' ι'} z h => by
    obtain ⟨b, vs, e, h1, h2⟩ := RepV.mv (Mv.to z h) r.fit r
    cases e
    exact ⟨vs, h1.sq, h2⟩
  refine ⟨fun ξ' H' ι' S i z h _ _ hi => ?_, fun ξ' H' ι' S z h _ _ => ?_, fun ξ' H' ι' S i x H3 d z h st _ e y => ?_⟩
  · obtain ⟨vs, q, r'⟩ := to z h
    have hl : i < vs.length := by rw [r'.length]; exact hi
    exact ⟨vs, vs[i], q, List.getElem?_eq_getElem hl⟩
  · obtain ⟨vs, q, r'⟩ := to z h
    exact ⟨vs, q, Nat.le_of_eq r'.length⟩
  · obtain ⟨vs, q, r'⟩ := to z h
    obtain ⟨rfl, hy⟩ := y
    obtain ⟨v, h1, h2⟩ := r'.get e
    have : v = x := Option.some.inj (h1.symm.trans (hy vs q))
    subst this
    exact ⟨fun _ _ o => o, h2⟩
theorem srcList {K : Frag} {H : Hp} {ξ ι : List Addr} {ds : List D} {a : Addr} (to : ∀ {ξ' H' ι'}, Step H ι H' ι' → (∀ a ∈ ξ', a ∈ ξ ∨ H a = none) → ∃ vs, SqL K H' a vs ∧ RepL K H' ξ' ι' ds vs) : SrcOk K ξ ι H (.fix ds) (Itl K a) := by
  refine ⟨fun ξ' H' ι' S i z h _ _ hi => ?_, fun ξ' H' ι' S z h _ _ => ?_, fun ξ' H' ι' S i x H3 d z h st _ e y => ?_⟩
  · obtain ⟨vs, q, r'⟩ := to z h
    have hl : i < vs.length := by rw [r'.length]; exact hi
    exact ⟨vs, vs[i], q, List.getElem?_eq_getElem hl⟩
  · obtain ⟨vs, q, r'⟩ := to z h
    exact ⟨vs, q, Nat.le_of_eq r'.length⟩
  · obtain ⟨vs, q, r'⟩ := to z h
    obtain ⟨rfl, hy⟩ := y
    obtain ⟨v, h1, h2⟩ := r'.get e
    have : v = x := Option.some.inj (h1.symm.trans (hy vs q))
    subst this
    exact ⟨fun _ _ o => o, h2⟩
theorem srcCell {K : Frag} {H : Hp} {ξ ι : List Addr} {n : Nat} {ds : List D} {a : Addr} (hn : ι[n]? = some a) : SrcOk K ξ ι H (.cell n ds) (Itl K a) := by
  have to : ∀ {ξ' H' ι' S}, Step H ι H' ι' → StoOk K H' ξ' ι' S → Src.ok (.cell n ds) S = true → ∃ vs, SqL K H' a vs ∧ RepL K H' ξ' ι' ds vs := fun {ξ' H' ι' S} z st h => by
    unfold Src.ok cellIs at h
    simp only at h
    split at h
    · rename_i es q
      rw [D.sameL_eq h] at q
      obtain ⟨b, h1, vs, h2, h3⟩ := st.cell n _ q
      obtain ⟨m, rfl⟩ := z.more
      rw [List.getElem?_append_left (List.getElem?_eq_some_iff.mp hn).1, hn] at h1
      cases h1
      exact ⟨vs, .inl (.inl h2), h3⟩
    · cases h
  refine ⟨fun ξ' H' ι' S i z h st ok hi => ?_, fun ξ' H' ι' S z h st ok => ?_, fun ξ' H' ι' S i x H3 d z h st ok e y => ?_⟩
  · obtain ⟨vs, q, r'⟩ := to z st ok
    have hl : i < vs.length := by rw [r'.length]; exact hi
    exact ⟨vs, vs[i], q, List.getElem?_eq_getElem hl⟩
  · obtain ⟨vs, q, r'⟩ := to z st ok
    exact ⟨vs, q, Nat.le_of_eq r'.length⟩
  · obtain ⟨vs, q, r'⟩ := to z st ok
    obtain ⟨rfl, hy⟩ := y
    obtain ⟨v, h1, h2⟩ := r'.get e
    have : v = x := Option.some.inj (h1.symm.trans (hy vs q))
    subst this
    exact ⟨fun _ _ o => o, h2⟩
theorem mi_seq {e : Expr} {fe : EDen} (he : ME X e fe) : MI X tg e (iSeq fe) := ((pi_list he).or (pi_tup he)).weak fun σ H R ⟨ξ, ι, ρ, S, s, S', st, re, e, k⟩ => by
  obtain ⟨d, S1, e1, e⟩ := bnd_some e
  cases d with
  | tup ds =>
    cases e
    refine .inr (tE.run st re e1 fun v H1 ι1 s1 st1 r1 => ?_)
    have r1' := r1
    obtain ⟨a, vs, rfl, h2, h3⟩ := r1
    exact ⟨a, rfl, ⟨vs, h2.sq⟩, k _ H1 ι1 s1 st1 (srcTup r1')⟩
  | fl ds =>
    cases e
    refine .inl (tE.run st re e1 fun v H1 ι1 s1 st1 r1 => ?_)
    have r1' := r1
    obtain ⟨a, vs, rfl, h2, h3⟩ := r1
    refine ⟨a, rfl, ⟨vs, h2.sq⟩, k _ H1 ι1 s1 st1 (srcList fun z h => ?_)⟩
    obtain ⟨b, us, e, q1, q2⟩ := RepV.mv (Mv.to z h) r1'.fit r1'
    cases e
    exact ⟨us, q1.sq, q2⟩
  | rl ds =>
    cases e
    refine .inl (tE.run st re e1 fun v H1 ι1 s1 st1 r1 => ?_)
    have r1' := r1
    obtain ⟨a, vs, rfl, h2, h3⟩ := r1
    refine ⟨a, rfl, ⟨vs, h2.sq⟩, k _ H1 ι1 s1 st1 (srcList fun z h => ?_)⟩
    obtain ⟨b, us, e, q1, q2⟩ := RepV.mv (Mv.to z h) r1'.fit r1'
    cases e
    exact ⟨us, q1.sq, q2⟩
  | ref n =>
    simp only at e
    split at e
    · rename_i ds q
      cases e
      refine .inl (tE.run st re e1 fun v H1 ι1 s1 st1 r1 => ?_)
      obtain ⟨a, rfl, h⟩ := r1
      obtain ⟨b, h3, vs, h4, h5⟩ := st1.cell n _ q
      obtain rfl : b = a := Option.some.inj (h3.symm.trans h)
      exact ⟨b, rfl, ⟨vs, .inl (.inl h4)⟩, k _ H1 ι1 s1 st1 (srcCell h)⟩
    · cases e
  | _ => cases e
/-- texts, sign by sign -/
def signs (z : Str) : List D := z.cps.toList.map fun c => .str ⟨#[c]⟩
def iStrD (fe : EDen) : IDen := fun ρ S => bnd (fe ρ S) fun d S => match d with
  | .str z => some (.fix (signs z), S)
  | _ => none
theorem mi_str {e : Expr} {fe : EDen} (he : ME X e fe) : MI X tg e (iStrD fe) := (pi_str he).weak fun σ H R ⟨ξ, ι, ρ, S, s, S', st, re, e, k⟩ => by
  obtain ⟨d, S1, e1, e⟩ := bnd_some e
  cases d with
  | str z =>
    cases e
    refine tE.run st re e1 fun v H1 ι1 s1 st1 r1 => ⟨z, r1, k _ H1 ι1 s1 st1 ⟨fun _ _ _ _ i _ _ _ _ hi => ?_, fun _ _ _ _ _ _ _ _ => ?_, fun _ H' _ _ i x H3 d _ _ _ _ e y => ?_⟩⟩
    · show i < z.cps.size
      simpa [Src.items, signs] using hi
    · show z.cps.size ≤ _
      simp [Src.items, signs]
    · obtain ⟨rfl, c, h1, rfl⟩ := y
      refine ⟨fun _ _ o => o, ?_⟩
      have e' : (signs z)[i]? = some d := e
      unfold signs at e'
      rw [List.getElem?_map, Array.getElem?_toList, h1] at e'
      cases e'
      rfl
  | _ => cases e
/-- ranges -/
def upto (lo : Int) (n : Nat) : List D := (List.range n).map fun (i : Nat) => .int (lo + i)
theorem upto_length (lo : Int) (n : Nat) : (upto lo n).length = n := by simp [upto]
theorem upto_get {lo : Int} {n i : Nat} (h : i < n) : (upto lo n)[i]? = some (.int (lo + i)) := by simp [upto, h]
theorem srcRange {K : Frag} {H : Hp} {ξ ι : List Addr} {lo : Int} {n : Nat} : SrcOk K ξ ι H (.fix (upto lo n)) (Itr lo n) := by
  refine ⟨fun _ _ _ _ i _ _ _ _ hi => ?_, fun _ _ _ _ _ _ _ _ => ?_, fun _ H' _ _ i x H3 d _ _ _ _ e y => ?_⟩
  · show i < n
    simpa [Src.items, upto_length] using hi
  · show n ≤ _
    simp [Src.items, upto_length]
  · obtain ⟨rfl, rfl⟩ := y
    have e : (upto lo n)[i]? = some d := e
    have hi : i < n := by
      rw [← upto_length lo n]
      exact (List.getElem?_eq_some_iff.mp e).1
    rw [upto_get hi] at e
    cases e
    exact ⟨fun _ _ o => o, rfl⟩
def iRange1 (fa : ADen) : IDen := fun ρ S => bnd (fa ρ S) fun ds S => match ds with
  | [.int j] => if -(2 ^ 62) ≤ j ∧ j < 2 ^ 62 then some (.fix (upto 0 j.toNat), S) else none
  | _ => none
def iRange2 (fa : ADen) : IDen := fun ρ S => bnd (fa ρ S) fun ds S => match ds with
  | [.int i, .int j] => if -(2 ^ 62) ≤ i ∧ i < 2 ^ 62 ∧ -(2 ^ 62) ≤ j ∧ j < 2 ^ 62 then some (.fix (upto i (j - i).toNat), S) else none
  | _ => none
theorem mi_range1 {a : Expr} {fa : ADen} {p : Pos} (hg : Gl X "range") (hm : X.mg "range" = none) (ha : MA X [a] fa) (hs : starEach [a] X.env = [(false, eval a X.env)] := by rfl) : MI X tg (.Call (.Name "range" p) [a] [] pos) (iRange1 fa) :=
  (pi_range1 hg hm ha hs).weak fun σ H R ⟨ξ, ι, ρ, S, s, S', st, re, e, k⟩ => by
    obtain ⟨ds, S1, e1, e⟩ := bnd_some e
    refine tA.run st re e1 fun vs H1 ι1 s1 st1 r1 => ?_
    match ds, e, r1 with
    | [.int j], e, r1 =>
      simp only at e
      split at e
      · rename_i h
        cases e
        obtain ⟨v, rfl, rv⟩ := RepL.one' r1
        exact ⟨j, by rw [show v = .int j from rv], h.1, h.2, k _ H1 ι1 s1 st1 srcRange⟩
      · cases e
theorem mi_range2 {a b : Expr} {fa : ADen} {p : Pos} (hg : Gl X "range") (hm : X.mg "range" = none) (ha : MA X [a, b] fa) (hs : starEach [a, b] X.env = [(false, eval a X.env), (false, eval b X.env)] := by rfl) (hs2 : starEach [b] X.env = [(false, eval b X.env)] := by rfl) :
    MI X tg (.Call (.Name "range" p) [a, b] [] pos) (iRange2 fa) := (pi_range2 hg hm ha hs hs2).weak fun σ H R ⟨ξ, ι, ρ, S, s, S', st, re, e, k⟩ => by
  obtain ⟨ds, S1, e1, e⟩ := bnd_some e
  refine tA.run st re e1 fun vs H1 ι1 s1 st1 r1 => ?_
  match ds, e, r1 with
  | [.int i, .int j], e, r1 =>
    simp only at e
    split at e
    · rename_i h
      cases e
      obtain ⟨v, w, rfl, rv, rw'⟩ := RepL.two' r1
      exact ⟨i, j, by rw [show v = .int i from rv, show w = .int j from rw'], h, k _ H1 ι1 s1 st1 srcRange⟩
    · cases e
end

/-! ### dicts -/
def dlook (kvs : List (Key × D)) (k : Key) : Option D := (kvs.find? fun kv => decide (kv.1 = k)).map (·.2)
def dput (kvs : List (Key × D)) (k : Key) (d : D) : List (Key × D) := if (kvs.any fun kv => decide (kv.1 = k)) = true then kvs.map (fun kv => if kv.1 = k then (kv.1, d) else kv) else kvs ++ [(k, d)]
def keyOf : D → Option Key
  | .int i => some (.inl i)
  | .str x => some (.inr x)
  | _ => none
section
variable {K : Frag} {H : Hp} {ξ ι : List Addr}
theorem keyOf_rep {d : D} {v : V} {k : Key} (e : keyOf d = some k) (r : RepV K H ξ ι d v) : v = kV k := by
  cases d with
  | int i => cases e; exact r
  | str x => cases e; exact r
  | _ => cases e
theorem dlook_rep {k : Key} : ∀ {kvs : List (Key × D)} {ws : List (Key × V)}, ws.map (·.1) = kvs.map (·.1) → RepL K H ξ ι (kvs.map (·.2)) (ws.map (·.2)) →
    (dlook kvs k = none → valV ws k = none) ∧ ∀ d, dlook kvs k = some d → ∃ v, valV ws k = some v ∧ RepV K H ξ ι d v
  | [], ws, e, r => by
    have : ws = [] := List.eq_nil_of_length_eq_zero (by simpa using congrArg List.length e)
    subst this
    exact ⟨fun _ => rfl, fun d h => by cases h⟩
  | (k1, d1) :: kvs, [], e, r => by cases e
  | (k1, d1) :: kvs, (k2, v2) :: ws, e, r => by
    have e' : k2 :: ws.map (·.1) = k1 :: kvs.map (·.1) := e
    obtain ⟨hk, e2⟩ := List.cons.inj e'
    subst hk
    obtain ⟨v, t, h1, h2, h3⟩ := r
    have h1' : v2 :: ws.map (·.2) = v :: t := h1
    obtain ⟨hv, ht⟩ := List.cons.inj h1'
    subst hv
    subst ht
    have ih := dlook_rep (k := k) e2 h3
    by_cases q : k2 = k
    · subst q
      have a : dlook ((k2, d1) :: kvs) k2 = some d1 := by simp [dlook]
      have b : valV ((k2, v2) :: ws) k2 = some v2 := valV_pos rfl
      rw [a, b]
      exact ⟨fun z => (by cases z), fun d z => (by cases z; exact ⟨v2, rfl, h2⟩)⟩
    · have a : dlook ((k2, d1) :: kvs) k = dlook kvs k := by simp [dlook, List.find?_cons, q]
      have b : valV ((k2, v2) :: ws) k = valV ws k := valV_neg q
      rw [a, b]
      exact ih
theorem dput_rep {k : Key} {d : D} {v : V} (rv : RepV K H ξ ι d v) {kvs : List (Key × D)} {ws : List (Key × V)} (e : ws.map (·.1) = kvs.map (·.1)) (r : RepL K H ξ ι (kvs.map (·.2)) (ws.map (·.2))) :
    (putK ws k v).map (·.1) = (dput kvs k d).map (·.1) ∧ RepL K H ξ ι ((dput kvs k d).map (·.2)) ((putK ws k v).map (·.2)) := by
  have an : ∀ {kvs : List (Key × D)} {ws : List (Key × V)}, ws.map (·.1) = kvs.map (·.1) → (ws.any fun kv => decide (kv.1 = k)) = kvs.any fun kv => decide (kv.1 = k) := fun {kvs ws} e => by
    have h : ∀ {α : Type} (l : List (Key × α)), (l.any fun kv => decide (kv.1 = k)) = (l.map (·.1)).any fun z => decide (z = k) := fun l => by rw [List.any_map]; rfl
    rw [h, h, e]
  unfold putK dput
  rw [an e]
  split
  · have go : ∀ {kvs : List (Key × D)} {ws : List (Key × V)}, ws.map (·.1) = kvs.map (·.1) → RepL K H ξ ι (kvs.map (·.2)) (ws.map (·.2)) →
        (ws.map (fun kv => if kv.1 = k then (kv.1, v) else kv)).map (·.1) = (kvs.map (fun kv => if kv.1 = k then (kv.1, d) else kv)).map (·.1) ∧ RepL K H ξ ι ((kvs.map (fun kv => if kv.1 = k then (kv.1, d) else kv)).map (·.2)) ((ws.map (fun kv => if kv.1 = k then (kv.1, v) else kv)).map (·.2)) := by
      intro kvs
      induction kvs with
      | nil =>
        intro ws e _
        have : ws = [] := List.eq_nil_of_length_eq_zero (by simpa using congrArg List.length e)
        subst this
        exact ⟨rfl, rfl⟩
      | cons p kvs ih =>
        intro ws e r
        obtain ⟨k1, d1⟩ := p
        cases ws with
        | nil => cases e
        | cons q ws =>
          obtain ⟨k2, v2⟩ := q
          have e' : k2 :: ws.map (·.1) = k1 :: kvs.map (·.1) := e
          obtain ⟨hk, e2⟩ := List.cons.inj e'
          subst hk
          obtain ⟨v', t, h1, h2, h3⟩ := r
          have h1' : v2 :: ws.map (·.2) = v' :: t := h1
          obtain ⟨hv, ht⟩ := List.cons.inj h1'
          subst hv
          subst ht
          obtain ⟨i1, i2⟩ := ih e2 h3
          by_cases q : k2 = k
          · simp only [List.map_cons, if_pos q]
            exact ⟨by rw [i1], v, _, rfl, rv, i2⟩
          · simp only [List.map_cons, if_neg q]
            exact ⟨by rw [i1], v2, _, rfl, h2, i2⟩
    exact go e r
  · simp only [List.map_append, List.map_cons, List.map_nil]
    exact ⟨by rw [e], r.append (.one rv)⟩
theorem dput_length_le (kvs : List (Key × D)) (k : Key) (d : D) : (dput kvs k d).length ≤ kvs.length + 1 := by
  unfold dput
  split
  · rw [List.length_map]; omega
  · simp
theorem dput_fit {n : Nat} {k : Key} {d : D} {kvs : List (Key × D)} (h : D.fitL n (kvs.map (·.2)) = true) (hd : D.fit n d = true) : D.fitL n ((dput kvs k d).map (·.2)) = true := by
  unfold dput
  split
  · refine D.fitL_all.mpr fun x hx => ?_
    obtain ⟨p, hp, rfl⟩ := List.mem_map.mp hx
    obtain ⟨q, hq, rfl⟩ := List.mem_map.mp hp
    split
    · exact hd
    · exact D.fitL_all.mp h _ (List.mem_map.mpr ⟨q, hq, rfl⟩)
  · refine D.fitL_all.mpr fun x hx => ?_
    rw [List.map_append] at hx
    rcases List.mem_append.mp hx with hx | hx
    · exact D.fitL_all.mp h x hx
    · rw [List.mem_singleton.mp (show x ∈ [d] from hx)]
      exact hd
end
/-- a[i], of anything that has items -/
def dctAt (S : Sto) : D → Option (List (Key × D))
  | .ref n => match S[n]? with
    | some (.dct kvs) => some kvs
    | _ => none
  | _ => none
theorem dctAt_ok {K : Frag} {H : Hp} {ξ ι : List Addr} {S : Sto} {d : D} {v : V} {kvs : List (Key × D)} (st : StoOk K H ξ ι S) (r : RepV K H ξ ι d v) (e : dctAt S d = some kvs) :
    ∃ n a ws, d = .ref n ∧ v = .ref a ∧ ι[n]? = some a ∧ S[n]? = some (.dct kvs) ∧ H a = some (.dK ws) ∧ ws.map (·.1) = kvs.map (·.1) ∧ RepL K H ξ ι (kvs.map (·.2)) (ws.map (·.2)) := by
  cases d with
  | ref n =>
    unfold dctAt at e
    simp only at e
    split at e
    · rename_i es q
      cases e
      obtain ⟨a, h1, h2⟩ := r
      obtain ⟨b, h3, ws, h4, h5, h6⟩ := st.cell n _ q
      obtain rfl : b = a := Option.some.inj (h3.symm.trans h2)
      exact ⟨n, b, ws, rfl, h1, h2, q, h4, h5, h6⟩
    · cases e
  | _ => cases e
def gItem : Op2 := fun x y S => match dctAt S x with
  | some kvs => (keyOf y).bind fun k => (dlook kvs k).map fun d => (d, S)
  | none => gIx x y S
section
variable {X : Cx} {pos : Pos}
theorem me_item (hu : X.A.units + 1 < cLine) {a b : Expr} {fa fb : EDen} (ha : ME X a fa) (hb : ME X b fb) (hs : PlainIx b := by exact fun _ _ => rfl) : ME X (.Subscript a b pos) (dOp gItem fa fb) :=
  ((pe_ix ix_seq ha hb hs).or (pe_dget hu ha hb hs)).weak fun σ H Q h => by
    obtain ⟨ξ, ι, ρ, S, d, S', st, re, e, k⟩ := id h
    obtain ⟨x, S1, e1, e⟩ := bnd_some e
    obtain ⟨y, S2, e2, e⟩ := bnd_some e
    unfold gItem at e
    split at e
    · rename_i kvs q
      cases q2 : keyOf y with
      | none => rw [q2] at e; cases e
      | some ky =>
        rw [q2] at e
        have e : (dlook kvs ky).map (fun d => (d, S2)) = some (d, S') := e
        cases q3 : dlook kvs ky with
        | none => rw [q3] at e; cases e
        | some z =>
          rw [q3] at e
          cases e
          refine .inr (tE.run st re e1 fun v1 H1 ι1 s1 st1 r1 => tE.run st1 (s1.env re) e2 fun v2 H2 ι2 s2 st2 r2 => ?_)
          obtain ⟨n, a, ws, rfl, rfl, h3, h4, h5, h6, h7⟩ := dctAt_ok st2 (s2.val r1) q
          obtain ⟨u, h8, h9⟩ := (dlook_rep (k := ky) h6 h7).2 _ q3
          refine ⟨a, u, rfl, ?_, ((k.next s1).next s2).here st2 h9⟩
          rw [keyOf_rep q2 r2, ← h8]
          exact DGet.k h5
    · refine .inl (tE.run st re e1 fun v1 H1 ι1 s1 st1 r1 => tE.run st1 (s1.env re) e2 fun v2 H2 ι2 s2 st2 r2 => ?_)
      exact m_ix H2 ξ ι2 S2 S' x y d v1 v2 Q st2 (s2.val r1) r2 e ((k.next s1).next s2)
/-- d[k] = v; xs[i] = v -/
def setItemD (o i d : D) (S : Sto) : Option Sto := match dctAt S o with
  | some kvs => match o with
    | .ref n => (keyOf i).bind fun k => if kvs.length < sizeLine ∧ D.fit n d = true then some (S.set n (.dct (dput kvs k d))) else none
    | _ => none
  | none => setL o i d S
def sSet (fo fi fv : EDen) : SDen := fun ρ S => bnd (fv ρ S) fun d S => bnd (fo ρ S) fun o S => bnd (fi ρ S) fun i S => (setItemD o i d S).map fun S => (.nx, ρ, S)
theorem _root_.L2.PS.or {st : Stmt} {t t' : TS} (h : PS X st t) (h' : PS X st t') : PS X st (fun T σ H => t T σ H ∨ t' T σ H) := ⟨fun pins s σ H T I q => q.elim (h.run pins s σ H T I) (h'.run pins s σ H T I)⟩
theorem ms_setItem (hu : X.A.units + 1 < cLine) {o i value : Expr} {fo fi fv : EDen} {pos' : Pos} (ho : ME X o fo) (hi : ME X i fi) (hv : ME X value fv) (hs : swapsWith value (some (.Subscript o i pos')) pos.line X.env = pure false := by rfl)
    (hs1 : swapsWithSole [.Subscript o i pos'] value pos.line X.env = pure false := by rfl) (hw : swappedStores [.Subscript o i pos'] value X.env = pure none := by rfl)
    (h1 : (assignEach [.Subscript o i pos'] X.env).map (·.2) = [assign (.Subscript o i pos') X.env] := by rfl)
    (ha : ∀ v, assign (.Subscript o i pos') X.env v = (do
      let ov ← holding [v] (eval o X.env)
      let iv ← holding [v, ov] (eval i X.env)
      standAt pos'
      holding [v, ov, iv] (setItem ov iv v)
      release [v, ov, iv] []) := by intro _; rfl) : MS X (.Assign [.Subscript o i pos'] value pos) (sSet fo fi fv) :=
  ((ps_asg hv (pg_sub ho hi set_list ha) hs1 hw h1).or (ps_dput hu ho hi hv hs)).weak fun T σ H ⟨ξ, ι, ρ, S, o', ρ', S', st, re, e, k⟩ => by
    obtain ⟨d, S1, e1, e⟩ := bnd_some e
    obtain ⟨x, S2, e2, e⟩ := bnd_some e
    obtain ⟨y, S3, e3, e⟩ := bnd_some e
    cases q : setItemD x y d S3 with
    | none => rw [q] at e; cases e
    | some S4 =>
      rw [q] at e
      cases e
      unfold setItemD at q
      split at q
      · rename_i kvs q1
        refine .inr (tE.run st re e1 fun v1 H1 ι1 s1 st1 r1 => tE.run st1 (s1.env re) e2 fun v2 H2 ι2 s2 st2 r2 => tE.run st2 (s2.env (s1.env re)) e3 fun v3 H3 ι3 s3 st3 r3 => ?_)
        obtain ⟨n, a, ws, rfl, rfl, h3, h4, h5, h6, h7⟩ := dctAt_ok st3 (s3.val r2) q1
        simp only at q
        cases q2 : keyOf y with
        | none => rw [q2] at q; cases q
        | some ky =>
          rw [q2] at q
          have q : (if kvs.length < sizeLine ∧ D.fit n d = true then some (S3.set n (.dct (dput kvs ky d))) else none) = some S' := q
          split at q
          · rename_i hz
            cases q
            have hl : ws.length = kvs.length := by simpa using congrArg List.length h6
            have s4 : Step H3 ι3 (upd H3 a (.dK (putK ws ky v1))) ι3 := Step.write (S := S3) h3 (.dK h5)
            have rv := s4.val (s3.val (s2.val r1))
            obtain ⟨p1, p2⟩ := dput_rep (k := ky) rv h6 (s4.vals h7)
            refine ⟨a, _, rfl, ?_, k σ _ ι3 (s1.trans (s2.trans (s3.trans s4))) (st3.write h3 (.dK h5) ⟨_, upd_same, p1, p2⟩ (dput_fit (st3.asc n _ h4) hz.2)) (s4.env (s3.env (s2.env (s1.env re))))⟩
            rw [keyOf_rep q2 r3]
            exact DPut.k h5 (by rw [hl]; exact hz.1)
          · cases q
      · refine .inl (tE.run st re e1 fun v1 H1 ι1 s1 st1 r1 => tE.run st1 (s1.env re) e2 fun v2 H2 ι2 s2 st2 r2 => tE.run st2 (s2.env (s1.env re)) e3 fun v3 H3 ι3 s3 st3 r3 => ?_)
        exact m_setL H3 ξ ι3 S3 S' x y d v2 v3 v1 _ st3 (s3.val r2) r3 (s3.val (s2.val r1)) q fun H4 ι4 s4 st4 => k σ H4 ι4 (s1.trans (s2.trans (s3.trans s4))) st4 (s4.env (s3.env (s2.env (s1.env re))))
/-- {} and written dicts with written keys -/
theorem StoOk.adoptC {K : Frag} {H : Hp} {ξ ι : List Addr} {S : Sto} {p : Addr} {c : C} (st : StoOk K H (p :: ξ) ι S) (pn : p ∉ ξ) (hc : ∀ ι', (∀ ds vs, RepL K H (p :: ξ) ι ds vs → RepL K H ξ ι' ds vs) → CellOk K H ξ ι' p c) (hf : C.fit S.length c = true) : StoOk K H ξ (ι ++ [p]) (S ++ [c]) := by
  have pi : p ∉ ι := fun z => st.apart p z List.mem_cons_self
  have m : ∀ n, n ≤ ι.length → Mv H (p :: ξ) ι n H ξ (ι ++ [p]) := fun n hn => ⟨fun a o h h1 h2 => ⟨h, fun z => h1 (List.mem_cons_of_mem _ z), fun z => by
    rcases List.mem_append.mp z with z | z
    · exact h2 z
    · exact h1 (by rw [List.mem_singleton.mp z]; exact List.mem_cons_self)⟩, fun i a hi e => by rw [List.getElem?_append_left (by omega)]; exact e⟩
  refine ⟨by simp [st.len], ?_, fun a ha z => ?_, fun a ha => st.live a (List.mem_cons_of_mem _ ha), fun n d e => ?_, fun n d e => ?_⟩
  · rw [List.nodup_append]
    exact ⟨st.nd, by simp, fun a ha b hb => by rw [List.mem_singleton.mp hb]; exact fun z => pi (z ▸ ha)⟩
  · rcases List.mem_append.mp ha with ha | ha
    · exact st.apart a ha (List.mem_cons_of_mem _ z)
    · rw [List.mem_singleton.mp ha] at z
      exact pn z
  · by_cases hn : n < S.length
    · rw [List.getElem?_append_left hn] at e
      obtain ⟨a, h1, h2⟩ := st.cell n d e
      exact ⟨a, by rw [List.getElem?_append_left (by rw [st.len]; exact hn)]; exact h1, h2.mono (fun _ _ r => RepL.mv (m _ (Nat.le_refl _)) r.fit r) fun _ q => q⟩
    · rw [List.getElem?_append_right (by omega)] at e
      have hz : n - S.length = 0 := by
        rcases Nat.eq_zero_or_pos (n - S.length) with z | z
        · exact z
        · rw [List.getElem?_eq_none (by simp; omega)] at e; cases e
      rw [hz] at e
      cases e
      exact ⟨p, by rw [List.getElem?_append_right (by rw [st.len]; omega), st.len, hz]; rfl, hc _ fun _ _ r => RepL.mv (m _ (Nat.le_refl _)) r.fit r⟩
  · by_cases hn : n < S.length
    · rw [List.getElem?_append_left hn] at e
      exact st.asc n d e
    · rw [List.getElem?_append_right (by omega)] at e
      have hz : n - S.length = 0 := by
        rcases Nat.eq_zero_or_pos (n - S.length) with z | z
        · exact z
        · rw [List.getElem?_eq_none (by simp; omega)] at e; cases e
      rw [hz] at e
      cases e
      rw [show n = S.length by omega]
      exact hf
/-- the list at p is made beside the store; now it is one of its things -/
theorem StoOk.over {K : Frag} {H : Hp} {ξ ι : List Addr} {S : Sto} {p : Addr} {o : HO} (st : StoOk K H ξ ι S) (hp : H p = none) : StoOk K (L2.upd H p o) (p :: ξ) ι S := by
  have f := st.fresh hp
  have s := st.upd (o := o) hp
  have m : Mv H ξ ι ι.length (L2.upd H p o) (p :: ξ) ι := ⟨fun a u h h1 h2 => ⟨keep_upd hp a u h, fun z => (List.mem_cons.mp z).elim (fun z => by rw [z, hp] at h; cases h) h1, h2⟩, fun _ _ _ e => e⟩
  refine ⟨s.len, s.nd, fun a ha z => ?_, fun a ha => ?_, fun n c e => ?_, s.asc⟩
  · rcases List.mem_cons.mp z with z | z
    · exact f.2 (z ▸ ha)
    · exact s.apart a ha z
  · rcases List.mem_cons.mp ha with rfl | ha
    · rw [upd_same]; exact fun z => nomatch z
    · exact s.live a ha
  · obtain ⟨a, h1, h2⟩ := st.cell n c e
    exact ⟨a, h1, h2.mono (fun _ _ r => RepL.mv m r.fit r) (keep_upd hp a)⟩
def dNewD : EDen := fun _ S => some (.ref S.length, S ++ [.dct []])
theorem me_newD : ME X (.Dict [] [] pos) dNewD := pe_dnewK.weak fun σ H Q ⟨ξ, ι, ρ, S, d, S', st, re, e, k⟩ => by
  cases e
  intro p hp
  exact k _ _ (ι ++ [p]) (Step.push st hp) (st.push hp ⟨[], upd_same, rfl, rfl⟩ rfl) ⟨p, rfl, by rw [← st.len, List.getElem?_append_right (Nat.le_refl _), Nat.sub_self]; rfl⟩
def dDispL : List (Key × EDen) → Env → Sto → Option (List (Key × D) × Sto)
  | [] => fun _ S => some ([], S)
  | (k, f) :: r => fun ρ S => bnd (f ρ S) fun d S => bnd (dDispL r ρ S) fun ps S => some ((k, d) :: ps, S)
def dDisp (kfs : List (Key × EDen)) : EDen := fun ρ S => bnd (dDispL kfs ρ S) fun kds S => if D.fitL S.length (kds.map (·.2)) then some (.ref S.length, S ++ [.dct kds]) else none
abbrev MPs (X : Cx) (pos : Pos) (keys : List (Option Expr)) (values : List Expr) (kfs : List (Key × EDen)) : Prop := PPs X pos keys values (kfs.map fun p => (tC (kV p.1), tE X.K p.2))
theorem mps_nil : MPs X pos [] [] [] := pps_nil
theorem mps_cons {k : Key} {e v : Expr} {f : EDen} {ks : List (Option Expr)} {vs : List Expr} {r : List (Key × EDen)} (hk : PE X e (tC (kV k))) (hv : ME X v f) (hr : MPs X pos ks vs r) : MPs X pos (some e :: ks) (v :: vs) ((k, f) :: r) := pps_cons hk hv hr
theorem mergeK_nd : ∀ (more acc : List (Key × V)), ((acc ++ more).map (·.1)).Nodup → mergeK acc more = acc ++ more
  | [], acc, _ => by simp [mergeK]
  | (k, v) :: more, acc, h => by
    show mergeK (putK acc k v) more = _
    have no : (acc.any fun kv => decide (kv.1 = k)) = false := by
      rw [List.any_eq_false]
      intro p hp z
      have z : p.1 = k := of_decide_eq_true z
      rw [List.map_append, List.nodup_append] at h
      exact h.2.2 p.1 (List.mem_map.mpr ⟨p, hp, rfl⟩) k (by simp) z
    have e : putK acc k v = acc ++ [(k, v)] := by unfold putK; rw [no]; rfl
    rw [e, mergeK_nd more (acc ++ [(k, v)]) (by rw [List.append_assoc]; exact h), List.append_assoc]
    rfl
theorem disp_run {K : Frag} : ∀ (kfs : List (Key × EDen)) {σ : L2.St} {H : Hp} {ξ ι : List Addr} {ρ : Env} {S S' : Sto} {kds : List (Key × D)} {Q : List (V × V) → Hp → Prop}, StoOk K H ξ ι S → RepE K H ξ ι ρ σ → dDispL kfs ρ S = some (kds, S') →
    (∀ (ws : List (Key × V)) H' ι', Step H ι H' ι' → StoOk K H' ξ ι' S' → ws.map (·.1) = kds.map (·.1) → RepL K H' ξ ι' (kds.map (·.2)) (ws.map (·.2)) → Q (ws.map fun kv => (kV kv.1, kv.2)) H') → tPairs (kfs.map fun p => (tC (kV p.1), tE K p.2)) σ H Q
  | [], σ, H, ξ, ι, ρ, S, S', kds, Q, st, re, e, k => by
    cases e
    exact k [] H ι Step.refl st rfl rfl
  | (ky, f) :: r, σ, H, ξ, ι, ρ, S, S', kds, Q, st, re, e, k => by
    obtain ⟨d, S1, e1, e⟩ := bnd_some e
    obtain ⟨ps, S2, e2, e⟩ := bnd_some e
    cases e
    show tE K f σ H fun y H2 => tPairs (r.map fun p => (tC (kV p.1), tE K p.2)) σ H2 fun ps H3 => Q ((kV ky, y) :: ps) H3
    refine tE.run st re e1 fun v1 H1 ι1 s1 st1 r1 => disp_run r st1 (s1.env re) e2 fun ws H2 ι2 s2 st2 h1 h2 => ?_
    exact k ((ky, v1) :: ws) H2 ι2 (s1.trans s2) st2 (by simp only [List.map_cons]; rw [h1]) ⟨v1, _, rfl, s2.val r1, h2⟩
theorem dDispL_keys : ∀ (kfs : List (Key × EDen)) {ρ : Env} {S S' : Sto} {kds : List (Key × D)}, dDispL kfs ρ S = some (kds, S') → kds.map (·.1) = kfs.map (·.1)
  | [], _, _, _, _, e => by cases e; rfl
  | (ky, f) :: r, _, _, _, _, e => by
    obtain ⟨d, S1, e1, e⟩ := bnd_some e
    obtain ⟨ps, S2, e2, e⟩ := bnd_some e
    cases e
    simp only [List.map_cons]
    rw [dDispL_keys r e2]
theorem me_disp {keys : List (Option Expr)} {values : List Expr} {kfs : List (Key × EDen)} (h : MPs X pos keys values kfs) (nd : (kfs.map (·.1)).Nodup) (hall : keys.all (·.isSome) = true := by rfl) (hl : keys.length = values.length := by rfl) (h0 : keys ≠ [] := by exact fun z => nomatch z)
    (h15 : keys.length ≤ 15 := by decide) (hk : kfs.length ≤ 15 := by decide) : ME X (.Dict keys values pos) (dDisp kfs) := (pe_disp h hall hl h0 h15).weak fun σ H Q ⟨ξ, ι, ρ, S, d, S', st, re, e, k⟩ => by
  obtain ⟨kds, S1, e1, e⟩ := bnd_some e
  split at e
  · rename_i hf
    cases e
    intro p hp
    have f := st.fresh hp
    have st0 := st.over (o := .dK []) hp
    have re0 : RepE X.K (upd H p (.dK [])) (p :: ξ) ι ρ σ := ⟨re.len, fun i d e => by
      obtain ⟨v, h1, h2⟩ := re.at_ i d e
      exact ⟨v, h1, RepV.mv (n := ι.length) ⟨fun a u h h1 h2 => ⟨keep_upd hp a u h, fun z => (List.mem_cons.mp z).elim (fun z => by rw [z, hp] at h; cases h) h1, h2⟩, fun _ _ _ e => e⟩ h2.fit h2⟩⟩
    refine disp_run kfs st0 re0 e1 fun ws H2 ι2 s2 st2 h1 h2 => ?_
    have h3 : H2 p = some (.dK []) := (s2.keep p _ upd_same f.2).1
    have len : ws.length = kfs.length := by
      have := congrArg List.length (h1.trans (dDispL_keys kfs e1))
      simpa using this
    refine ⟨h3, ws, rfl, by omega, ?_⟩
    have mk : mergeK [] ws = ws := by
      rw [mergeK_nd ws [] (by rw [List.nil_append, h1, dDispL_keys kfs e1]; exact nd)]
      rfl
    rw [mk]
    -- the dict at p is written: it becomes one of the store's things
    have pn2 : p ∉ ι2 := fun z => st2.apart p z List.mem_cons_self
    have m : ∀ n, Mv H2 (p :: ξ) ι2 n (upd H2 p (.dK ws)) (p :: ξ) ι2 := fun n => ⟨fun a o h g1 g2 => ⟨by rw [upd_ne (fun z => g1 (by rw [z]; exact List.mem_cons_self))]; exact h, g1, g2⟩, fun _ _ _ e => e⟩
    have st3 : StoOk X.K (upd H2 p (.dK ws)) (p :: ξ) ι2 S1 := by
      refine ⟨st2.len, st2.nd, st2.apart, fun a ha => ?_, fun n c e => ?_, st2.asc⟩
      · rcases List.mem_cons.mp ha with rfl | ha
        · rw [upd_same]; exact fun z => nomatch z
        · rw [upd_ne (show a ≠ p from fun w => f.1 (by rw [← w]; exact ha))]
          exact st2.live a (List.mem_cons_of_mem _ ha)
      · obtain ⟨a, g1, g2⟩ := st2.cell n c e
        exact ⟨a, g1, g2.mono (fun _ _ r => RepL.mv (m _) r.fit r) fun o q => by rw [upd_ne (fun z => st2.apart a (List.mem_of_getElem? g1) (by rw [z]; exact List.mem_cons_self))]; exact q⟩
    refine k _ _ (ι2 ++ [p]) ?_ (st3.adoptC f.1 (fun ι' mv => ⟨ws, upd_same, h1, mv _ _ (RepL.mv (m _) h2.fit h2)⟩) hf) ⟨p, rfl, by rw [← st3.len, List.getElem?_append_right (Nat.le_refl _), Nat.sub_self]; rfl⟩
    obtain ⟨mm, rfl⟩ := s2.more
    refine ⟨⟨mm ++ [p], by rw [List.append_assoc]⟩, fun a o h n => ?_, fun a o u h => by rw [upd_ne (ne_of_none h hp)]; exact s2.frz a o u (keep_upd hp a _ h)⟩
    have ne : a ≠ p := ne_of_none h hp
    obtain ⟨q1, q2⟩ := s2.keep a o (keep_upd hp a o h) n
    refine ⟨by rw [upd_ne ne]; exact q1, fun z => ?_⟩
    rcases List.mem_append.mp z with z | z
    · exact q2 z
    · exact ne (List.mem_singleton.mp z)
  · cases e

/-! ### methods -/
def MMeth (K : Frag) (r : V → List V → Hp → VK → Prop) (g : D → List D → Sto → Option (D × Sto)) : Prop := ∀ (H : Hp) (ξ ι : List Addr) (S S' : Sto) (o : D) (ds : List D) (d : D) (v : V) (vs : List V) (Q : VK), StoOk K H ξ ι S → RepV K H ξ ι o v → RepL K H ξ ι ds vs → g o ds S = some (d, S') → Ans K ξ ι H S' d Q → r v vs H Q
def isL (S : Sto) (o : D) : Bool := (listOf S o).isSome
def dMeth (g : D → List D → Sto → Option (D × Sto)) (fo : EDen) (fa : ADen) : EDen := fun ρ S => bnd (fo ρ S) fun o S => if isL S o then bnd (fa ρ S) fun ds S => g o ds S else none
def dMeth0 (g : D → List D → Sto → Option (D × Sto)) (fo : EDen) : EDen := fun ρ S => bnd (fo ρ S) fun o S => if isL S o then g o [] S else none
theorem isL_ty {K : Frag} {H : Hp} {ξ ι : List Addr} {S : Sto} {o : D} {v : V} (st : StoOk K H ξ ι S) (r : RepV K H ξ ι o v) (h : isL S o = true) : tyV K "list" v H := by
  obtain ⟨ds, e⟩ := Option.isSome_iff_exists.mp h
  obtain ⟨a, vs, rfl, h2, _⟩ := listOf_ok st r e
  exact .inl ⟨rfl, vs, h2⟩
theorem me_meth {o e : Expr} {es : List Expr} {fo : EDen} {fa : ADen} {name : Str} {apos cpos : Pos} {id : String} {r : V → List V → Hp → VK → Prop} {g : D → List D → Sto → Option (D × Sto)} (slot : Slot "list" name id) (hty : typeOf (.builtin id) = pure (.type "method_descriptor")) (hm : MtR X id r) (m : MMeth X.K r g)
    (ho : ME X o fo) (ha : MA X (e :: es) fa) (hbase : attributeBase o name X.env (eval o X.env) = eval o X.env := by rfl)
    (hfew : ((backTo cpos (starEach (e :: es) X.env)).all (fun x => !x.1) && (backToKw cpos (keywordEach [] X.env)).all (fun x => x.1.isSome) && decide ((e :: es).length + ([] : List Keyword).length + (if ([] : List Keyword).isEmpty then 0 else 1) < 30)) = true := by rfl)
    (hline : (apos.endLine == cpos.line) = true := by rfl) (hs : starEach (e :: es) X.env = (false, eval e X.env) :: starEach es X.env := by rfl) (hplain : (backTo cpos (starEach es X.env)).any (·.1) = false := by rfl) :
    ME X (.Call (.Attribute o name apos) (e :: es) [] cpos) (dMeth g fo fa) := (pe_bm PySem.F.plainAttrs_list slot hty hm ho ha hbase hfew hline hs hplain).weak fun σ H Q ⟨ξ, ι, ρ, S, d, S', st, re, e, k⟩ => by
  obtain ⟨x, S1, e1, e⟩ := bnd_some e
  split at e
  · rename_i hl
    obtain ⟨ds, S2, e2, e⟩ := bnd_some e
    refine tE.run st re e1 fun v1 H1 ι1 s1 st1 r1 => ⟨isL_ty st1 r1 hl, tA.run st1 (s1.env re) e2 fun vs H2 ι2 s2 st2 r2 => ?_⟩
    exact m H2 ξ ι2 S2 S' x ds d v1 vs Q st2 (s2.val r1) r2 e ((k.next s1).next s2)
  · cases e
theorem me_meth0 {o : Expr} {fo : EDen} {name : Str} {apos cpos : Pos} {id : String} {r : V → List V → Hp → VK → Prop} {g : D → List D → Sto → Option (D × Sto)} (slot : Slot "list" name id) (hty : typeOf (.builtin id) = pure (.type "method_descriptor")) (hm : MtR X id r) (m : MMeth X.K r g)
    (ho : ME X o fo) (hbase : attributeBase o name X.env (eval o X.env) = eval o X.env := by rfl) (hline : (apos.endLine == cpos.line) = true := by rfl) : ME X (.Call (.Attribute o name apos) [] [] cpos) (dMeth0 g fo) :=
  (pe_bm0 PySem.F.plainAttrs_list slot hty hm ho hbase hline).weak fun σ H Q ⟨ξ, ι, ρ, S, d, S', st, re, e, k⟩ => by
    obtain ⟨x, S1, e1, e⟩ := bnd_some e
    split at e
    · rename_i hl
      exact tE.run st re e1 fun v1 H1 ι1 s1 st1 r1 => ⟨isL_ty st1 r1 hl, m H1 ξ ι1 S1 S' x [] d v1 [] Q st1 r1 rfl e (k.next s1)⟩
    · cases e
theorem cell_of {K : Frag} {H : Hp} {ξ ι : List Addr} {S : Sto} {n : Nat} {v : V} {ds : List D} (st : StoOk K H ξ ι S) (r : RepV K H ξ ι (.ref n) v) (q : S[n]? = some (.lst ds)) : ∃ a vs, v = .ref a ∧ ι[n]? = some a ∧ H a = some (.lst vs) ∧ RepL K H ξ ι ds vs := by
  obtain ⟨a, h1, h2⟩ := r
  obtain ⟨b, h3, vs, h4, h5⟩ := st.cell n _ q
  obtain rfl : b = a := Option.some.inj (h3.symm.trans h2)
  exact ⟨b, vs, h1, h2, h4, h5⟩
/-- xs.append(e) -/
def gAppend : D → List D → Sto → Option (D × Sto) := fun o as S => match o, as with
  | .ref n, [d] => match S[n]? with
    | some (.lst ds) => if ds.length < sizeLine ∧ D.fit n d = true then some (.non, S.set n (.lst (ds ++ [d]))) else none
    | _ => none
  | _, _ => none
theorem fitL_append {n : Nat} {ds es : List D} (h : D.fitL n ds = true) (h' : D.fitL n es = true) : D.fitL n (ds ++ es) = true := D.fitL_all.mpr fun x hx => (List.mem_append.mp hx).elim (D.fitL_all.mp h x) (D.fitL_all.mp h' x)
theorem fitL_one {n : Nat} {d : D} (h : D.fit n d = true) : D.fitL n [d] = true := D.fitL_all.mpr fun x hx => by rw [List.mem_singleton.mp hx]; exact h
theorem mm_append {K : Frag} : MMeth K rAppend gAppend := by
  intro H ξ ι S S' o ds d v vs Q st ro ra e k
  unfold gAppend at e
  split at e
  · rename_i n y
    split at e
    · rename_i es q
      split at e
      · rename_i hz
        cases e
        obtain ⟨a, us, rfl, hn, h4, h5⟩ := cell_of st ro q
        obtain ⟨yv, rfl, ry⟩ := RepL.one' ra
        have s : Step H ι (upd H a (.lst (us ++ [yv]))) ι := Step.write (S := S) hn (.lst h4)
        exact ⟨a, us, yv, rfl, rfl, h4, by rw [h5.length]; exact hz.1, k _ _ ι s (st.write hn (.lst h4) ⟨_, upd_same, (s.vals h5).append (.one (s.val ry))⟩ (fitL_append (st.asc n _ q) (fitL_one hz.2))) rfl⟩
      · cases e
    · cases e
  · cases e
/-- xs.extend(ys) -/
def gExtend : D → List D → Sto → Option (D × Sto) := fun o as S => match o, as with
  | .ref n, [d] => match S[n]? with
    | some (.lst ds) => (mlistOf S d).bind fun es => if ds.length + es.length ≤ sizeLine ∧ D.fitL n es = true then some (.non, S.set n (.lst (ds ++ es))) else none
    | _ => none
  | _, _ => none
theorem mm_extend {K : Frag} : MMeth K rExtend gExtend := by
  intro H ξ ι S S' o ds d v vs Q st ro ra e k
  unfold gExtend at e
  split at e
  · rename_i n y
    split at e
    · rename_i es q
      cases q2 : mlistOf S y with
      | none => rw [q2] at e; cases e
      | some fs =>
        rw [q2] at e
        have e : (if es.length + fs.length ≤ sizeLine ∧ D.fitL n fs = true then some (D.non, S.set n (.lst (es ++ fs))) else none) = some (d, S') := e
        split at e
        · rename_i hz
          cases e
          obtain ⟨a, us, rfl, hn, h4, h5⟩ := cell_of st ro q
          obtain ⟨yv, rfl, ry⟩ := RepL.one' ra
          obtain ⟨b, ws, rfl, h6, h7⟩ := mlistOf_ok st ry q2
          have s : Step H ι (upd H a (.lst (us ++ ws))) ι := Step.write (S := S) hn (.lst h4)
          exact ⟨a, b, us, ws, rfl, rfl, h4, h6, by rw [h5.length, h7.length]; exact hz.1, k _ _ ι s (st.write hn (.lst h4) ⟨_, upd_same, (s.vals h5).append (s.vals h7)⟩ (fitL_append (st.asc n _ q) hz.2)) rfl⟩
        · cases e
    · cases e
  · cases e
/-- xs.pop() -/
def gPop : D → List D → Sto → Option (D × Sto) := fun o as S => match o, as with
  | .ref n, [] => match S[n]? with
    | some (.lst ds) => (ds[ds.length - 1]?).map fun d => (d, S.set n (.lst ds.dropLast))
    | _ => none
  | _, _ => none
theorem RepL.dropLast {K : Frag} {H : Hp} {ξ ι : List Addr} {ds : List D} {vs : List V} (r : RepL K H ξ ι ds vs) : RepL K H ξ ι ds.dropLast vs.dropLast := by
  rw [List.dropLast_eq_take, List.dropLast_eq_take, r.length]
  exact r.take _
theorem fitL_sub {n : Nat} {ds es : List D} (h : D.fitL n ds = true) (hs : ∀ d ∈ es, d ∈ ds) : D.fitL n es = true := D.fitL_all.mpr fun d hd => D.fitL_all.mp h d (hs d hd)
theorem mm_pop {K : Frag} : MMeth K rPop gPop := by
  intro H ξ ι S S' o ds d v vs Q st ro ra e k
  unfold gPop at e
  split at e
  · rename_i n
    split at e
    · rename_i es q
      cases q2 : es[es.length - 1]? with
      | none => rw [q2] at e; cases e
      | some y =>
        rw [q2] at e
        cases e
        obtain ⟨a, us, rfl, hn, h4, h5⟩ := cell_of st ro q
        obtain rfl : vs = [] := ra
        obtain ⟨yv, h6, ry⟩ := h5.get q2
        have s : Step H ι (upd H a (.lst us.dropLast)) ι := Step.write (S := S) hn (.lst h4)
        exact ⟨a, us, yv, rfl, rfl, h4, by rw [h5.length]; exact h6, k _ _ ι s (st.write hn (.lst h4) ⟨_, upd_same, (s.vals h5).dropLast⟩ (fitL_sub (st.asc n _ q) fun d hd => (List.dropLast_sublist _).subset hd)) (s.val ry)⟩
    · cases e
  · cases e

/-! ### repr -/
def rRepr (K : Frag) : List V → Hp → VK → Prop := fun xs H Q => ∃ x d, xs = [x] ∧ Dp K H x d ∧ d.showable = true ∧ d.hasDict = false ∧ d.depth ≤ 62 ∧ d.shown.length ≤ sizeLine ∧ Q (.str d.shown) H
theorem c_repr (hg : X.A.guards = some []) (hu : X.A.units + 64 < cLine) : CallR X (.builtin "repr") (rRepr X.K) := by
  intro pins s σ H xs us Q I r h
  obtain ⟨x, d, rfl, hd, h1, h2, h3, h4, q⟩ := h
  obtain ⟨u, rfl, ru⟩ := vals1 r
  obtain ⟨as, rd⟩ := Dp.reads I d x u hd ru
  have big : ∀ {a : Addr}, u = .ref a → wpAny (model X.prog X.w) X.A (call (.builtin "repr") [u]) (EP X pins σ Q) X.xe s := fun {a} e => by
    subst e
    exact repr_of_reads' rd h1 (PyData.noDict_hsm h2) hg (by omega) (fun _ _ o => o) (fun h' t tk kp => ⟨.str d.shown, H, I.kept kp, ⟨_, rfl⟩, q⟩) h4
  cases rd with
  | none => exact PySem.P.repr_of_none ⟨.str _, H, I.tok _, ⟨_, rfl⟩, by simpa only [PyData.shown] using q⟩
  | bool b => exact PySem.P.repr_of_bool ⟨.str _, H, I.tok _, ⟨_, rfl⟩, by simpa only [PyData.shown] using q⟩
  | int i t => exact PySem.P.repr_of_int (by simpa [PyData.showable] using h1) ⟨.str _, H, I.tok _, ⟨_, rfl⟩, by simpa only [PyData.shown] using q⟩
  | str x t => exact PySem.P.repr_of_str ⟨.str _, H, I.tok _, ⟨_, rfl⟩, by simpa only [PyData.shown] using q⟩ (by simpa only [PyData.shown] using h4)
  | list _ _ _ _ => exact big rfl
  | tuple _ _ _ _ => exact big rfl
  | dict _ _ _ _ _ => exact big rfl
def showOk (d : PyData) : Bool := d.showable && !d.hasDict && decide (d.depth ≤ 62) && decide (d.shown.length ≤ sizeLine)
def cRepr : CDen := fun ds S => match ds with
  | [d] => (datS S d).bind fun x => if showOk x then some (.str x.shown, S) else none
  | _ => none
theorem mc_repr {K : Frag} : MCall K (rRepr K) cRepr := by
  intro H ξ ι S S' ds d vs Q st r e k
  unfold cRepr at e
  split at e
  · rename_i x
    cases q : datS S x with
    | none => rw [q] at e; cases e
    | some y =>
      rw [q] at e
      have e : (if showOk y then some (D.str y.shown, S) else none) = some (d, S') := e
      split at e
      · rename_i hs
        cases e
        obtain ⟨v, rfl, h⟩ := RepL.one' r
        unfold showOk at hs
        simp only [Bool.and_eq_true, decide_eq_true_eq, Bool.not_eq_true'] at hs
        exact ⟨v, y, rfl, datS_ok st h q, hs.1.1.1, hs.1.1.2, hs.1.2, hs.2, k.here st rfl⟩
      · cases e
  · cases e
end
end MS

namespace MS
open PySem PySem.Spec PyProof.Rows L2

/-! ### what a def hands back: its own lists become unchanging ones -/
mutual
def D.frz (n : Nat) (S : Sto) : D → Option D
  | .tup ds => (D.frzL n S ds).map .tup
  | .fl ds => (D.frzL n S ds).map .fl
  | .ref k => if k < n then some (.ref k) else match S[k]? with
    | some (.lst ds) => if D.fitL n ds then some (.fl ds) else none
    | _ => none
  | .rl ds => if D.fitL n ds then some (.rl ds) else none
  | .non => some .non
  | .bl b => some (.bl b)
  | .int i => some (.int i)
  | .str x => some (.str x)
def D.frzL (n : Nat) (S : Sto) : List D → Option (List D)
  | [] => some []
  | d :: ds => (D.frz n S d).bind fun d' => (D.frzL n S ds).map fun ds' => d' :: ds'
end
def D.fin (n : Nat) (S : Sto) (d : D) : Option D := if D.fit n d then some d else D.frz n S d
section
variable {K : Frag} {H : Hp} {ξ ι m : List Addr} {S : Sto}
theorem Mv.cut : Mv H ξ (ι ++ m) ι.length H ξ ι := ⟨fun a o h h1 h2 => ⟨h, h1, fun z => h2 (List.mem_append.mpr (.inl z))⟩, fun i a hi e => by rw [List.getElem?_append_left hi] at e; exact e⟩
mutual
theorem D.frz_rep (st : StoOk K H ξ (ι ++ m) S) : ∀ {d d' : D} {v : V}, RepV K H ξ (ι ++ m) d v → D.frz ι.length S d = some d' → RepV K H ξ ι d' v
  | .tup ds, d', v, r, e => by
    have e : (D.frzL ι.length S ds).map .tup = some d' := e
    cases q : D.frzL ι.length S ds with
    | none => rw [q] at e; cases e
    | some es =>
      rw [q] at e
      cases e
      obtain ⟨a, vs, h1, h2, h3⟩ := r
      exact ⟨a, vs, h1, ⟨h2.1, h2.2.1, fun z => h2.2.2 (List.mem_append.mpr (.inl z))⟩, D.frzL_rep st h3 q⟩
  | .fl ds, d', v, r, e => by
    have e : (D.frzL ι.length S ds).map .fl = some d' := e
    cases q : D.frzL ι.length S ds with
    | none => rw [q] at e; cases e
    | some es =>
      rw [q] at e
      cases e
      obtain ⟨a, vs, h1, h2, h3⟩ := r
      exact ⟨a, vs, h1, ⟨h2.1, h2.2.1, fun z => h2.2.2 (List.mem_append.mpr (.inl z))⟩, D.frzL_rep st h3 q⟩
  | .rl ds, d', v, r, e => by
    have e : (if D.fitL ι.length ds then some (D.rl ds) else none) = some d' := e
    split at e
    · rename_i hf
      cases e
      exact RepV.mv Mv.cut hf r
    · cases e
  | .ref k, d', v, r, e => by
    unfold D.frz at e
    split at e
    · rename_i hk
      cases e
      exact RepV.mv Mv.cut (decide_eq_true hk) r
    · rename_i hk
      split at e
      · rename_i ds q
        split at e
        · rename_i hf
          cases e
          obtain ⟨a, us, rfl, hn, h4, h5⟩ := cell_of st r q
          refine ⟨a, us, rfl, ⟨h4, st.apart a (List.mem_of_getElem? hn), fun z => ?_⟩, RepL.mv Mv.cut hf h5⟩
          obtain ⟨j, hj, ej⟩ := List.getElem_of_mem z
          have e1 : (ι ++ m)[j]? = some a := by rw [List.getElem?_append_left hj, List.getElem?_eq_getElem hj, ej]
          have := nodup_ix st.nd e1 hn
          omega
        · cases e
      · cases e
  | .non, d', v, r, e => by cases e; exact r
  | .bl _, d', v, r, e => by cases e; exact r
  | .int _, d', v, r, e => by cases e; exact r
  | .str _, d', v, r, e => by cases e; exact r
theorem D.frzL_rep (st : StoOk K H ξ (ι ++ m) S) : ∀ {ds ds' : List D} {vs : List V}, RepL K H ξ (ι ++ m) ds vs → D.frzL ι.length S ds = some ds' → RepL K H ξ ι ds' vs
  | [], ds', vs, r, e => by cases e; exact r
  | d :: ds, ds', vs, r, e => by
    have e : (D.frz ι.length S d).bind (fun d' => (D.frzL ι.length S ds).map fun ds' => d' :: ds') = some ds' := e
    cases q : D.frz ι.length S d with
    | none => rw [q] at e; cases e
    | some d1 =>
      cases q2 : D.frzL ι.length S ds with
      | none => rw [q, q2] at e; cases e
      | some es =>
        rw [q, q2] at e
        cases e
        obtain ⟨v, t, h1, h2, h3⟩ := r
        exact ⟨v, t, h1, D.frz_rep st h2 q, D.frzL_rep st h3 q2⟩
end
theorem D.fin_rep (st : StoOk K H ξ (ι ++ m) S) {d d' : D} {v : V} (r : RepV K H ξ (ι ++ m) d v) (e : D.fin ι.length S d = some d') : RepV K H ξ ι d' v := by
  unfold D.fin at e
  split at e
  · rename_i hf
    cases e
    exact RepV.mv Mv.cut hf r
  · exact D.frz_rep st r e
theorem StoOk.cut (st : StoOk K H ξ (ι ++ m) S) : StoOk K H ξ ι (S.take ι.length) := by
  have hl : ι.length ≤ S.length := by
    have := st.len
    rw [List.length_append] at this
    omega
  refine ⟨by rw [List.length_take]; omega, (List.nodup_append.mp st.nd).1, fun a ha => st.apart a (List.mem_append.mpr (.inl ha)), st.live, fun n c e => ?_, fun n c e => ?_⟩
  · have hn : n < ι.length := by
      have := (List.getElem?_eq_some_iff.mp e).1
      rw [List.length_take] at this
      omega
    have e : (S.take ι.length)[n]? = some c := e
    rw [List.getElem?_take_of_lt hn] at e
    obtain ⟨a, h1, h2⟩ := st.cell n c e
    rw [List.getElem?_append_left hn] at h1
    refine ⟨a, h1, ?_⟩
    have hf := st.asc n c e
    cases c with
    | lst ds =>
      obtain ⟨vs, h3, h4⟩ := h2
      exact ⟨vs, h3, RepL.mv Mv.cut (D.fitL_mono (Nat.le_of_lt hn) hf) h4⟩
    | dct kvs =>
      obtain ⟨ws, h3, h4, h5⟩ := h2
      exact ⟨ws, h3, h4, RepL.mv Mv.cut (D.fitL_mono (Nat.le_of_lt hn) hf) h5⟩
    | lck kvs =>
      obtain ⟨ws, o, h3, h4, h5⟩ := h2
      exact ⟨ws, o, h3, h4, RepL.mv Mv.cut (D.fitL_mono (Nat.le_of_lt hn) hf) h5⟩
  · have hn : n < ι.length := by
      have := (List.getElem?_eq_some_iff.mp e).1
      rw [List.length_take] at this
      omega
    have e : (S.take ι.length)[n]? = some c := e
    rw [List.getElem?_take_of_lt hn] at e
    exact st.asc n c e
end

/-! ### a def by its body -/
def env0 (nn : Nat) (ds : List D) : Env := ds.map some ++ List.replicate (nn - ds.length) none
def bodyP (np nn : Nat) (b : SDen) : FP := fun ds => if ds.length = np then (match b (env0 nn ds) [] with
  | some (.rt d, _, S) => D.fin 0 S d
  | some (.nx, _, _) => some .non
  | _ => none) else none
/-- its own things are forgotten at its end -/
def bodyM (np nn : Nat) (b : SDen) : FM := fun ds S => if ds.length = np then (match b (env0 nn ds) S with
  | some (.rt d, _, S') => (D.fin S.length S' d).map fun d => (d, S'.take S.length)
  | some (.nx, _, S') => some (.non, S'.take S.length)
  | _ => none) else none
/-- .. or kept -/
def bodyN (np nn : Nat) (b : SDen) : FM := fun ds S => if ds.length = np then (match b (env0 nn ds) S with
  | some (.rt d, _, S') => some (d, S')
  | some (.nx, _, S') => some (.non, S')
  | _ => none) else none
section
variable {P : Program} {w : World} {K : Frag} {mg : Str → Option Value} {base : Heap} {k : Nat} {f : Addr} {fd : FuncData} {x qual : Str} {params : Arguments} {body : List Stmt} {scope : Scope} {dvs : List V} {kws : List (Str × V)} {N ps : List Str} {b : SDen}
theorem start_rep {H : Hp} {ξ ι : List Addr} {ds : List D} {vs : List V} (r : RepL K H ξ ι ds vs) : RepE K H ξ ι (env0 N.length ds) (start N vs) := by
  refine ⟨by simp [env0, L2.start, r.length], fun i d e => ?_⟩
  unfold env0 at e
  unfold L2.start
  by_cases h : i < ds.length
  · rw [List.getElem?_append_left (by rw [List.length_map]; exact h), List.getElem?_map, List.getElem?_eq_getElem h] at e
    cases e
    obtain ⟨v, h1, h2⟩ := r.get (List.getElem?_eq_getElem h)
    exact ⟨v, by rw [List.getElem?_append_left (by rw [List.length_map, r.length]; exact h), List.getElem?_map, h1]; rfl, h2⟩
  · rw [List.getElem?_append_right (by rw [List.length_map]; omega), List.getElem?_replicate] at e
    split at e <;> cases e
theorem fnP_of (F : FunD K x qual params body scope dvs kws f fd) (S : FnScope N ps scope)
    (h : ∀ (cdv : Value) (A : Around) (outer : List PySem.Env) (s : Shared) (H : Hp) (E : XK), RoomG k (A.deeper (envOfC qual scope s.heap.objs.size f cdv)) → MSs (cxOf CX0 P w K mg base N qual scope f cdv A outer s H E).nox body b) :
    FnG P w K mg base CX0 (k + 1) f fd ps (spP K (bodyP ps.length N.length b)) := by
  have len : ∀ {ds : List D} {d : D}, bodyP ps.length N.length b ds = some d → ds.length = ps.length := fun {ds d} e => by
    unfold bodyP at e
    split at e
    · assumption
    · cases e
  refine fnG_of F S (fun vs H Q E ⟨ξ, ds, d, _, r, e, _⟩ => by rw [r.length]; exact len e) fun cdv A outer s H vs Q E hr hsp => ?_
  obtain ⟨ξ, ds, d, live, r, e, k⟩ := hsp
  refine ⟨_, PSs.nox (h cdv A outer s H E hr), ?_⟩
  unfold bodyP at e
  rw [if_pos (len e)] at e
  have st : StoOk K H ξ [] [] := ⟨rfl, .nil, fun a ha => (by cases ha), live, fun n c e => (by simp at e), fun n c e => (by simp at e)⟩
  cases q : b (env0 N.length ds) [] with
  | none => rw [q] at e; cases e
  | some z =>
    obtain ⟨o, ρ', S'⟩ := z
    rw [q] at e
    refine tS.run st (start_rep r) q ?_
    have back : ∀ {H' : Hp} {ι' : List Addr}, Step H [] H' ι' → Step H [] H' [] := fun {H' ι'} z => ⟨⟨[], rfl⟩, fun a o h n => ⟨(z.keep a o h n).1, n⟩, z.frz⟩
    cases o with
    | nx =>
      cases e
      exact fun σ' H' ι' z st' _ => k .non H' (back z) rfl
    | rt d' => exact fun v H' ι' z st' rv => k v H' (back z) (D.fin_rep (ι := []) (m := ι') st' rv e)
    | bk => cases e
    | ct => cases e
theorem fnM_of (F : FunD K x qual params body scope dvs kws f fd) (Sc : FnScope N ps scope)
    (h : ∀ (cdv : Value) (A : Around) (outer : List PySem.Env) (s : Shared) (H : Hp) (E : XK), RoomG k (A.deeper (envOfC qual scope s.heap.objs.size f cdv)) → MSs (cxOf CX0 P w K mg base N qual scope f cdv A outer s H E).nox body b) :
    FnG P w K mg base CX0 (k + 1) f fd ps (spM K (bodyM ps.length N.length b)) := by
  have len : ∀ {ds : List D} {S : Sto} {d : D × Sto}, bodyM ps.length N.length b ds S = some d → ds.length = ps.length := fun {ds S d} e => by
    unfold bodyM at e
    split at e
    · assumption
    · cases e
  refine fnG_of F Sc (fun vs H Q E ⟨ξ, ι, S, ds, d, S', _, r, e, _⟩ => by rw [r.length]; exact len e) fun cdv A outer s H vs Q E hr hsp => ?_
  obtain ⟨ξ, ι, S, ds, d, S', st, r, e, k⟩ := hsp
  refine ⟨_, PSs.nox (h cdv A outer s H E hr), ?_⟩
  unfold bodyM at e
  rw [if_pos (len e)] at e
  cases q : b (env0 N.length ds) S with
  | none => rw [q] at e; cases e
  | some z =>
    obtain ⟨o, ρ', S1⟩ := z
    rw [q] at e
    refine tS.run st (start_rep r) q ?_
    have back : ∀ {H' : Hp} {ι' : List Addr}, Step H ι H' ι' → Step H ι H' ι := fun {H' ι'} z => ⟨⟨[], (List.append_nil _).symm⟩, fun a o h n => ⟨(z.keep a o h n).1, n⟩, z.frz⟩
    cases o with
    | nx =>
      cases e
      intro σ' H' ι' z st' _
      obtain ⟨m, rfl⟩ := z.more
      exact k .non H' ι (back z) (by rw [← st.len]; exact st'.cut) rfl
    | rt d' =>
      have e : (D.fin S.length S1 d').map (fun d => (d, S1.take S.length)) = some (d, S') := e
      cases q2 : D.fin S.length S1 d' with
      | none => rw [q2] at e; cases e
      | some d2 =>
        rw [q2] at e
        cases e
        intro v H' ι' z st' rv
        obtain ⟨m, rfl⟩ := z.more
        exact k v H' ι (back z) (by rw [← st.len]; exact st'.cut) (D.fin_rep st' rv (by rw [st.len]; exact q2))
    | bk => cases e
    | ct => cases e
theorem fnN_of (F : FunD K x qual params body scope dvs kws f fd) (Sc : FnScope N ps scope)
    (h : ∀ (cdv : Value) (A : Around) (outer : List PySem.Env) (s : Shared) (H : Hp) (E : XK), RoomG k (A.deeper (envOfC qual scope s.heap.objs.size f cdv)) → MSs (cxOf CX0 P w K mg base N qual scope f cdv A outer s H E).nox body b) :
    FnG P w K mg base CX0 (k + 1) f fd ps (spM K (bodyN ps.length N.length b)) := by
  have len : ∀ {ds : List D} {S : Sto} {d : D × Sto}, bodyN ps.length N.length b ds S = some d → ds.length = ps.length := fun {ds S d} e => by
    unfold bodyN at e
    split at e
    · assumption
    · cases e
  refine fnG_of F Sc (fun vs H Q E ⟨ξ, ι, S, ds, d, S', _, r, e, _⟩ => by rw [r.length]; exact len e) fun cdv A outer s H vs Q E hr hsp => ?_
  obtain ⟨ξ, ι, S, ds, d, S', st, r, e, k⟩ := hsp
  refine ⟨_, PSs.nox (h cdv A outer s H E hr), ?_⟩
  unfold bodyN at e
  rw [if_pos (len e)] at e
  cases q : b (env0 N.length ds) S with
  | none => rw [q] at e; cases e
  | some z =>
    obtain ⟨o, ρ', S1⟩ := z
    rw [q] at e
    refine tS.run st (start_rep r) q ?_
    cases o with
    | nx =>
      cases e
      exact fun σ' H' ι' z st' _ => k .non H' ι' z st' rfl
    | rt d' =>
      cases e
      exact k
    | bk => cases e
    | ct => cases e
end

/-! ### a law's own end -/
def spLaw (K : Frag) : Sp := fun vs H Q _ => ∃ (a : Addr) (ns : List Int), vs = [.ref a] ∧ SqL K H a (ns.map V.int) ∧ ns.length ≤ 63 ∧ ∀ H', Q (.bl true) H'
theorem law_imp {P : Program} {w : World} {K : Frag} {mg : Str → Option Value} {base : Heap} {k : Nat} {f : Addr} {fd : FuncData} {F : FP} (h : FnG P w K mg base CX0 k f fd ["script"] (spP K F)) (t : ∀ ns : List Int, ns.length ≤ 63 → F [.rl (ns.map D.int)] = some (.bl true)) : FnG P w K mg base CX0 k f fd ["script"] (spLaw K) := by
  have go : ∀ vs H Q E, spLaw K vs H Q E → spP K F vs H Q E := by
    rintro vs H Q E ⟨a, ns, rfl, hS, hl, q⟩
    refine ⟨[], [.rl (ns.map D.int)], .bl true, fun a ha => (by cases ha), ⟨_, _, rfl, ⟨a, ns.map V.int, rfl, ?_, RepL.ints.mpr rfl⟩, rfl⟩, t ns hl, fun v H' _ r => ?_⟩
    · rcases hS with hS | hS
      · exact .inl ⟨hS, by simp, by simp⟩
      · exact .inr fun _ => .inr hS
    · rw [show v = .bl true from r]
      exact q H'
  exact ⟨fun vs H Q E z => h.len vs H Q E (go vs H Q E z), fun A outer s H args us vs Q E hr e0 hb r z => h.run A outer s H args us vs Q E hr e0 hb r (go vs H Q E z)⟩
theorem lawG {P : Program} {w : World} {K : Frag} {mg mb : Str → Option Value} {k : Nat} {fa a : Addr} {fd : FuncData} {s₁ : Shared} {vs : List Value} {ns : List Int}
    (KX : K.In s₁.heap) (hns : s₁.heap.Ns mainGlobals mg) (hb : s₁.heap.Ns builtinsNs mb) (hbb : ∀ x : Str, x ≠ "__name__" → mb x = bootBuiltins x) (hlim : s₁.heap.NoLimit) (hg : s₁.gens = #[])
    (ha : s₁.heap.get? a = some { cls := .type "list", data := .seq vs.toArray }) (hi : IntsAre vs ns) (hl : ns.length ≤ 63) (hr : RoomG k callerA)
    (F : ∀ base : Heap, K.In base → base.Ns mainGlobals mg → FnG P w K mg base CX0 k fa fd ["script"] (spLaw K)) (hbind : ∀ (s : Shared) (u : Value), BindsTo s fd ⟨[u], []⟩ [("script", u)]) :
    codeAny (model P w) callerA (.call (.ref fa) ⟨[.ref a], []⟩) (fun r s' => r = .ok (.ret (.bool true)) ∧ OldK s₁.heap s'.heap ∧ s'.os = s₁.os ∧ AllBare s'.gens) s₁ := by
  have rv := vals_ints hi
  have lenV := hi.length
  have hl' : ns.length ≤ sizeLine := Nat.le_trans hl (by decide)
  -- the abstract heap knows the script at most
  suffices core : ∀ H : Hp, Only H → SqL K H a (ns.map V.int) → HOk P w H s₁.heap → (∀ b u, H b = some u → b = a ∧ K.lookup a = none) →
      codeAny (model P w) callerA (.call (.ref fa) ⟨[.ref a], []⟩) (fun r s' => r = .ok (.ret (.bool true)) ∧ OldK s₁.heap s'.heap ∧ s'.os = s₁.os ∧ AllBare s'.gens) s₁ by
    cases hk : K.lookup a with
    | some o =>
      have e := KX a o hk
      rw [ha] at e
      cases e
      exact core (fun _ => none) (fun _ => .inl rfl) (.inr ⟨_, vs.toArray, _, hk, rfl, rfl, rfl, by rw [List.size_toArray, lenV]; exact hl', by simpa using rv⟩) (fun b u z => nomatch z) fun b u z => nomatch z
    | none =>
      have at_ : ∀ {b : Addr} {u : HO}, (if b = a then some (HO.frz { cls := .type "list", data := .seq vs.toArray } (.lst (ns.map V.int))) else none) = some u → b = a ∧ u = HO.frz { cls := .type "list", data := .seq vs.toArray } (.lst (ns.map V.int)) := fun {b u} z => by
        split at z
        · rename_i hb
          exact ⟨hb, (Option.some.inj z).symm⟩
        · cases z
      refine core (fun b => if b = a then some (.frz { cls := .type "list", data := .seq vs.toArray } (.lst (ns.map V.int))) else none) (fun b => ?_) (.inl (.inr ⟨{ cls := .type "list", data := .seq vs.toArray }, if_pos rfl⟩)) (fun b u z => ?_) fun b u z => ⟨(at_ z).1, hk⟩
      · by_cases hb : b = a
        · exact .inr ⟨_, _, if_pos hb⟩
        · exact .inl (if_neg hb)
      · obtain ⟨rfl, rfl⟩ := at_ z
        exact ⟨ha, by rw [List.length_map]; exact hl', vs, _, rv, ha⟩
  intro H hO hS hok hA
  have out : ∀ {b : Addr} {o : Obj}, s₁.heap.get? b = some o → H b = none → (hidT s₁.heap H).get? b = some o := fun e n => hidT_get e n
  have free : ∀ {b : Addr}, (b = a → K.lookup a = none → False) → H b = none := fun {b} h => by
    cases q : H b with
    | none => rfl
    | some u => exact (h (hA b u q).1 (hA b u q).2).elim
  have nsK : ∀ {b : Addr} {m : Str → Option Value}, s₁.heap.Ns b m → (hidT s₁.heap H).Ns b m := fun {b m} ⟨o, es, ep, e, d, r⟩ => ⟨o, es, ep, out e (free fun z _ => by
    subst z
    rw [ha] at e
    cases e
    cases d), d, r⟩
  have kin : K.In (hidT s₁.heap H) := fun b o e => out (KX b o e) (free fun z hk => by rw [z, hk] at e; cases e)
  have e0 : Env0 P w K mg (hidT s₁.heap H) callerA [] s₁ H := ⟨rfl, ⟨kin, nsK hns, ⟨mb, nsK hb, hbb⟩, let ⟨mc, h1, h2⟩ := hlim; ⟨mc, nsK h1, h2⟩⟩, fun b o e => of_hidT e, Nat.le_of_eq (hidT_size _ _), trivial, fun b hb => absurd (show b ∈ ([] : List Addr) from hb) (by simp), hok, .of_eq hg⟩
  refine codeAny_mono ((F _ kin (nsK hns)).run callerA [] s₁ H ⟨[.ref a], []⟩ [.ref a] [.ref a] (fun v _ => v = .bl true) (fun _ _ _ => False) hr e0 (hbind s₁ (.ref a)) (.cons rfl .nil) ⟨a, ns, rfl, hS, hl, fun _ => rfl⟩) fun r s' h => ?_
  match r, h with
  | .error e, h => exact h.elim
  | .ok .next, h => exact False.elim h
  | .ok .brk, h => exact False.elim h
  | .ok .cont, h => exact False.elim h
  | .ok (.ret u), ⟨v, H', os, bare, un, hok', r', q⟩ =>
    obtain rfl : v = .bl true := q
    obtain rfl : u = Value.bool true := r'
    refine ⟨rfl, OldK.of_keep fun b o e => ?_, os, bare⟩
    rcases hO b with z | ⟨ob, xs, z⟩
    · exact un.keep b o e z (by intro z; exact absurd (show b ∈ ([] : List Addr) from z) (by simp)) (by simp)
    · obtain ⟨e1, _⟩ := hok b _ z
      obtain ⟨e2, _⟩ := hok' b _ (un.frzs b ob _ z)
      rw [e] at e1
      cases e1
      exact e2
theorem walkG {l : PySem.W.OpenLaw} {k : Nat} {q : Program} {loose : List Str} {XP : (Str → Option Value) → Heap → Prop} {YP : World → Heap → Prop} {d : DefRec}
    (hn : l.most = some 63) (hdf : d.params.defaults = []) (hr : RoomG k callerA)
    (F : ∀ (w : World) (mg : Str → Option Value) (fa : Addr) (h : Heap), YP w h → h.Ns mainGlobals mg → mg d.name = some (.ref fa) →
      ∃ (K : Frag) (fd : FuncData), K.In h ∧ (∀ (s : Shared) (u : Value), BindsTo s fd ⟨[u], []⟩ [("script", u)]) ∧
        ∀ base : Heap, K.In base → base.Ns mainGlobals mg → FnG l.prog w K mg base CX0 k fa fd ["script"] (spLaw K)) :
    PySem.W.WalkO q loose XP YP l.row.toRowW d [] (fun f vs => PySem.call f vs) := by
  refine Att.attach_call hn hdf fun w s₀ s₁ mg mb fa o pm cd doc a vs ns G Y ho hd hcd hmg hobj hints hlen hg => ?_
  obtain ⟨K, fd, KX, hb, hF⟩ := F w mg fa _ Y G.T.g hmg
  exact lawG KX G.T.g G.T.b G.T.builtins G.T.nolimit hg hobj hints hlen hr hF hb
end MS

namespace MS
open PySem PySem.Spec PyProof.Rows L2
section
variable {X : Cx}
/-! ### [elt for tg in iter if ..] -/
theorem me_lc {elt tg iter : Expr} {ifs : List Expr} {scope : Scope} {own : List (Str × Nat)} {pos : Pos} {fi : IDen} {g : NDen} {t : TDen} {b : EDen} {ws : List Nat} (hc : X.calm = true) (hN : X.N.Nodup) (hw : ∀ i ∈ ws, i ∈ own.map (·.2)) (hi : MI X tg iter fi) (ok : BlkOk X.N X.env.scope scope own)
    (hg : ∀ (s : Shared) (H : Hp) (C : Addr) (cl : List (Str × Addr)) (fp : List Addr), MN (X.blk s H scope (compEnvC scope cl C X.env) fp) tg ws g) (ht : ∀ (s : Shared) (H : Hp) (C : Addr) (cl : List (Str × Addr)) (fp : List Addr), MTs (X.blk s H scope (compEnvC scope cl C X.env) fp) ifs t)
    (he : ∀ (s : Shared) (H : Hp) (C : Addr) (cl : List (Str × Addr)) (fp : List Addr), ME (X.blk s H scope (compEnvC scope cl C X.env) fp) elt b) (hs : ∀ x, foldedSetIterable iter X.env x = pure x := by intro _; rfl) :
    ME X (.ListComp elt [⟨tg, iter, ifs, 0⟩] scope pos) (dLc fi g t b (own.map (·.2))) := (pe_lc hc hN hi ok hg ht he hs).weak fun _ _ _ h => lc_fl hw h
theorem me_lcC {elt tg iter : Expr} {ifs : List Expr} {scope : Scope} {own : List (Str × Nat)} {pos : Pos} {fi : IDen} {g : NDen} {t : TDen} {b : EDen} {ws : List Nat} (hc : X.calm = true) (hN : X.N.Nodup) (hw : ∀ i ∈ ws, i ∈ own.map (·.2)) (hi : MI X tg iter fi) (ok : BlkOk X.N X.env.scope scope own)
    (hg : ∀ (s : Shared) (H : Hp) (C : Addr) (cl : List (Str × Addr)) (fp : List Addr), MN (X.blk s H scope (compEnvC scope cl C X.env) fp) tg ws g) (ht : ∀ (s : Shared) (H : Hp) (C : Addr) (cl : List (Str × Addr)) (fp : List Addr), MTs (X.blk s H scope (compEnvC scope cl C X.env) fp) ifs t)
    (he : ∀ (s : Shared) (H : Hp) (C : Addr) (cl : List (Str × Addr)) (fp : List Addr), ME (X.blk s H scope (compEnvC scope cl C X.env) fp) elt b) (hs : ∀ x, foldedSetIterable iter X.env x = pure x := by intro _; rfl) :
    ME X (.ListComp elt [⟨tg, iter, ifs, 0⟩] scope pos) (dLcC fi g t b (own.map (·.2))) := (pe_lc hc hN hi ok hg ht he hs).weak fun _ _ _ h => lc_cell hw h
theorem setLc_of {K : Frag} {te : TE} {f : EDen} {i : Nat} {T : Ends} {σ : L2.St} {H : Hp} (hw : ∀ σ H Q, tE K f σ H Q → te σ H Q) (h : tS K (sAsg f (gN i)) T σ H) : tAsg te (gName i) T σ H := by
  obtain ⟨ξ, ι, ρ, S, o, ρ', S', st, re, e, k⟩ := h
  obtain ⟨d, S1, e1, e⟩ := bnd_some e
  cases e
  refine hw σ H _ (tE.run st re e1 fun v H' ι' s' st' rv => ?_)
  exact k _ H' ι' s' st' ((s'.env re).set rv)
theorem ms_setLc {i : Nat} {y : Str} {py : Pos} {elt tg iter : Expr} {ifs : List Expr} {scope : Scope} {own : List (Str × Nat)} {pos spos : Pos} {fi : IDen} {g : NDen} {t : TDen} {b : EDen} {ws : List Nat} (hc : X.calm = true) (hN : X.N.Nodup) (hy : X.N[i]? = some y) (hyl : X.env.scope.names.lookup y = some .local)
    (hsw : swapsWith (.ListComp elt [⟨tg, iter, ifs, 0⟩] scope pos) (some (.Name y py)) spos.line X.env = pure true) (hw : ∀ i ∈ ws, i ∈ own.map (·.2)) (hi : MI X tg iter fi) (ok : BlkOk X.N X.env.scope scope own)
    (hg : ∀ (s : Shared) (H : Hp) (C : Addr) (cl : List (Str × Addr)) (fp : List Addr), MN (X.blk s H scope (compEnvC scope cl C X.env) fp) tg ws g) (ht : ∀ (s : Shared) (H : Hp) (C : Addr) (cl : List (Str × Addr)) (fp : List Addr), MTs (X.blk s H scope (compEnvC scope cl C X.env) fp) ifs t)
    (he : ∀ (s : Shared) (H : Hp) (C : Addr) (cl : List (Str × Addr)) (fp : List Addr), ME (X.blk s H scope (compEnvC scope cl C X.env) fp) elt b) (hs : ∀ x, foldedSetIterable iter X.env x = pure x := by intro _; rfl) :
    MS X (.Assign [.Name y py] (.ListComp elt [⟨tg, iter, ifs, 0⟩] scope pos) spos) (sAsg (dLc fi g t b (own.map (·.2))) (gN i)) := (ps_setLc hc hN hy hyl hsw hi ok hg ht he hs).weak fun _ _ _ h => setLc_of (fun _ _ _ h => lc_fl hw h) h
theorem ms_setLcC {i : Nat} {y : Str} {py : Pos} {elt tg iter : Expr} {ifs : List Expr} {scope : Scope} {own : List (Str × Nat)} {pos spos : Pos} {fi : IDen} {g : NDen} {t : TDen} {b : EDen} {ws : List Nat} (hc : X.calm = true) (hN : X.N.Nodup) (hy : X.N[i]? = some y) (hyl : X.env.scope.names.lookup y = some .local)
    (hsw : swapsWith (.ListComp elt [⟨tg, iter, ifs, 0⟩] scope pos) (some (.Name y py)) spos.line X.env = pure true) (hw : ∀ i ∈ ws, i ∈ own.map (·.2)) (hi : MI X tg iter fi) (ok : BlkOk X.N X.env.scope scope own)
    (hg : ∀ (s : Shared) (H : Hp) (C : Addr) (cl : List (Str × Addr)) (fp : List Addr), MN (X.blk s H scope (compEnvC scope cl C X.env) fp) tg ws g) (ht : ∀ (s : Shared) (H : Hp) (C : Addr) (cl : List (Str × Addr)) (fp : List Addr), MTs (X.blk s H scope (compEnvC scope cl C X.env) fp) ifs t)
    (he : ∀ (s : Shared) (H : Hp) (C : Addr) (cl : List (Str × Addr)) (fp : List Addr), ME (X.blk s H scope (compEnvC scope cl C X.env) fp) elt b) (hs : ∀ x, foldedSetIterable iter X.env x = pure x := by intro _; rfl) :
    MS X (.Assign [.Name y py] (.ListComp elt [⟨tg, iter, ifs, 0⟩] scope pos) spos) (sAsg (dLcC fi g t b (own.map (·.2))) (gN i)) := (ps_setLc hc hN hy hyl hsw hi ok hg ht he hs).weak fun _ _ _ h => setLc_of (fun _ _ _ h => lc_cell hw h) h
end
section
variable {X : Cx} {K : Frag}
/-! ### a * b -/
def rMulA (K : Frag) : R2 := fun x y H Q => rI CMulA (fun i j => .int (i * j)) x y H Q ∨ (fun x y H Q => rRep x y H Q ∨ rRepT K x y H Q) x y H Q
theorem o_mul : OpR X (binaryOp .Mult) (rMulA X.K) := o_mulI.or (op_rep.or op_repT)
theorem RepL.rep {H : Hp} {ξ ι : List Addr} {ds : List D} {vs : List V} (r : RepL K H ξ ι ds vs) : ∀ n : Nat, RepL K H ξ ι (List.replicate n ds).flatten (List.replicate n vs).flatten
  | 0 => rfl
  | n + 1 => by
    rw [List.replicate_succ, List.flatten_cons, List.replicate_succ, List.flatten_cons]
    exact r.append (RepL.rep r n)

theorem m_mul : MOp K (rMulA K) gMul := by
  intro H ξ ι S S' x y d v w Q st rx ry e k
  have lst : ∀ {z : D} {j : Int}, RepV K H ξ ι z v → y = .int j → (mlistOf S z).bind (fun a => if -(2 ^ 63) ≤ j ∧ j < 2 ^ 63 ∧ a.length * j.toNat ≤ sizeLine then some (D.fl (List.replicate j.toNat a).flatten, S) else none) = some (d, S') → rMulA K v w H Q := fun {z j} rz hy e0 => by
    subst hy
    obtain rfl : w = .int j := ry
    cases q : mlistOf S z with
    | none => rw [q] at e0; cases e0
    | some a =>
      rw [q] at e0
      have e : (if -(2 ^ 63) ≤ j ∧ j < 2 ^ 63 ∧ a.length * j.toNat ≤ sizeLine then some (D.fl (List.replicate j.toNat a).flatten, S) else none) = some (d, S') := e0
      split at e
      · rename_i hz
        cases e
        obtain ⟨p, vs, rfl, h2, h3⟩ := mlistOf_ok st rz q
        exact .inr (.inl ⟨p, j, vs, rfl, rfl, h2, hz.1, hz.2.1, by rw [h3.length]; exact hz.2.2, fun l hl => k.fl st (h3.rep _) hl⟩)
      · cases e
  unfold gMul at e
  split at e
  · rename_i i j
    obtain rfl : v = .int i := rx
    obtain rfl : w = .int j := ry
    split at e
    · rename_i hm
      cases e
      exact .inl ⟨i, j, rfl, rfl, hm, k.here st rfl⟩
    · cases e
  · rename_i a j
    obtain rfl : w = .int j := ry
    split at e
    · rename_i hm
      cases e
      obtain ⟨p, vs, rfl, h2, h3⟩ := rx
      refine .inr (.inr ⟨p, j, vs, rfl, rfl, h2.sq, fun z => hm.2.2.1 (List.eq_nil_of_length_eq_zero (by rw [← h3.length, z]; rfl)), hm.1, hm.2.1, by rw [h3.length]; exact hm.2.2.2, fun l hl => k.tup st (h3.rep _) hl⟩)
    · split at e <;> cases e
  · exact lst rx rfl e
  · cases e
/-- list * int, a cell -/
def gMulC : Op2 := fun x y S => match y with
  | .int k => (mlistOf S x).bind fun a => if -(2 ^ 63) ≤ k ∧ k < 2 ^ 63 ∧ a.length * k.toNat ≤ sizeLine ∧ D.fitL S.length a = true then some (.ref S.length, S ++ [.lst (List.replicate k.toNat a).flatten]) else none
  | _ => none
/-! ### sorted -/
section
variable {α : Type}
def ins (le : α → α → Bool) (x : α) : List α → List α
  | [] => [x]
  | y :: l => if le x y = true then x :: y :: l else y :: ins le x l
def isort (le : α → α → Bool) : List α → List α
  | [] => []
  | x :: l => ins le x (isort le l)
theorem ins_perm (le : α → α → Bool) (x : α) : ∀ l : List α, (ins le x l).Perm (x :: l)
  | [] => List.Perm.refl _
  | y :: l => by
    unfold ins
    split
    · exact List.Perm.refl _
    · exact ((ins_perm le x l).cons y).trans (List.Perm.swap x y l)
theorem isort_perm (le : α → α → Bool) : ∀ l : List α, (isort le l).Perm l
  | [] => List.Perm.refl _
  | x :: l => (ins_perm le x _).trans ((isort_perm le l).cons x)
theorem ins_pw {le : α → α → Bool} (tot : ∀ a b, le a b = true ∨ le b a = true) (tr : ∀ a b c, le a b = true → le b c = true → le a c = true) (x : α) : ∀ {l : List α}, l.Pairwise (fun a b => le a b = true) → (ins le x l).Pairwise (fun a b => le a b = true)
  | [], _ => List.pairwise_singleton _ _
  | y :: l, h => by
    obtain ⟨h1, h2⟩ := List.pairwise_cons.mp h
    unfold ins
    split
    · rename_i hx
      exact List.pairwise_cons.mpr ⟨fun z hz => (List.mem_cons.mp hz).elim (fun e => by rw [e]; exact hx) (fun m => tr _ _ _ hx (h1 z m)), h⟩
    · rename_i hx
      refine List.pairwise_cons.mpr ⟨fun z hz => ?_, ins_pw tot tr x h2⟩
      rcases List.mem_cons.mp ((ins_perm le x l).mem_iff.mp hz) with rfl | m
      · exact (tot z y).resolve_left hx
      · exact h1 z m
theorem isort_pw {le : α → α → Bool} (tot : ∀ a b, le a b = true ∨ le b a = true) (tr : ∀ a b c, le a b = true → le b c = true → le a c = true) : ∀ l : List α, (isort le l).Pairwise (fun a b => le a b = true)
  | [] => List.Pairwise.nil
  | x :: l => ins_pw tot tr x (isort_pw tot tr l)
theorem isort_eq {le : α → α → Bool} (tot : ∀ a b, le a b = true ∨ le b a = true) (tr : ∀ a b c, le a b = true → le b c = true → le a c = true) (anti : ∀ a b, le a b = true → le b a = true → a = b) {l m : List α} (p : m.Perm l) (h : m.Pairwise fun a b => le a b = true) : m = isort le l :=
  List.Perm.eq_of_pairwise (le := fun a b => le a b = true) (fun a b _ _ h1 h2 => anti a b h1 h2) h (isort_pw tot tr l) (p.trans (isort_perm le l).symm)
end
def leI (a b : Int) : Bool := decide (a ≤ b)
def leP (a b : Int × Int) : Bool := decide (a.1 < b.1) || (decide (a.1 = b.1) && decide (a.2 ≤ b.2))
theorem sortI_eq {l m : List Int} (p : m.Perm l) (h : m.Pairwise (· ≤ ·)) : m = isort leI l :=
  isort_eq (fun a b => by simp only [leI, decide_eq_true_eq]; omega) (fun a b c => by simp only [leI, decide_eq_true_eq]; omega) (fun a b => by simp only [leI, decide_eq_true_eq]; omega) p (h.imp fun {a b} z => decide_eq_true z)
theorem leP_iff {a b : Int × Int} : leP a b = true ↔ a.1 < b.1 ∨ (a.1 = b.1 ∧ a.2 ≤ b.2) := by simp [leP]
theorem sortP_eq {l m : List (Int × Int)} (p : m.Perm l) (h : m.Pairwise fun a b => leP a b = true) : m = isort leP l :=
  isort_eq (fun a b => by simp only [leP_iff]; omega) (fun a b c => by simp only [leP_iff]; omega) (fun a b => by simp only [leP_iff]; intro h1 h2; exact Prod.ext (by omega) (by omega)) p h
def pairsOf : List D → Option (List (Int × Int))
  | [] => some []
  | .tup [.int i, .int j] :: r => (pairsOf r).map fun ns => (i, j) :: ns
  | _ => none
def dPair (p : Int × Int) : D := .tup [.int p.1, .int p.2]
theorem pairsOf_eq : ∀ {ds : List D} {ns : List (Int × Int)}, pairsOf ds = some ns → ds = ns.map dPair
  | [], ns, e => by cases e; rfl
  | .tup [.int i, .int j] :: r, ns, e => by
    have e : (pairsOf r).map (fun ns => (i, j) :: ns) = some ns := e
    cases q : pairsOf r with
    | none => rw [q] at e; cases e
    | some ms =>
      rw [q] at e
      cases e
      rw [pairsOf_eq q]
      rfl
theorem pairsOf_map : ∀ ns : List (Int × Int), pairsOf (ns.map dPair) = some ns
  | [] => rfl
  | (i, j) :: r => by
    show (pairsOf (r.map dPair)).map (fun ns => (i, j) :: ns) = _
    rw [pairsOf_map r]
    rfl
def keyP (H : Hp) : V → Int × Int
  | .ref t => match H t with
    | some (.tup [.int i, .int j]) => (i, j)
    | _ => (0, 0)
  | _ => (0, 0)
theorem dPair_key {H : Hp} {ξ ι : List Addr} {p : Int × Int} {v : V} (r : RepV K H ξ ι (dPair p) v) : ∃ t, v = .ref t ∧ H t = some (.tup [.int p.1, .int p.2]) ∧ keyP H v = p := by
  obtain ⟨a, vs, rfl, h1, h2⟩ := r
  obtain ⟨v1, r1, rfl, h3, v2, r2, rfl, h4, h5⟩ := h2
  obtain rfl : v1 = .int p.1 := h3
  obtain rfl : v2 = .int p.2 := h4
  obtain rfl : r2 = [] := h5
  refine ⟨a, rfl, h1.1, ?_⟩
  show (match H a with
    | some (.tup [.int i, .int j]) => (i, j)
    | _ => (0, 0)) = p
  rw [h1.1]
theorem RepL.mem {H : Hp} {ξ ι : List Addr} : ∀ {ds : List D} {vs : List V}, RepL K H ξ ι ds vs → ∀ v ∈ vs, ∃ d ∈ ds, RepV K H ξ ι d v
  | [], vs, r, v, h => by rw [show vs = [] from r] at h; cases h
  | d :: ds, vs, ⟨v0, t, e, h1, h2⟩, v, h => by
    subst e
    rcases List.mem_cons.mp h with rfl | h
    · exact ⟨d, List.mem_cons_self, h1⟩
    · obtain ⟨d', m, r⟩ := RepL.mem h2 v h
      exact ⟨d', List.mem_cons_of_mem _ m, r⟩
theorem keys_map {H : Hp} {ξ ι : List Addr} : ∀ {ps : List (Int × Int)} {vs : List V}, RepL K H ξ ι (ps.map dPair) vs → vs.map (keyP H) = ps
  | [], vs, r => by rw [show vs = [] from r]; rfl
  | p :: ps, vs, ⟨v0, t, e, h1, h2⟩ => by
    subst e
    rw [List.map_cons, keys_map h2]
    obtain ⟨_, _, _, h⟩ := dPair_key h1
    rw [h]
theorem rep_keys {H : Hp} {ξ ι : List Addr} : ∀ {vs : List V}, (∀ v ∈ vs, RepV K H ξ ι (dPair (keyP H v)) v) → RepL K H ξ ι ((vs.map (keyP H)).map dPair) vs
  | [], _ => rfl
  | v :: vs, h => ⟨v, vs, rfl, h v List.mem_cons_self, rep_keys fun v' m => h v' (List.mem_cons_of_mem _ m)⟩
def sortedD (es : List D) : Option (List D) := match intsOf es with
  | some ns => some ((isort leI ns).map .int)
  | none => (pairsOf es).map fun ps => (isort leP ps).map dPair
def cSorted : CDen := fun ds S => match ds with
  | [d] => (listOf S d).bind fun es => (sortedD es).map fun es' => (.fl es', S)
  | _ => none
def rSortA (K : Frag) : List V → Hp → VK → Prop := fun xs H Q => rSortedI K xs H Q ∨ rSortedPO K xs H Q
theorem _root_.L2.CallR.or' {f : Value} {r r' : List V → Hp → VK → Prop} (h : CallR X f r) (h' : CallR X f r') : CallR X f (fun xs H Q => r xs H Q ∨ r' xs H Q) := h.or h'
theorem c_sorted : CallR X (.builtin "sorted") (rSortA X.K) := cr_sortedI.or cr_sortedPO
theorem mc_sorted : MCall K (rSortA K) cSorted := by
  intro H ξ ι S S' ds d vs Q st r e k
  unfold cSorted at e
  split at e
  · rename_i x
    cases q : listOf S x with
    | none => rw [q] at e; cases e
    | some es =>
      rw [q] at e
      have e : (sortedD es).map (fun es' => (D.fl es', S)) = some (d, S') := e
      obtain ⟨v, rfl, h⟩ := RepL.one' r
      obtain ⟨a, ys, rfl, h2, h3⟩ := listOf_ok st h q
      unfold sortedD at e
      split at e
      · rename_i ns q2
        cases e
        rw [intsOf_eq q2] at h3
        rw [RepL.ints.mp h3] at h2
        refine .inl ⟨a, ns, rfl, h2, fun ns' p hp hs hl => ?_⟩
        rw [← sortI_eq hp hs] at k
        exact k.fl st (RepL.ints.mpr rfl) hl
      · cases q3 : pairsOf es with
        | none => rw [q3] at e; cases e
        | some ps =>
          rw [q3] at e
          cases e
          rw [pairsOf_eq q3] at h3
          refine .inr ⟨a, ys, keyP H, rfl, h2, fun y hy => ?_, fun zs p hs hb hl => ?_⟩
          · obtain ⟨d', m, r'⟩ := h3.mem y hy
            obtain ⟨pp, _, rfl⟩ := List.mem_map.mp m
            obtain ⟨t, e1, e2, e3⟩ := dPair_key r'
            exact ⟨t, e1, by rw [e3]; exact e2⟩
          · have hk : zs.map (keyP H) = isort leP ps := by
              rw [← keys_map h3] 
              refine sortP_eq (hb.perm.map _) (List.pairwise_map.mpr (hs.imp fun {x y} h => ?_))
              have := SrtO.lexB_no.mp h
              rw [leP_iff]
              omega
            have k : Ans K ξ ι H S (D.fl (List.map dPair (isort leP ps))) Q := k
            rw [← hk] at k
            refine k.fl st (rep_keys fun v hv => ?_) hl
            obtain ⟨d', m, r'⟩ := h3.mem v (hb.perm.mem_iff.mp hv)
            obtain ⟨pp, _, rfl⟩ := List.mem_map.mp m
            obtain ⟨t, e1, e2, e3⟩ := dPair_key r'
            rw [e3]
            exact r'
  · cases e
end
theorem blk_mk {N : List Str} {sc scope : Scope} {own : List (Str × Nat)} (N0 : List Str) (S0 : Scope) (e1 : N = N0) (e2 : sc = S0) (h1 : scope.kind = .function) (h2 : ∀ y ∈ scope.names, scope.names.lookup y.1 = some y.2) (h3 : ∀ p ∈ own, N0[p.2]? = some p.1)
    (h4 : ∀ y ∈ scope.names, y.2 = .free → S0.names.lookup y.1 = some .cell ∨ S0.names.lookup y.1 = some .free) (h5 : ∀ y ∈ scope.names, y.2 = .local ∨ y.2 = .cell → y.1 ∈ own.map (·.1) ∨ y.1 ∉ N0) : BlkOk N sc scope own := by
  subst e1 e2
  exact ⟨h1, h2, h3, h4, h5⟩
/-! ### == of plain values; of data -/
section
variable {X : Cx} {K : Frag}
def gCmpA (neg : Bool) : Op2 := fun x y S => match x, y with
  | .int i, .int j => some (.bl (if neg then !decide (i = j) else decide (i = j)), S)
  | .str i, .str j => some (.bl (if neg then !decide (i = j) else decide (i = j)), S)
  | .bl i, .bl j => some (.bl (if neg then !decide (i = j) else decide (i = j)), S)
  | x, y => gCmpD neg x y S
def gEqA : Op2 := gCmpA false
def gNeA : Op2 := gCmpA true
def rEqA (K : Frag) : R2 := fun x y H Q => rEq x y H Q ∨ rEqD K x y H Q
def rNeA (K : Frag) : R2 := fun x y H Q => rNe x y H Q ∨ rNeD K x y H Q
theorem o_eqA (hu : X.A.units + 64 < cLine) : OpR X (compareOp .Eq) (rEqA X.K) := op_eq.or (op_eqD hu)
theorem o_neA (hu : X.A.units + 64 < cLine) : OpR X (compareOp .NotEq) (rNeA X.K) := op_ne.or (op_neD hu)
theorem m_eqA : MOp K (rEqA K) gEqA := by
  intro H ξ ι S S' x y d v w Q st rx ry e k
  unfold gEqA gCmpA at e
  split at e
  · cases e
    obtain rfl : v = .int _ := rx
    obtain rfl : w = .int _ := ry
    refine .inl ⟨rfl, ?_⟩
    have e : ∀ i j : Int, decide (V.int i = V.int j) = decide (i = j) := fun i j => by simp
    rw [e]
    exact k.here st rfl
  · cases e
    obtain rfl : v = .str _ := rx
    obtain rfl : w = .str _ := ry
    refine .inl ⟨rfl, ?_⟩
    have e : ∀ i j : Str, decide (V.str i = V.str j) = decide (i = j) := fun i j => by simp
    rw [e]
    exact k.here st rfl
  · cases e
    obtain rfl : v = .bl _ := rx
    obtain rfl : w = .bl _ := ry
    refine .inl ⟨rfl, ?_⟩
    have e : ∀ i j : Bool, decide (V.bl i = V.bl j) = decide (i = j) := fun i j => by simp
    rw [e]
    exact k.here st rfl
  · exact .inr (m_eq H ξ ι S S' x y d v w Q st rx ry e k)
theorem m_neA : MOp K (rNeA K) gNeA := by
  intro H ξ ι S S' x y d v w Q st rx ry e k
  unfold gNeA gCmpA at e
  split at e
  · cases e
    obtain rfl : v = .int _ := rx
    obtain rfl : w = .int _ := ry
    refine .inl ⟨rfl, ?_⟩
    have e : ∀ i j : Int, decide (V.int i = V.int j) = decide (i = j) := fun i j => by simp
    rw [e]
    exact k.here st rfl
  · cases e
    obtain rfl : v = .str _ := rx
    obtain rfl : w = .str _ := ry
    refine .inl ⟨rfl, ?_⟩
    have e : ∀ i j : Str, decide (V.str i = V.str j) = decide (i = j) := fun i j => by simp
    rw [e]
    exact k.here st rfl
  · cases e
    obtain rfl : v = .bl _ := rx
    obtain rfl : w = .bl _ := ry
    refine .inl ⟨rfl, ?_⟩
    have e : ∀ i j : Bool, decide (V.bl i = V.bl j) = decide (i = j) := fun i j => by simp
    rw [e]
    exact k.here st rfl
  · exact .inr (m_ne H ξ ι S S' x y d v w Q st rx ry e k)
end
end MS

/-! MS: zip of two or three, enumerate, of lists and tuples in any mix; stars in displays -/
namespace MS
open PySem PySem.Spec PyProof.Rows L2
/-! ### lists and tuples alike -/
def SqK (K : Frag) (H : Hp) : Bool → Addr → List V → Prop
  | true => SqT K H
  | false => SqL K H
def IterK (h : Heap) : Bool → Addr → Addr → Nat → Prop
  | true => h.IsTupleIter
  | false => h.IsListIter
def IsK (h : Heap) : Bool → Addr → Array Value → Prop
  | true => h.IsTuple
  | false => h.IsList
def objK : Bool → Addr → Obj
  | true, a => { cls := .type "tuple_iterator", data := .fields #[.ref a, .int 0 0] }
  | false, a => { cls := .type "list_iterator", data := .fields #[.ref a, .int 0 0] }
theorem begK : ∀ (k : Bool) (a : Addr) (its : Array Value), Begins (.ref a) (objK k a) fun h => IsK h k a its
  | true, a, its => begins_tuple a its
  | false, a, its => begins_list a its
theorem drawK {prog : Program} {w : World} {A : Around} (hh : A.handled = none) : ∀ (k : Bool) (it a : Addr) (hne : a ≠ it) (its : Array Value), Draws prog w A it [it, a] its.size (fun i v => its[i]? = some v) (fun i h => IterK h k it a i ∧ IsK h k a its)
  | true, it, a, hne, its => Draws.tuple hh it a hne its
  | false, it, a, hne, its => Draws.list hh it a hne its
theorem iterK0 {h : Heap} : ∀ {k : Bool} {it a : Addr}, h.get? it = some (objK k a) → IterK h k it a 0
  | true, it, a, e => ⟨_, e, rfl, rfl⟩
  | false, it, a, e => ⟨_, e, rfl, rfl⟩
theorem iterK_at {h h' : Heap} : ∀ {k : Bool} {it a : Addr} {i : Nat}, IterK h k it a i → (∀ o, h.get? it = some o → h'.get? it = some o) → IterK h' k it a i
  | true, it, a, i, st, hk => (show h.IsTupleIter it a i from st).at hk
  | false, it, a, i, st, hk => (show h.IsListIter it a i from st).at hk
theorem iterK_obj {h : Heap} : ∀ {k : Bool} {it a : Addr} {i : Nat}, IterK h k it a i → ∃ o, h.get? it = some o ∧ ∀ v, o.data ≠ .cell v
  | true, it, a, i, ⟨o, e, _, d⟩ => ⟨o, e, fun v q => by rw [d] at q; cases q⟩
  | false, it, a, i, ⟨o, e, _, d⟩ => ⟨o, e, fun v q => by rw [d] at q; cases q⟩
theorem iterK_ne {h : Heap} : ∀ {k : Bool} {it a : Addr} {i : Nat} {k' : Bool} {b : Addr} {its : Array Value}, IterK h k it a i → IsK h k' b its → b ≠ it
  | true, _, _, _, true, _, _, ⟨o, e, c, _⟩, ⟨o', e', c', _⟩ => fun z => by
    rw [z, e] at e'
    cases e'
    rw [c] at c'
    exact absurd c' (by decide)
  | false, _, _, _, true, _, _, ⟨o, e, c, _⟩, ⟨o', e', c', _⟩ => fun z => by
    rw [z, e] at e'
    cases e'
    rw [c] at c'
    exact absurd c' (by decide)
  | true, _, _, _, false, _, _, ⟨o, e, c, _⟩, ⟨o', e', c', _⟩ => fun z => by
    rw [z, e] at e'
    cases e'
    rw [c] at c'
    exact absurd c' (by decide)
  | false, _, _, _, false, _, _, ⟨o, e, c, _⟩, ⟨o', e', c', _⟩ => fun z => by
    rw [z, e] at e'
    cases e'
    rw [c] at c'
    exact absurd c' (by decide)
section
variable {X : Cx} {pins : List (Addr × Obj)} {σ : L2.St} {H : Hp} {s : Shared}
theorem seqK (I : Inv X pins σ H s) : ∀ {k : Bool} {a : Addr} {xs : List V}, SqK X.K H k a xs → ∃ its, Vals xs its ∧ IsK s.heap k a its.toArray ∧ a < s.heap.objs.size
  | true, a, xs, h => by
    obtain ⟨its, rv, p, _⟩ := I.tuple h
    obtain ⟨o, ho, _⟩ := id p
    exact ⟨its, rv, p, Heap.lt_size ho⟩
  | false, a, xs, h => by
    obtain ⟨its, rv, p, _⟩ := I.list h
    exact ⟨its, rv, p.isList, p.lt⟩
theorem seqK_inj (I : Inv X pins σ H s) : ∀ {k : Bool} {a : Addr} {xs ys : List V}, SqK X.K H k a xs → SqK X.K H k a ys → xs = ys
  | true, a, xs, ys, h, h' => I.tuple_inj h h'
  | false, a, xs, ys, h, h' => I.list_inj h h'
end
/-! ### zip(a, b) -/
def ItzG (K : Frag) (j k : Bool) (a b : Addr) : It :=
  ⟨fun i H => ∃ (xs ys : List V) (x y : V), SqK K H j a xs ∧ SqK K H k b ys ∧ xs[i]? = some x ∧ ys[i]? = some y,
    fun i H v H' => ∃ T x y, v = .ref T ∧ H T = none ∧ H' = L2.upd H T (.tup [x, y]) ∧ (∀ xs, SqK K H j a xs → xs[i]? = some x) ∧ ∀ ys, SqK K H k b ys → ys[i]? = some y,
    fun i H => ∃ xs ys : List V, SqK K H j a xs ∧ SqK K H k b ys ∧ i ≤ xs.length ∧ i ≤ ys.length ∧ (i = xs.length ∨ i = ys.length)⟩
theorem turn_zipG {P : Program} {w : World} {K : Frag} {elts : List Expr} {kk : Nat} {tpos : Pos} {j k : Bool} {a b z TI TO i1 i2 : Addr} (D : ZipSep2 z TI TO i1 i2 [i1, a] [i2, b]) :
    Turn P w K (.Tuple elts kk tpos) (ItzG K j k a b) [z, TI, TO, i1, i2] z (fun i h => IsZip h z TI TO .none ∧ IsTupOf2 h TI (.ref i1) (.ref i2) ∧ (∃ x y, IsTupOf2 h TO x y) ∧ IterK h j i1 a i ∧ IterK h k i2 b i) where
  mem := by simp
  obj := fun i h st c hc => by
    obtain ⟨hz, hTI, ⟨x, y, hTO⟩, h1, h2⟩ := st
    have e' : c = z ∨ c = TI ∨ c = TO ∨ c = i1 ∨ c = i2 := by simpa using hc
    rcases e' with q | q | q | q | q
    · rw [q]; exact ⟨_, hz, fun v q => nomatch q⟩
    · rw [q]; exact ⟨_, hTI, fun v q => nomatch q⟩
    · rw [q]; exact ⟨_, hTO, fun v q => nomatch q⟩
    · rw [q]; exact iterK_obj h1
    · rw [q]; exact iterK_obj h2
  keep := fun i h h' st kp => by
    obtain ⟨hz, hTI, ⟨x, y, hTO⟩, h1, h2⟩ := st
    exact ⟨kp z (by simp) _ hz, kp TI (by simp) _ hTI, ⟨x, y, kp TO (by simp) _ hTO⟩, iterK_at h1 fun o q => kp i1 (by simp) o q, iterK_at h2 fun o q => kp i2 (by simp) o q⟩
  item := by
    intro X hP hw hK hc i pins s σ H E I hf st hg
    subst hP hw hK
    obtain ⟨hz, hTI, ⟨x0, y0, hTO⟩, h1, h2⟩ := st
    obtain ⟨xs, ys, x, y, hqx, hqy, hx, hy⟩ := hg
    obtain ⟨its, rv, p, _⟩ := seqK I hqx
    obtain ⟨its2, rv2, p2, _⟩ := seqK I hqy
    obtain ⟨u, hu, ru⟩ := rv.get hx
    obtain ⟨u2, hu2, ru2⟩ := rv2.get hy
    have hzl : z < s.heap.objs.size := Heap.lt_size hz
    have D1 := drawK (prog := X.prog) (w := X.w) (A := X.A.in1) (I.ok.hd hc) j i1 a (iterK_ne h1 p) its.toArray
    have D2 := drawK (prog := X.prog) (w := X.w) (A := X.A.in1) (I.ok.hd hc) k i2 b (iterK_ne h2 p2) its2.toArray
    have l1 : i < its.toArray.size := by rw [List.size_toArray]; exact (List.getElem?_eq_some_iff.mp hu).1
    have l2 : i < its2.toArray.size := by rw [List.size_toArray]; exact (List.getElem?_eq_some_iff.mp hu2).1
    refine wpAny_pyNext_zipD2_item D D1 D2 hz hTI hTO ⟨h1, p⟩ ⟨h2, p2⟩ l1 l2 fun v v2 h' tk q1 q2 z' TO' s1 s2 hT hsz hk => ?_
    obtain rfl : v = u := by
      have e : its.toArray[i]? = some v := q1
      rw [List.getElem?_toArray, hu] at e
      exact (Option.some.inj e).symm
    obtain rfl : v2 = u2 := by
      have e : its2.toArray[i]? = some v2 := q2
      rw [List.getElem?_toArray, hu2] at e
      exact (Option.some.inj e).symm
    refine ⟨_, rfl, wpAny_letOwnedTupleGo_zip (s := { s with heap := h', toks := tk }) z' fun h'' z'' sb => ?_⟩
    have hT2 : h''.get? s.heap.objs.size = some { cls := .type "tuple", data := .seq #[v, v2] } := (sb.2 _ (Nat.ne_of_gt hzl)).trans hT
    have new : ObjOk X.prog X.w (L2.upd H s.heap.objs.size (.tup [x, y])) h'' s.heap.objs.size (.tup [x, y]) :=
      ⟨by show 2 ≤ sizeLine; decide, [v, v2], .cons ru (.cons ru2 .nil), ⟨_, hT2, rfl, _, rfl⟩⟩
    have I1 : Inv X pins σ (L2.upd H s.heap.objs.size (.tup [x, y])) { s with heap := h'', toks := tk } :=
      I.turnedNew (t' := tk) (ch := [z, TI, TO, i1, i2]) (fun c o hb q => (sb.2 c (fun q' => hb (by simp [q']))).trans (hk c o (fun q' => hb (by simp [q'])) (fun q' => hb (by simp [q'])) (fun q' => hb (by simp [q'])) (fun q' => hb (by simp [q'])) q)) hf (Nat.le_refl _) new
    refine ⟨.ref s.heap.objs.size, _, I1, rfl, ⟨_, x, y, rfl, I.hok.fresh (Nat.le_refl _), rfl, fun l hl => by rw [seqK_inj I hl hqx]; exact hx, fun l hl => by rw [seqK_inj I hl hqy]; exact hy⟩, ⟨z'', ?_, ⟨v, v2, ?_⟩, ?_, ?_⟩, fun c hcm => ?_⟩
    · exact (sb.2 _ D.TIz).trans (hk _ _ D.TIz D.TITO D.TIi1 D.TIi2 hTI)
    · exact (sb.2 _ D.TOz).trans TO'
    · exact iterK_at s1.1 fun o q => (sb.2 _ (Ne.symm D.zi1)).trans q
    · exact iterK_at s2.1 fun o q => (sb.2 _ (Ne.symm D.zi2)).trans q
    · have hlt : c < s.heap.objs.size := by
        have e' : c = z ∨ c = TI ∨ c = TO ∨ c = i1 ∨ c = i2 := by simpa using hcm
        rcases e' with q | q | q | q | q
        · rw [q]; exact hzl
        · rw [q]; exact Heap.lt_size hTI
        · rw [q]; exact Heap.lt_size hTO
        · rw [q]; obtain ⟨_, e1, _⟩ := iterK_obj h1; exact Heap.lt_size e1
        · rw [q]; obtain ⟨_, e2, _⟩ := iterK_obj h2; exact Heap.lt_size e2
      rw [upd_ne (Nat.ne_of_lt hlt)]
      exact (hf c hcm).1
  done := by
    intro X hP hw hK hc i pins s σ H E I hf st hg
    subst hP hw hK
    obtain ⟨hz, hTI, ⟨x0, y0, hTO⟩, h1, h2⟩ := st
    obtain ⟨xs, ys, hqx, hqy, le1, le2, hend⟩ := hg
    obtain ⟨its, rv, p, _⟩ := seqK I hqx
    obtain ⟨its2, rv2, p2, _⟩ := seqK I hqy
    have l1 := rv.length
    have l2 := rv2.length
    have D1 := drawK (prog := X.prog) (w := X.w) (A := X.A.in1) (I.ok.hd hc) j i1 a (iterK_ne h1 p) its.toArray
    have D2 := drawK (prog := X.prog) (w := X.w) (A := X.A.in1) (I.ok.hd hc) k i2 b (iterK_ne h2 p2) its2.toArray
    exact wpAny_pyNext_zipD2_end D D1 D2 hz hTI hTO ⟨h1, p⟩ ⟨h2, p2⟩ (by rw [List.size_toArray]; omega) (by rw [List.size_toArray]; omega) (by rw [List.size_toArray, List.size_toArray]; omega) fun h' tk hk => ⟨rfl, I.turnedL (t' := tk) (ch := [z, TI, TO, i1, i2]) (fun c o hb q =>
      hk c o (fun q' => hb (by simp [q'])) (fun q' => hb (by simp [q'])) (fun q' => hb (by simp [q'])) (fun q' => hb (by simp [q'])) q) hf⟩
  self := fun A i s Q E st h => wpAny_pyIter_zip st.1 h

def iZipG (K : Frag) (ta : TA) : TI := fun σ H R => ta σ H fun vs H1 => ∃ j k a b xs ys, vs = [.ref a, .ref b] ∧ SqK K H1 j a xs ∧ SqK K H1 k b ys ∧ R (ItzG K j k a b) H1
theorem pi_zipG {X : Cx} {e e2 : Expr} {ta : TA} {p pos tpos : Pos} {elts : List Expr} {kk : Nat} (hg : Gl X "zip") (hm : X.mg "zip" = none) (ha : PA X [e, e2] ta)
    (hs : starEach [e, e2] X.env = (false, eval e X.env) :: starEach [e2] X.env := by rfl) (hpl : (backTo pos (starEach [e2] X.env)).any (·.1) = false := by rfl) :
    PI X (.Tuple elts kk tpos) (.Call (.Name "zip" p) [e, e2] [] pos) (iZipG X.K ta) := by
  refine ⟨fun pins s σ H R I h => ?_⟩
  refine Call_ (ld_blt I hg hm PyProof.Rows.boot_zip (PyProof.Rows.callWith_type1 (thn (ha.run pos pins s σ H _ I h) fun us s1 ⟨vs, H1, I1, r1, q1⟩ => ?_) hs hpl))
  obtain ⟨j, k, a, b, xs, ys, ex, hqx, hqy, q⟩ := q1
  subst ex
  cases r1 with
  | cons r rr =>
    cases rr with
    | cons r' rr =>
      cases rr
      cases r
      cases r'
      obtain ⟨its, rv, p1, la⟩ := seqK I1 hqx
      obtain ⟨its2, rv2, p2, lb⟩ := seqK I1 hqy
      refine zip_begins2 (begK j a its.toArray) (begK k b its2.toArray) p1 p2 fun h' hz hTI hTO e1 e2 hsz hk => wpAny_pyIter_zip hz ?_
      have I2 : Inv X pins σ H1 { s1 with heap := h' } := I1.kept (t' := s1.toks) hk
      refine ⟨s1.heap.objs.size + 4, [s1.heap.objs.size + 4, s1.heap.objs.size + 2, s1.heap.objs.size + 3, s1.heap.objs.size, s1.heap.objs.size + 1], _, _, H1, rfl, I2, turn_zipG (zip_sep2 (fp1 := [a]) (fp2 := [b]) (fun c hc => by rw [List.mem_singleton.mp hc]; exact la) (fun c hc => by rw [List.mem_singleton.mp hc]; exact lb)), ⟨hz, hTI, ⟨_, _, hTO⟩, iterK0 e1, iterK0 e2⟩, fun c hcm => ?_, q⟩
      have e' : c = s1.heap.objs.size + 4 ∨ c = s1.heap.objs.size + 2 ∨ c = s1.heap.objs.size + 3 ∨ c = s1.heap.objs.size ∨ c = s1.heap.objs.size + 1 := by simpa using hcm
      have hle : s1.heap.objs.size ≤ c := by
        rcases e' with z | z | z | z | z
        · rw [z]; exact Nat.le_add_right _ _
        · rw [z]; exact Nat.le_add_right _ _
        · rw [z]; exact Nat.le_add_right _ _
        · rw [z]; exact Nat.le_refl _
        · rw [z]; exact Nat.le_add_right _ _
      exact I1.fpOk hle (I1.hok.fresh hle)

/-! ### enumerate(a) -/
set_option maxHeartbeats 1000000 in
theorem meets_enumerate_new1 {v : Value} {o : Obj} {H : Heap → Prop} (B : Begins v o H) :
    Meets (Builtin.«enumerate.__new__» ⟨[.type "enumerate", v], []⟩) (fun _ R s => H s.heap ∧
      R (.ok (.ret (.ref (s.heap.push o).objs.size))) { s with heap := (s.heap.push o).push { cls := .type "enumerate", data := .fields #[.none, .bool false, .ref s.heap.objs.size, rawInt 0, .none, .none] } }) :=
  .of_wp fun prog w A R s h => by
    obtain ⟨hp, g, d, tk, os⟩ := s; obtain ⟨h1, h⟩ := h
    have hsub := sub_enumerate
    have q1 : ∀ {A' : Around} {E : Value → Shared → Prop} {Q : Value → Shared → Prop}, Q (.ref hp.objs.size) ⟨hp.push o, g, d, tk, os⟩ → wpAny (model prog w) A' (pyIter v) Q E ⟨hp, g, d, tk, os⟩ :=
      fun q => B.iter prog w _ _ ⟨hp, g, d, tk, os⟩ _ h1 q
    wp_walk using q1
    refine wpAny_stack_any fun st => wpAny_pure ?_
    split
    · rename_i c _ _ _ _ _
      cases (c == Value.type "enumerate")
      · wp_walk using q1
        exact ⟨_, rfl, h⟩
      · wp_walk using q1
        exact ⟨_, rfl, h⟩
    · wp_walk using q1
      exact ⟨_, rfl, h⟩
section
variable {prog : Program} {w : World} {A : Around} {E : Value → Shared → Prop} {s : Shared}
theorem enum_begins1 {v : Value} {o : Obj} {H : Heap → Prop} {Q : Value → Shared → Prop} (B : Begins v o H) (h1 : H s.heap)
    (h : ∀ h', IsEnum h' (s.heap.objs.size + 1) s.heap.objs.size 0 .none → h'.get? s.heap.objs.size = some o → h'.objs.size = s.heap.objs.size + 2 →
      (∀ b o, s.heap.get? b = some o → h'.get? b = some o) → Q (.ref (s.heap.objs.size + 1)) { s with heap := h' }) :
    wpAny (model prog w) A (call (.type "enumerate") [v]) Q E s := by
  refine callType_new F.called_enumerate (by decide) (F.typeCall_enumerate_1 _) (F.newCall_enumerate_1 _) (fun obj => F.args_object_init_2 obj _) F.entry_enumerate_new
    (meets_enumerate_new1 B) ⟨h1, ?_⟩
  have hz : (s.heap.push o).objs.size = s.heap.objs.size + 1 := Heap.size_push ..
  show _ ∧ _
  rw [hz]
  have he : IsEnum ((s.heap.push o).push { cls := .type "enumerate", data := .fields #[.none, .bool false, .ref s.heap.objs.size, rawInt 0, .none, .none] }) (s.heap.objs.size + 1) s.heap.objs.size 0 .none := by
    have := Heap.get?_push_size (s.heap.push o) (o := { cls := .type "enumerate", data := .fields #[.none, .bool false, .ref s.heap.objs.size, rawInt 0, .none, .none] }) rfl
    rw [hz] at this; exact this
  refine ⟨⟨_, he, rfl⟩, h _ he (Heap.get?_push_of_some _ (Heap.get?_push_size _ B.free)) (by rw [Heap.size_push, hz]) fun b o x => Heap.get?_push_of_some _ (Heap.get?_push_of_some _ x)⟩
end
def IteG (K : Frag) (k : Bool) (a : Addr) : It :=
  ⟨fun i H => ∃ (xs : List V) (x : V), SqK K H k a xs ∧ xs[i]? = some x, fun i H v H' => ∃ T x, v = .ref T ∧ H T = none ∧ H' = L2.upd H T (.tup [.int (i : Nat), x]) ∧ ∀ xs, SqK K H k a xs → xs[i]? = some x, fun i H => ∃ xs : List V, SqK K H k a xs ∧ xs.length = i⟩
theorem turn_enumG {P : Program} {w : World} {K : Frag} {elts : List Expr} {kk : Nat} {tpos : Pos} {k : Bool} {a e it : Addr} (hea : e ≠ a) (hne : e ≠ it) :
    Turn P w K (.Tuple elts kk tpos) (IteG K k a) [e, it] e (fun i h => (∃ old, IsEnum h e it ((i : Nat) : Int) old) ∧ IterK h k it a i) where
  mem := by simp
  obj := fun i h st b hb => by
    obtain ⟨⟨old, he⟩, h1⟩ := st
    have e' : b = e ∨ b = it := by simpa using hb
    rcases e' with z | z
    · rw [z]; exact ⟨_, he, fun v q => nomatch q⟩
    · rw [z]; exact iterK_obj h1
  keep := fun i h h' st kp => let ⟨⟨old, he⟩, hi⟩ := st; ⟨⟨old, kp e (by simp) _ he⟩, iterK_at hi fun o q => kp it (by simp) o q⟩
  item := by
    intro X hP hw hK hc i pins s σ H E I hf st hg
    subst hP hw hK
    obtain ⟨⟨old, he⟩, hit⟩ := st
    obtain ⟨xs, x, hq, hx⟩ := hg
    obtain ⟨its, rv, p, _⟩ := seqK I hq
    obtain ⟨u, hu, ru⟩ := rv.get hx
    have hel : e < s.heap.objs.size := Heap.lt_size he
    have hil : it < s.heap.objs.size := by obtain ⟨_, q, _⟩ := iterK_obj hit; exact Heap.lt_size q
    have D1 := drawK (prog := X.prog) (w := X.w) (A := X.A.in1) (I.ok.hd hc) k it a (iterK_ne hit p) its.toArray
    have l1 : i < its.toArray.size := by rw [List.size_toArray]; exact (List.getElem?_eq_some_iff.mp hu).1
    refine wpAny_pyNext_enum_itemC D1 he ⟨hit, p⟩ l1 hne (by simp [hne, hea]) fun v h' tk q1 ho s1 hT hsz hk => ?_
    obtain rfl : v = u := by
      have e : its.toArray[i]? = some v := q1
      rw [List.getElem?_toArray, hu] at e
      exact (Option.some.inj e).symm
    refine ⟨_, rfl, wpAny_letOwnedTupleGo_enum (s := { s with heap := h', toks := tk + 1 }) ho fun h'' he' sb => ?_⟩
    have hT2 : h''.get? s.heap.objs.size = some { cls := .type "tuple", data := .seq #[.int i tk, v] } := (sb.2 _ (Nat.ne_of_gt hel)).trans hT
    have new : ObjOk X.prog X.w (L2.upd H s.heap.objs.size (.tup [.int (i : Nat), x])) h'' s.heap.objs.size (.tup [.int (i : Nat), x]) :=
      ⟨by show 2 ≤ sizeLine; decide, [.int i tk, v], .cons ⟨_, rfl⟩ (.cons ru .nil), ⟨_, hT2, rfl, _, rfl⟩⟩
    have I1 : Inv X pins σ (L2.upd H s.heap.objs.size (.tup [.int (i : Nat), x])) { s with heap := h'', toks := tk + 1 } :=
      I.turnedNew (ch := [e, it]) (fun b ob hb q => (sb.2 b (fun z => hb (by simp [z]))).trans (hk b ob (fun z => hb (by simp [z])) (fun z => hb (by simp [z])) q)) hf (Nat.le_refl _) new
    refine ⟨.ref s.heap.objs.size, _, I1, rfl, ⟨_, x, rfl, I.hok.fresh (Nat.le_refl _), rfl, fun ys hy => by rw [seqK_inj I hy hq]; exact hx⟩, ⟨⟨v, ?_⟩, iterK_at s1.1 fun o q => (sb.2 it (Ne.symm hne)).trans q⟩, fun b hb => ?_⟩
    · have e1 : ((i + 1 : Nat) : Int) = (i : Int) + 1 := by omega
      rw [e1]; exact he'
    · have hb' : b < s.heap.objs.size := by
        have e' : b = e ∨ b = it := by simpa using hb
        rcases e' with z | z
        · rw [z]; exact hel
        · rw [z]; exact hil
      rw [upd_ne (Nat.ne_of_lt hb')]
      exact (hf b hb).1
  done := by
    intro X hP hw hK hc i pins s σ H E I hf st hg
    subst hP hw hK
    obtain ⟨⟨old, he⟩, hit⟩ := st
    obtain ⟨xs, hq, rfl⟩ := hg
    obtain ⟨its, rv, p, _⟩ := seqK I hq
    obtain ⟨f0, f1, f2, f3, f4, f5⟩ := hf it (by simp)
    have D1 := drawK (prog := X.prog) (w := X.w) (A := X.A.in1) (I.ok.hd hc) k it a (iterK_ne hit p) its.toArray
    have hl : its.toArray.size = xs.length := by rw [List.size_toArray, rv.length]
    exact wpAny_pyNext_enum_endD D1 he (by rw [hl]; exact ⟨hit, p⟩) fun h' eb => ⟨rfl, I.turned (t' := s.toks) (fun b o hb q => eb b o hb q) f0 f1 f3 f4 f5⟩
  self := fun A i s Q E st h => let ⟨⟨_, he⟩, _⟩ := st; wpAny_pyIter_enum he h
def iEnumG (K : Frag) (ta : TA) : TI := fun σ H R => ta σ H fun vs H1 => ∃ k a xs, vs = [.ref a] ∧ SqK K H1 k a xs ∧ R (IteG K k a) H1
theorem pi_enumG {X : Cx} {e : Expr} {ta : TA} {p pos tpos : Pos} {elts : List Expr} {kk : Nat} (hg : Gl X "enumerate") (hm : X.mg "enumerate" = none) (ha : PA X [e] ta) (hs : starEach [e] X.env = [(false, eval e X.env)] := by rfl) :
    PI X (.Tuple elts kk tpos) (.Call (.Name "enumerate" p) [e] [] pos) (iEnumG X.K ta) := by
  refine ⟨fun pins s σ H R I h => ?_⟩
  refine Call_ (ld_blt I hg hm boot_enumerate (PyProof.Rows.callWith_type1 (thn (ha.run pos pins s σ H _ I h) fun us s1 ⟨vs, H1, I1, r1, q1⟩ => ?_) hs rfl))
  obtain ⟨k, a, xs, ex, hq, q⟩ := q1
  subst ex
  cases r1 with
  | cons r rr =>
    cases rr
    cases r
    obtain ⟨its, rv, p', la⟩ := seqK I1 hq
    refine enum_begins1 (begK k a its.toArray) p' fun h' he e1 hsz hk => wpAny_pyIter_enum he ?_
    have I2 : Inv X pins σ H1 { s1 with heap := h' } := I1.kept (t' := s1.toks) hk
    refine ⟨s1.heap.objs.size + 1, [s1.heap.objs.size + 1, s1.heap.objs.size], _, _, H1, rfl, I2, turn_enumG (k := k) (a := a) (fun z => absurd la (by rw [← z]; exact Nat.not_lt.mpr (Nat.le_add_right _ _))) (Nat.succ_ne_self _), ⟨⟨.none, he⟩, iterK0 e1⟩, fun b hb => ?_, q⟩
    have e' : b = s1.heap.objs.size + 1 ∨ b = s1.heap.objs.size := by simpa using hb
    have hle : s1.heap.objs.size ≤ b := by
      rcases e' with z | z
      · rw [z]; exact Nat.le_add_right _ _
      · rw [z]; exact Nat.le_refl _
    exact I1.fpOk hle (I1.hok.fresh hle)

/-! ### the denotations -/
/-- a list or a tuple to be walked: is it a tuple; its items; what must stand meanwhile -/
def seqAt (S : Sto) : D → Option (Bool × List D × List (Nat × List D))
  | .tup ds => some (true, ds, [])
  | .fl ds => some (false, ds, [])
  | .rl ds => some (false, ds, [])
  | .ref n => match S[n]? with
    | some (.lst ds) => some (false, ds, [(n, ds)])
    | _ => none
  | _ => none
section
variable {K : Frag} {H : Hp} {ξ ι : List Addr} {S : Sto}
theorem cellIs_ok {n : Nat} {ds : List D} {a : Addr} (st : StoOk K H ξ ι S) (hn : ι[n]? = some a) (h : cellIs S n ds = true) : ∃ vs, SqL K H a vs ∧ RepL K H ξ ι ds vs := by
  unfold cellIs at h
  split at h
  · rename_i es q
    rw [D.sameL_eq h] at q
    obtain ⟨b, h1, vs, h2, h3⟩ := st.cell n _ q
    rw [hn] at h1
    cases h1
    exact ⟨vs, .inl (.inl h2), h3⟩
  · cases h
theorem cellIs_self {n : Nat} {ds : List D} (q : S[n]? = some (.lst ds)) : cellIs S n ds = true := by
  unfold cellIs
  rw [q]
  exact D.sameL_self ds
/-- what stands of a walked one later on -/
def Stays (K : Frag) (ξ ι : List Addr) (H : Hp) (k : Bool) (a : Addr) (ds : List D) (gs : List (Nat × List D)) : Prop :=
  ∀ {ξ' H' ι' S'}, Step H ι H' ι' → (∀ a ∈ ξ', a ∈ ξ ∨ H a = none) → StoOk K H' ξ' ι' S' → (gs.all fun g => cellIs S' g.1 g.2) = true → ∃ vs, SqK K H' k a vs ∧ RepL K H' ξ' ι' ds vs
theorem seqAt_ok {x : D} {v : V} {k : Bool} {ds : List D} {gs : List (Nat × List D)} (st : StoOk K H ξ ι S) (r : RepV K H ξ ι x v) (e : seqAt S x = some (k, ds, gs)) : ∃ a, v = .ref a ∧ (∃ xs, SqK K H k a xs) ∧ Stays K ξ ι H k a ds gs := by
  cases x with
  | tup es =>
    cases e
    have r' := r
    obtain ⟨a, vs, rfl, h2, h3⟩ := r'
    refine ⟨a, rfl, ⟨vs, h2.sq⟩, fun {ξ' H' ι' S'} z h _ _ => ?_⟩
    obtain ⟨b, us, e, h1, h2⟩ := RepV.mv (Mv.to z h) r.fit r
    cases e
    exact ⟨us, h1.sq, h2⟩
  | fl es =>
    cases e
    have r' := r
    obtain ⟨a, vs, rfl, h2, h3⟩ := r'
    refine ⟨a, rfl, ⟨vs, h2.sq⟩, fun {ξ' H' ι' S'} z h _ _ => ?_⟩
    obtain ⟨b, us, e, h1, h2⟩ := RepV.mv (Mv.to z h) r.fit r
    cases e
    exact ⟨us, h1.sq, h2⟩
  | rl es =>
    cases e
    have r' := r
    obtain ⟨a, vs, rfl, h2, h3⟩ := r'
    refine ⟨a, rfl, ⟨vs, h2.sq⟩, fun {ξ' H' ι' S'} z h _ _ => ?_⟩
    obtain ⟨b, us, e, h1, h2⟩ := RepV.mv (Mv.to z h) r.fit r
    cases e
    exact ⟨us, h1.sq, h2⟩
  | ref n =>
    unfold seqAt at e
    simp only at e
    split at e
    · rename_i es q
      cases e
      obtain ⟨a, rfl, hn⟩ := r
      obtain ⟨vs, h1, h2⟩ := cellIs_ok st hn (cellIs_self q)
      refine ⟨a, rfl, ⟨vs, h1⟩, fun {ξ' H' ι' S'} z h st' ok => ?_⟩
      obtain ⟨m, rfl⟩ := z.more
      simp only [List.all_cons, List.all_nil, Bool.and_true] at ok
      exact cellIs_ok st' (by rw [List.getElem?_append_left (List.getElem?_eq_some_iff.mp hn).1]; exact hn) ok
    · cases e
  | _ => cases e
theorem fresh_tup {H' : Hp} {ξ' ι' : List Addr} {S' : Sto} {T : Addr} {ds : List D} {vs : List V} (st : StoOk K H' ξ' ι' S') (hT : H' T = none) (r : RepL K H' ξ' ι' ds vs) : (∀ a o, H' a = some o → L2.upd H' T (.tup vs) a = some o) ∧ RepV K (L2.upd H' T (.tup vs)) ξ' ι' (.tup ds) (.ref T) := by
  have kp : ∀ a o, H' a = some o → L2.upd H' T (.tup vs) a = some o := fun a o h => by rw [upd_ne (ne_of_none h hT)]; exact h
  have s : Step H' ι' (L2.upd H' T (.tup vs)) ι' := Step.upd hT
  refine ⟨kp, T, vs, rfl, ⟨upd_same, fun z => ?_, fun z => ?_⟩, s.vals r⟩
  · exact absurd hT (st.live T z)
  · exact absurd hT (st.ne z)
def zipD (xs ys : List D) : List D := (xs.zip ys).map fun p => .tup [p.1, p.2]
theorem zipD_get {xs ys : List D} {i : Nat} {d : D} (h : (zipD xs ys)[i]? = some d) : ∃ x y, xs[i]? = some x ∧ ys[i]? = some y ∧ d = .tup [x, y] := by
  unfold zipD at h
  rw [List.getElem?_map, Option.map_eq_some_iff] at h
  obtain ⟨p, hp, rfl⟩ := h
  have := List.getElem?_zip_eq_some.mp hp
  exact ⟨p.1, p.2, this.1, this.2, rfl⟩
theorem zipD_length {xs ys : List D} : (zipD xs ys).length = min xs.length ys.length := by unfold zipD; rw [List.length_map, List.length_zip]
def enumD (xs : List D) : List D := xs.zipIdx.map fun p => .tup [.int (p.2 : Nat), p.1]
theorem enumD_get {xs : List D} {i : Nat} {d : D} (h : (enumD xs)[i]? = some d) : ∃ x, xs[i]? = some x ∧ d = .tup [.int (i : Nat), x] := by
  unfold enumD at h
  rw [List.getElem?_map, Option.map_eq_some_iff] at h
  obtain ⟨p, hp, rfl⟩ := h
  rw [List.getElem?_zipIdx, Option.map_eq_some_iff] at hp
  obtain ⟨x, hx, rfl⟩ := hp
  exact ⟨x, hx, by simp⟩
theorem enumD_length {xs : List D} : (enumD xs).length = xs.length := by unfold enumD; rw [List.length_map, List.length_zipIdx]
theorem srcZip {j k : Bool} {a b : Addr} {ds es : List D} {gs hs : List (Nat × List D)} (t1 : Stays K ξ ι H j a ds gs) (t2 : Stays K ξ ι H k b es hs) : SrcOk K ξ ι H (.grd (gs ++ hs) (zipD ds es)) (ItzG K j k a b) := by
  have sp : ∀ {S' : Sto}, Src.ok (.grd (gs ++ hs) (zipD ds es)) S' = true → (gs.all fun g => cellIs S' g.1 g.2) = true ∧ (hs.all fun g => cellIs S' g.1 g.2) = true := fun {S'} h => by
    unfold Src.ok at h
    simp only [List.all_append, Bool.and_eq_true] at h
    exact h
  refine ⟨fun ξ' H' ι' S i z h st ok hi => ?_, fun ξ' H' ι' S z h st ok => ?_, fun ξ' H' ι' S i x H3 d z h st ok e y => ?_⟩
  · obtain ⟨vs, q, r⟩ := t1 z h st (sp ok).1
    obtain ⟨us, q', r'⟩ := t2 z h st (sp ok).2
    have hi : i < min ds.length es.length := by rw [← zipD_length]; exact hi
    have l1 : i < vs.length := by rw [r.length]; omega
    have l2 : i < us.length := by rw [r'.length]; omega
    exact ⟨vs, us, vs[i], us[i], q, q', List.getElem?_eq_getElem l1, List.getElem?_eq_getElem l2⟩
  · obtain ⟨vs, q, r⟩ := t1 z h st (sp ok).1
    obtain ⟨us, q', r'⟩ := t2 z h st (sp ok).2
    have e : (Src.items (.grd (gs ++ hs) (zipD ds es))).length = min ds.length es.length := zipD_length
    rw [e]
    refine ⟨vs, us, q, q', ?_, ?_, ?_⟩
    · rw [r.length]; omega
    · rw [r'.length]; omega
    · rw [r.length, r'.length]; omega
  · obtain ⟨vs, q, r⟩ := t1 z h st (sp ok).1
    obtain ⟨us, q', r'⟩ := t2 z h st (sp ok).2
    obtain ⟨T, v1, v2, rfl, hT, rfl, y1, y2⟩ := y
    obtain ⟨d1, d2, e1, e2, rfl⟩ := zipD_get e
    obtain ⟨w1, f1, g1⟩ := r.get e1
    obtain ⟨w2, f2, g2⟩ := r'.get e2
    obtain rfl : w1 = v1 := Option.some.inj (f1.symm.trans (y1 vs q))
    obtain rfl : w2 = v2 := Option.some.inj (f2.symm.trans (y2 us q'))
    exact fresh_tup st hT (.cons g1 (.cons g2 (show RepL K H' ξ' ι' [] [] from rfl)))
theorem srcEnum {k : Bool} {a : Addr} {ds : List D} {gs : List (Nat × List D)} (t1 : Stays K ξ ι H k a ds gs) : SrcOk K ξ ι H (.grd gs (enumD ds)) (IteG K k a) := by
  refine ⟨fun ξ' H' ι' S i z h st ok hi => ?_, fun ξ' H' ι' S z h st ok => ?_, fun ξ' H' ι' S i x H3 d z h st ok e y => ?_⟩
  · obtain ⟨vs, q, r⟩ := t1 z h st ok
    have hi : i < ds.length := by rw [← enumD_length]; exact hi
    have l1 : i < vs.length := by rw [r.length]; omega
    exact ⟨vs, vs[i], q, List.getElem?_eq_getElem l1⟩
  · obtain ⟨vs, q, r⟩ := t1 z h st ok
    have e : (Src.items (.grd gs (enumD ds))).length = ds.length := enumD_length
    rw [e]
    exact ⟨vs, q, r.length⟩
  · obtain ⟨vs, q, r⟩ := t1 z h st ok
    obtain ⟨T, v1, rfl, hT, rfl, y1⟩ := y
    obtain ⟨d1, e1, rfl⟩ := enumD_get e
    obtain ⟨w1, f1, g1⟩ := r.get e1
    obtain rfl : w1 = v1 := Option.some.inj (f1.symm.trans (y1 vs q))
    exact fresh_tup st hT (.cons (show RepV K H' ξ' ι' (.int (i : Nat)) (.int (i : Nat)) from rfl) (.cons g1 (show RepL K H' ξ' ι' [] [] from rfl)))
end
def iZipD (fa : ADen) : IDen := fun ρ S => bnd (fa ρ S) fun ds S => match ds with
  | [x, y] => (seqAt S x).bind fun p => (seqAt S y).map fun q => (.grd (p.2.2 ++ q.2.2) (zipD p.2.1 q.2.1), S)
  | _ => none
def iEnumD (fa : ADen) : IDen := fun ρ S => bnd (fa ρ S) fun ds S => match ds with
  | [x] => (seqAt S x).map fun p => (.grd p.2.2 (enumD p.2.1), S)
  | _ => none
section
variable {X : Cx}
theorem mi_zip {e e2 : Expr} {fa : ADen} {p pos tpos : Pos} {elts : List Expr} {kk : Nat} (hg : Gl X "zip") (hm : X.mg "zip" = none) (ha : MA X [e, e2] fa)
    (hs : starEach [e, e2] X.env = (false, eval e X.env) :: starEach [e2] X.env := by rfl) (hpl : (backTo pos (starEach [e2] X.env)).any (·.1) = false := by rfl) :
    MI X (.Tuple elts kk tpos) (.Call (.Name "zip" p) [e, e2] [] pos) (iZipD fa) := (pi_zipG hg hm ha hs hpl).weak fun σ H R ⟨ξ, ι, ρ, S, s, S', st, re, e, k⟩ => by
  obtain ⟨ds, S1, e1, e⟩ := bnd_some e
  refine tA.run st re e1 fun vs H1 ι1 s1 st1 r1 => ?_
  match ds, e, r1 with
  | [x, y], e, r1 =>
    simp only at e
    cases q : seqAt S1 x with
    | none => rw [q] at e; cases e
    | some p =>
      cases q2 : seqAt S1 y with
      | none => rw [q, q2] at e; cases e
      | some p2 =>
        rw [q, q2] at e
        cases e
        obtain ⟨v, w, rfl, h1, h2⟩ := RepL.two' r1
        obtain ⟨k1, d1, g1⟩ := p
        obtain ⟨k2, d2, g2⟩ := p2
        obtain ⟨a, rfl, ⟨xs, hx⟩, t1⟩ := seqAt_ok st1 h1 q
        obtain ⟨b, rfl, ⟨ys, hy⟩, t2⟩ := seqAt_ok st1 h2 q2
        exact ⟨k1, k2, a, b, xs, ys, rfl, hx, hy, k _ H1 ι1 s1 st1 (srcZip t1 t2)⟩
theorem mi_enum {e : Expr} {fa : ADen} {p pos tpos : Pos} {elts : List Expr} {kk : Nat} (hg : Gl X "enumerate") (hm : X.mg "enumerate" = none) (ha : MA X [e] fa) (hs : starEach [e] X.env = [(false, eval e X.env)] := by rfl) :
    MI X (.Tuple elts kk tpos) (.Call (.Name "enumerate" p) [e] [] pos) (iEnumD fa) := (pi_enumG hg hm ha hs).weak fun σ H R ⟨ξ, ι, ρ, S, s, S', st, re, e, k⟩ => by
  obtain ⟨ds, S1, e1, e⟩ := bnd_some e
  refine tA.run st re e1 fun vs H1 ι1 s1 st1 r1 => ?_
  match ds, e, r1 with
  | [x], e, r1 =>
    simp only at e
    cases q : seqAt S1 x with
    | none => rw [q] at e; cases e
    | some p =>
      rw [q] at e
      cases e
      obtain ⟨v, rfl, h1⟩ := RepL.one' r1
      obtain ⟨k1, d1, g1⟩ := p
      obtain ⟨a, rfl, ⟨xs, hx⟩, t1⟩ := seqAt_ok st1 h1 q
      exact ⟨k1, a, xs, rfl, hx, k _ H1 ι1 s1 st1 (srcEnum t1)⟩
/-! ### [*a, b], (*a, *b) -/
def aStar (fe : EDen) (fr : ADen) : ADen := fun ρ S => bnd (fe ρ S) fun d S => match seqOf S d with
  | some xs => bnd (fr ρ S) fun ys S => some (xs ++ ys, S)
  | none => none
theorem ma_star {e : Expr} {es : List Expr} {p : Pos} {fe : EDen} {fr : ADen} (he : ME X e fe) (hr : MA X es fr) (hs : starEach (.Starred e p :: es) X.env = (true, eval e X.env) :: starEach es X.env := by rfl) : MA X (.Starred e p :: es) (aStar fe fr) :=
  (StX.pa_star he hr hs).weak fun σ H Q ⟨ξ, ι, ρ, S, ds, S', st, re, e, k⟩ => by
    obtain ⟨d, S1, e1, e⟩ := bnd_some e
    split at e
    · rename_i xs q
      obtain ⟨ys, S2, e2, e⟩ := bnd_some e
      cases e
      refine tE.run st re e1 fun v H1 ι1 s1 st1 r1 => ?_
      obtain ⟨a, vs, rfl, hq, r⟩ := seqOf_ok st1 r1 q
      refine ⟨a, vs, rfl, hq.symm, tA.run st1 (s1.env re) e2 fun us H2 ι2 s2 st2 r2 => ?_⟩
      exact k _ H2 ι2 (s1.trans s2) st2 ((s2.vals r).append r2)
    · cases e
end
end MS

/-! MS: sorted of any data alike -/
namespace MS
open PySem PySem.Spec PyProof.Rows L2
def leD (a b : D) : Bool := PySem.W.dataLe false D.dat a b
def rSortD (K : Frag) : List V → Hp → VK → Prop := fun vs H Q => ∃ (a : Addr) (bs : List (V × D)), vs = [V.ref a] ∧ SqL K H a (bs.map (·.1)) ∧ (∀ b ∈ bs, Dp K H b.1 (D.dat b.2)) ∧ PySem.W.AllAlike (bs.map fun b => D.dat b.2) ∧ PySem.W.Sortable (bs.map fun b => D.dat b.2) ∧ (∀ b ∈ bs, (D.dat b.2).depth ≤ 60) ∧
  ∀ p, H p = none → Q (.ref p) (L2.upd H p (.lst ((bs.mergeSort (PySem.W.dataLe false fun b => D.dat b.2)).map (·.1))))
theorem eachIs_zip {α β γ : Type} {R : α → γ → Prop} {f : β → γ} : ∀ {us : List α} {bs : List β}, PySem.W.EachIs (fun u b => R u (f b)) us bs → PySem.W.EachIs R us (bs.map f)
  | _, _, .nil => .nil
  | _, _, .cons h t => .cons h (eachIs_zip t)
theorem each_vals : ∀ {bs : List (V × D)} {us : List Value}, PySem.W.EachIs (fun u (b : V × D) => RelV b.1 u) us bs → Vals (bs.map (·.1)) us
  | _, _, .nil => .nil
  | _, _, .cons h t => .cons h (each_vals t)
theorem vals_each : ∀ {bs : List (V × D)} {us : List Value}, Vals (bs.map (·.1)) us → PySem.W.EachIs (fun u (b : V × D) => RelV b.1 u) us bs
  | [], us, h => by cases h; exact .nil
  | b :: bs, us, h => by
    cases h with
    | cons h t => exact .cons h (vals_each t)
theorem each_and {α β : Type} {R : α → β → Prop} {T : α → β → Prop} : ∀ {us : List α} {bs : List β}, PySem.W.EachIs R us bs → (∀ u b, b ∈ bs → R u b → T u b) → PySem.W.EachIs T us bs
  | _, _, .nil, _ => .nil
  | _, _, .cons h t, f => .cons (f _ _ List.mem_cons_self h) (each_and t fun u b m r => f u b (List.mem_cons_of_mem _ m) r)
section
variable {X : Cx}
theorem cr_sortedD (hu : X.A.units + 64 < cLine) : CallR X (.builtin "sorted") (rSortD X.K) := by
  intro pins s σ H vs us Q I r h
  obtain ⟨a, bs, rfl, hs, hd, hal, hk, hdep, q⟩ := h
  obtain ⟨its, rv, hl, hz⟩ := I.list hs
  rw [Vals.ref1 r]
  have e := vals_each rv
  have er : PySem.W.EachIs (fun v (b : V × D) => ∃ as, Reads s.heap v (D.dat b.2) as) its bs := each_and e fun u b m r => Dp.reads I _ _ _ (hd b m) r
  refine PySem.W.sorted_data (enc := fun b : V × D => D.dat b.2) hl.isList e er hal hk (by rw [List.length_map] at hz; exact hz) (fun b m => by have := hdep b m; omega) fun out ho e' => ?_
  obtain ⟨ep, he'⟩ := PyProof.Rows.sortedAll_at s.heap its out.toArray
  have rv' := each_vals e'
  have hlen : ((bs.mergeSort (PySem.W.dataLe false fun b : V × D => D.dat b.2)).map (·.1)).length ≤ sizeLine := by
    rw [List.length_map, List.length_mergeSort]
    rw [List.length_map] at hz
    exact hz
  exact ⟨.ref _, L2.upd H (s.heap.objs.size + 1) (.lst _), I.laid (t' := s.toks) (fun _ _ => PyProof.Rows.sortedAll_old) (Nat.le_succ _) ⟨hlen, out, ep, rv', he'⟩, rfl, q _ (I.hok.fresh (Nat.le_succ _))⟩
end

section
variable {α : Type} {le : α → α → Bool}
theorem isort_merge (h : PySem.W.TotalLe le) (l : List α) : l.mergeSort le = isort le l := by
  refine (PySem.W.sort_unique h (isort_pw (fun a b => h.total a b) (fun a b c => h.trans a b c) l) fun c => ?_).symm
  have key : ∀ (x : α) (m : List α), (ins le x m).filter (PySem.W.sameRank le c) = (x :: m).filter (PySem.W.sameRank le c) := by
    intro x m
    induction m with
    | nil => rfl
    | cons y m ih =>
      unfold ins
      split
      · rfl
      · rename_i hxy
        have hh : PySem.W.sameRank le c x = true → PySem.W.sameRank le c y = false := fun hx => by
          cases hy : PySem.W.sameRank le c y with
          | false => rfl
          | true =>
            unfold PySem.W.sameRank at hx hy
            rw [Bool.and_eq_true] at hx hy
            exact absurd (h.trans x c y hx.2 hy.1) hxy
        simp only [List.filter_cons] at ih ⊢
        rw [ih]
        cases hx : PySem.W.sameRank le c x with
        | false => simp
        | true => simp [hh hx]
  induction l with
  | nil => rfl
  | cons x l ih =>
    show (ins le x (isort le l)).filter _ = _
    rw [key]
    simp only [List.filter_cons]
    rw [ih]
end
theorem leD_total : PySem.W.TotalLe leD := PySem.W.sortLe_total (listOrd itemOrd) false fun b : D => PySem.W.keyToks (D.dat b)
def alikeB (es : List D) : Bool := es.all fun a => es.all fun b => PySem.W.alike (D.dat a) (D.dat b)
def isTup1 : PyData → Bool
  | .tuple (_ :: _) => true
  | _ => false
def isOther : PyData → Bool
  | .none => false
  | .tuple _ => false
  | _ => true
def sortOk (es : List D) : Bool := D.pureL es && alikeB es && ((es.all fun d => isTup1 (D.dat d)) || es.all fun d => isOther (D.dat d)) && es.all fun d => decide ((D.dat d).depth ≤ 60)
def cSortedG : CDen := fun ds S => match cSorted ds S with
  | some r => some r
  | none => match ds with
    | [d] => (listOf S d).bind fun es => if sortOk es = true then some (.fl (isort leD es), S) else none
    | _ => none
def rSortG (K : Frag) : List V → Hp → VK → Prop := fun xs H Q => rSortA K xs H Q ∨ rSortD K xs H Q
theorem rep_zip {K : Frag} {H : Hp} {ξ ι : List Addr} : ∀ {es : List D} {vs : List V}, RepL K H ξ ι es vs → (vs.zip es).map (·.1) = vs ∧ (vs.zip es).map (·.2) = es ∧ ∀ b ∈ vs.zip es, RepV K H ξ ι b.2 b.1 ∧ b.2 ∈ es
  | [], vs, r => by rw [show vs = [] from r]; exact ⟨rfl, rfl, fun b h => by cases h⟩
  | e :: es, vs, ⟨v, t, q, h1, h2⟩ => by
    subst q
    obtain ⟨a1, a2, a3⟩ := rep_zip h2
    refine ⟨by rw [List.zip_cons_cons, List.map_cons, a1], by rw [List.zip_cons_cons, List.map_cons, a2], fun b hb => ?_⟩
    rw [List.zip_cons_cons] at hb
    rcases List.mem_cons.mp hb with rfl | hb
    · exact ⟨h1, List.mem_cons_self⟩
    · exact ⟨(a3 b hb).1, List.mem_cons_of_mem _ (a3 b hb).2⟩
theorem rep_of_zip {K : Frag} {H : Hp} {ξ ι : List Addr} : ∀ {bs : List (V × D)}, (∀ b ∈ bs, RepV K H ξ ι b.2 b.1) → RepL K H ξ ι (bs.map (·.2)) (bs.map (·.1))
  | [], _ => rfl
  | b :: bs, h => ⟨b.1, _, rfl, h b List.mem_cons_self, rep_of_zip fun c m => h c (List.mem_cons_of_mem _ m)⟩
section
variable {X : Cx} {K : Frag}
theorem c_sortedG (hu : X.A.units + 64 < cLine) : CallR X (.builtin "sorted") (rSortG X.K) := c_sorted.or (cr_sortedD hu)
theorem mc_sortedG : MCall K (rSortG K) cSortedG := by
  intro H ξ ι S S' ds d vs Q st r e k
  unfold cSortedG at e
  split at e
  · rename_i p q
    cases e
    exact .inl (mc_sorted H ξ ι S S' ds d vs Q st r q k)
  · split at e
    · rename_i x _
      cases q : listOf S x with
      | none => rw [q] at e; cases e
      | some es =>
        rw [q] at e
        have e : (if sortOk es = true then some (D.fl (isort leD es), S) else none) = some (d, S') := e
        split at e
        · rename_i ok
          cases e
          obtain ⟨v, rfl, h⟩ := RepL.one' r
          obtain ⟨a, ys, rfl, h2, h3⟩ := listOf_ok st h q
          unfold sortOk at ok
          simp only [Bool.and_eq_true] at ok
          obtain ⟨⟨⟨o1, o2⟩, o3⟩, o4⟩ := ok
          obtain ⟨z1, z2, z3⟩ := rep_zip h3
          have mem2 : ∀ x ∈ (ys.zip es).map (fun b => D.dat b.2), ∃ b ∈ es, D.dat b = x := fun x hx => by
            obtain ⟨b, hb, rfl⟩ := List.mem_map.mp hx
            exact ⟨b.2, (z3 b hb).2, rfl⟩
          refine .inr ⟨a, ys.zip es, rfl, by rw [z1]; exact h2, fun b hb => ?_, fun x hx y hy => ?_, ?_, fun b hb => ?_, fun p hp => ?_⟩
          · exact RepV.dp (D.fitL_all.mp o1 b.2 (z3 b hb).2) (z3 b hb).1
          · obtain ⟨b, hb, rfl⟩ := mem2 x hx
            obtain ⟨c, hc, rfl⟩ := mem2 y hy
            exact List.all_eq_true.mp (List.all_eq_true.mp o2 b hb) c hc
          · rw [Bool.or_eq_true] at o3
            rcases o3 with o3 | o3
            · refine .inl fun x hx => ?_
              obtain ⟨b, hb, rfl⟩ := mem2 x hx
              have := List.all_eq_true.mp o3 b hb
              unfold isTup1 at this
              split at this
              · rename_i x t e
                exact ⟨x, t, e⟩
              · cases this
            · refine .inr fun x hx => ?_
              obtain ⟨b, hb, rfl⟩ := mem2 x hx
              have := List.all_eq_true.mp o3 b hb
              refine ⟨fun z => ?_, fun xs z => ?_⟩
              · rw [z] at this; cases this
              · rw [z] at this; cases this
          · exact of_decide_eq_true (List.all_eq_true.mp o4 b.2 (z3 b hb).2)
          · have e1 : ((ys.zip es).mergeSort (PySem.W.dataLe false fun b : V × D => D.dat b.2)).map (·.2) = isort leD es := by
              rw [List.map_mergeSort (r := PySem.W.dataLe false fun b : V × D => D.dat b.2) (s := leD) (f := fun b : V × D => b.2) (fun _ _ _ _ => rfl), z2, isort_merge leD_total]
            rw [← e1] at k
            exact k.fl st (rep_of_zip fun b hb => (z3 b ((List.mergeSort_perm _ _).mem_iff.mp hb)).1) hp
        · cases e
    · cases e
end
end MS

/-! MS: in, range as a list, dict.get -/
namespace MS
open PySem PySem.Spec PyProof.Rows L2
section
variable {X : Cx} {K : Frag}
/-! ### x in xs, text in text -/
def rInT (K : Frag) (neg : Bool) : R2 := fun x y H Q => ∃ d ds, Dp K H x d ∧ Dp K H y (.tuple ds) ∧ SeqAt.shaped d = true ∧ SeqAt.shaped (.tuple ds) = true ∧ Q (.bl (if neg then !ds.any fun z => PyData.eqv z d else ds.any fun z => PyData.eqv z d)) H
theorem op_inT (hu : X.A.units + 65 < cLine) : OpR X (compareOp .In) (rInT X.K false) := by
  intro pins s σ H x y v u Q I rx ry h
  obtain ⟨d, ds, hd, he, sd, se, q⟩ := h
  obtain ⟨as, r1⟩ := Dp.reads I d x v hd rx
  obtain ⟨bs, r2⟩ := Dp.reads I (.tuple ds) y u he ry
  exact SeqAt.in_tuple_reads r2 r1 (SeqAt.canLay_of_shaped se) (SeqAt.canLay_of_shaped sd) (room_in_shaped sd hu) ⟨.bl _, H, I, rfl, q⟩
theorem op_notInT (hu : X.A.units + 65 < cLine) : OpR X (compareOp .NotIn) (rInT X.K true) := by
  intro pins s σ H x y v u Q I rx ry h
  obtain ⟨d, ds, hd, he, sd, se, q⟩ := h
  obtain ⟨as, r1⟩ := Dp.reads I d x v hd rx
  obtain ⟨bs, r2⟩ := Dp.reads I (.tuple ds) y u he ry
  exact SeqAt.notIn_tuple_reads r2 r1 (SeqAt.canLay_of_shaped se) (SeqAt.canLay_of_shaped sd) (room_in_shaped sd hu) ⟨.bl _, H, I, rfl, q⟩
def sayN (neg b : Bool) : D := .bl (if neg then !b else b)
def gInN (neg : Bool) : Op2 := fun x y S => match x, y with
  | .str i, .str j => some (sayN neg (!(Builtin.Str.occurrences j i 0 j.length 1).isEmpty), S)
  | x, y => match datS S x, datS S y with
    | some a, some (.list es) => if SeqAt.shaped a && SeqAt.shaped (.list es) then some (sayN neg (es.any fun z => PyData.eqv z a), S) else none
    | some a, some (.tuple es) => if SeqAt.shaped a && SeqAt.shaped (.tuple es) then some (sayN neg (es.any fun z => PyData.eqv z a), S) else none
    | _, _ => none
def gIn : Op2 := gInN false
def gNotIn : Op2 := gInN true
def rInS (neg : Bool) : R2 := fun x y H Q => ∃ i j, x = .str i ∧ y = .str j ∧ Q (.bl (if neg then !(!(Builtin.Str.occurrences j i 0 j.length 1).isEmpty) else !(Builtin.Str.occurrences j i 0 j.length 1).isEmpty)) H
def rInA (K : Frag) : R2 := fun x y H Q => rInS false x y H Q ∨ (fun x y H Q => L2.rInD K x y H Q ∨ rInT K false x y H Q) x y H Q
def rNotInA (K : Frag) : R2 := fun x y H Q => rInS true x y H Q ∨ (fun x y H Q => L2.rNotInD K x y H Q ∨ rInT K true x y H Q) x y H Q
theorem o_in (hu : X.A.units + 64 < cLine) (hu2 : X.A.units + 65 < cLine) : OpR X (compareOp .In) (rInA X.K) := OpR.or (r := rInS false) op_in_str ((op_inD hu2).or (op_inT hu2))
theorem o_notIn (hu : X.A.units + 64 < cLine) (hu2 : X.A.units + 65 < cLine) : OpR X (compareOp .NotIn) (rNotInA X.K) := OpR.or (r := rInS true) op_notin_str ((op_notInD hu2).or (op_notInT hu2))
theorem gInN_cases {neg : Bool} {x y d : D} {S S' : Sto} (e : gInN neg x y S = some (d, S')) : (∃ i j, x = .str i ∧ y = .str j ∧ d = sayN neg (!(Builtin.Str.occurrences j i 0 j.length 1).isEmpty) ∧ S' = S) ∨
    ∃ a es, datS S x = some a ∧ (datS S y = some (.list es) ∧ SeqAt.shaped (.list es) = true ∨ datS S y = some (.tuple es) ∧ SeqAt.shaped (.tuple es) = true) ∧ SeqAt.shaped a = true ∧ d = sayN neg (es.any fun z => PyData.eqv z a) ∧ S' = S := by
  unfold gInN at e
  split at e
  · rename_i i j
    cases e
    exact .inl ⟨i, j, rfl, rfl, rfl, rfl⟩
  · split at e
    · rename_i a es q1 q2
      split at e
      · rename_i h
        rw [Bool.and_eq_true] at h
        cases e
        exact .inr ⟨a, es, q1, .inl ⟨q2, h.2⟩, h.1, rfl, rfl⟩
      · cases e
    · rename_i a es q1 q2
      split at e
      · rename_i h
        rw [Bool.and_eq_true] at h
        cases e
        exact .inr ⟨a, es, q1, .inr ⟨q2, h.2⟩, h.1, rfl, rfl⟩
      · cases e
    · cases e
theorem m_in : MOp K (rInA K) gIn := by
  intro H ξ ι S S' x y d v w Q st rx ry e k
  rcases gInN_cases e with ⟨i, j, rfl, rfl, rfl, rfl⟩ | ⟨a, es, q1, q2, h1, rfl, rfl⟩
  · obtain rfl : v = .str i := rx
    obtain rfl : w = .str j := ry
    exact .inl ⟨i, j, rfl, rfl, k.here st rfl⟩
  · rcases q2 with ⟨q2, h2⟩ | ⟨q2, h2⟩
    · exact .inr (.inl ⟨a, es, datS_ok st rx q1, datS_ok st ry q2, h1, h2, k.here st rfl⟩)
    · exact .inr (.inr ⟨a, es, datS_ok st rx q1, datS_ok st ry q2, h1, h2, k.here st rfl⟩)
theorem m_notIn : MOp K (rNotInA K) gNotIn := by
  intro H ξ ι S S' x y d v w Q st rx ry e k
  rcases gInN_cases e with ⟨i, j, rfl, rfl, rfl, rfl⟩ | ⟨a, es, q1, q2, h1, rfl, rfl⟩
  · obtain rfl : v = .str i := rx
    obtain rfl : w = .str j := ry
    exact .inl ⟨i, j, rfl, rfl, k.here st rfl⟩
  · rcases q2 with ⟨q2, h2⟩ | ⟨q2, h2⟩
    · exact .inr (.inl ⟨a, es, datS_ok st rx q1, datS_ok st ry q2, h1, h2, k.here st rfl⟩)
    · exact .inr (.inr ⟨a, es, datS_ok st rx q1, datS_ok st ry q2, h1, h2, k.here st rfl⟩)
/-! ### for x in range(a, b, c) -/
def stepN (lo c : Int) (n : Nat) : List D := (List.range n).map fun (i : Nat) => .int (lo + i * c)
theorem stepN_length (lo c : Int) (n : Nat) : (stepN lo c n).length = n := by simp [stepN]
theorem srcStep {H : Hp} {ξ ι : List Addr} {lo c : Int} {n : Nat} : SrcOk K ξ ι H (.fix (stepN lo c n)) (Itc lo c n) := by
  refine ⟨fun ξ' H' ι' S i _ _ _ _ hi => ?_, fun ξ' H' ι' S _ _ _ _ => ?_, fun ξ' H' ι' S i x H3 d _ _ st _ e y => ?_⟩
  · show i < n
    rw [← stepN_length lo c n]
    exact hi
  · show n ≤ (stepN lo c n).length
    rw [stepN_length]
    exact Nat.le_refl _
  · obtain ⟨rfl, rfl⟩ := y
    have hl : i < n := by
      have := (List.getElem?_eq_some_iff.mp e).1
      rw [← stepN_length lo c n]
      exact this
    have e : (stepN lo c n)[i]? = some d := e
    have e2 : (stepN lo c n)[i]? = some (.int (lo + i * c)) := by simp [stepN, hl]
    rw [e2] at e
    cases e
    exact ⟨fun _ _ o => o, rfl⟩
def sz3 (i j c : Int) : Nat := (Builtin.Range.rangeSize i j c).toNat
def iRange3 (fa : ADen) : IDen := fun ρ S => bnd (fa ρ S) fun ds S => match ds with
  | [.int i, .int j, .int c] => if c ≠ 0 ∧ c.natAbs < 1073741824 ∧ Builtin.Range.small i j c = true ∧ 0 ≤ Builtin.Range.rangeSize i j c then some (.fix (stepN i c (sz3 i j c)), S) else none
  | _ => none
theorem mi_range3 {tg a b c : Expr} {fa : ADen} {p pos : Pos} (hg : Gl X "range") (hm : X.mg "range" = none) (ha : MA X [a, b, c] fa)
    (hs : starEach [a, b, c] X.env = (false, eval a X.env) :: starEach [b, c] X.env := by rfl) (hpl : (backTo pos (starEach [b, c] X.env)).any (·.1) = false := by rfl) : MI X tg (.Call (.Name "range" p) [a, b, c] [] pos) (iRange3 fa) :=
  (pi_range3 hg hm ha hs hpl).weak fun σ H R ⟨ξ, ι, ρ, S, s, S', st, re, e, k⟩ => by
    obtain ⟨ds, S1, e1, e⟩ := bnd_some e
    refine tA.run st re e1 fun vs H1 ι1 s1 st1 r1 => ?_
    match ds, e, r1 with
    | [.int i, .int j, .int c], e, r1 =>
      simp only at e
      split at e
      · rename_i h
        cases e
        obtain ⟨v, t, rfl, h1, h2⟩ := r1
        obtain ⟨v2, w, rfl, h3, h4⟩ := RepL.two' h2
        obtain rfl : v = .int i := h1
        obtain rfl : v2 = .int j := h3
        obtain rfl : w = .int c := h4
        exact ⟨i, j, c, _, rfl, ⟨h.1, h.2.1, h.2.2.1, (Int.toNat_of_nonneg h.2.2.2).symm⟩, k _ H1 ι1 s1 st1 srcStep⟩
      · cases e
/-! ### reading a dict that is locked: d.items() in a comprehension, d a local -/
def keyD : Key → D
  | .inl i => .int i
  | .inr x => .str x
theorem keyD_rep {H : Hp} {ξ ι : List Addr} (k : Key) : RepV K H ξ ι (keyD k) (kV k) := by cases k <;> rfl
def itemsD (kvs : List (Key × D)) : List D := kvs.map fun p => .tup [keyD p.1, p.2]
def lckAt (S : Sto) : D → Option (List (Key × D))
  | .ref n => match S[n]? with
    | some (.lck kvs) => some kvs
    | _ => none
  | _ => none
theorem lckAt_ok {H : Hp} {ξ ι : List Addr} {S : Sto} {d : D} {v : V} {kvs : List (Key × D)} (st : StoOk K H ξ ι S) (r : RepV K H ξ ι d v) (e : lckAt S d = some kvs) :
    ∃ n a ws o, d = .ref n ∧ v = .ref a ∧ S[n]? = some (.lck kvs) ∧ H a = some (.frz o (.dK ws)) ∧ ws.map (·.1) = kvs.map (·.1) ∧ RepL K H ξ ι (kvs.map (·.2)) (ws.map (·.2)) := by
  cases d with
  | ref n =>
    unfold lckAt at e
    simp only at e
    split at e
    · rename_i es q
      cases e
      obtain ⟨a, rfl, hn⟩ := r
      obtain ⟨b, h1, ws, o, h2, h3, h4⟩ := st.cell n _ q
      rw [hn] at h1
      cases h1
      exact ⟨n, a, ws, o, rfl, rfl, q, h2, h3, h4⟩
    · cases e
  | _ => cases e
theorem pair_get {H : Hp} {ξ ι : List Addr} : ∀ {kvs : List (Key × D)} {ws : List (Key × V)} {i : Nat} {k : Key} {v : V}, ws.map (·.1) = kvs.map (·.1) → RepL K H ξ ι (kvs.map (·.2)) (ws.map (·.2)) → ws[i]? = some (k, v) → ∃ d, kvs[i]? = some (k, d) ∧ RepV K H ξ ι d v := by
  intro kvs ws i k v hk hv e
  have e1 : (ws.map (·.1))[i]? = some k := by rw [List.getElem?_map, e]; rfl
  rw [hk, List.getElem?_map, Option.map_eq_some_iff] at e1
  obtain ⟨p, hp, rfl⟩ := e1
  have e2 : (kvs.map (·.2))[i]? = some p.2 := by rw [List.getElem?_map, hp]; rfl
  obtain ⟨w, h1, h2⟩ := hv.get e2
  rw [List.getElem?_map, e] at h1
  cases h1
  exact ⟨p.2, hp, h2⟩
theorem srcItems {H : Hp} {ξ ι : List Addr} {a : Addr} {o : Obj} {kvs : List (Key × D)} {ws : List (Key × V)} (h : H a = some (.frz o (.dK ws))) (hk : ws.map (·.1) = kvs.map (·.1)) (hv : RepL K H ξ ι (kvs.map (·.2)) (ws.map (·.2))) : SrcOk K ξ ι H (.fix (itemsD kvs)) (Iti a o ws) := by
  have hl : ws.length = kvs.length := by simpa using congrArg List.length hk
  have li : (itemsD kvs).length = ws.length := by unfold itemsD; rw [List.length_map, hl]
  refine ⟨fun ξ' H' ι' S i z _ _ _ hi => ⟨z.frz a o _ h, ?_⟩, fun ξ' H' ι' S z _ _ _ => ⟨z.frz a o _ h, ?_⟩, fun ξ' H' ι' S i x H3 d z hz st _ e y => ?_⟩
  · rw [← li]
    exact hi
  · exact Nat.le_of_eq li.symm
  · obtain ⟨T, k, v, e1, rfl, hT, rfl⟩ := y
    obtain ⟨d1, e2, r1⟩ := pair_get hk hv e1
    have e3 : (itemsD kvs)[i]? = some d := e
    unfold itemsD at e3
    rw [List.getElem?_map, e2] at e3
    cases e3
    have r2 : RepV K H' ξ' ι' d1 v := RepV.mv (Mv.to z hz) r1.fit r1
    exact fresh_tup st hT (.cons (keyD_rep k) (.cons r2 (show RepL K H' ξ' ι' [] [] from rfl)))
def iItemsL (fe : EDen) : IDen := fun ρ S => bnd (fe ρ S) fun d S => (lckAt S d).map fun kvs => (.fix (itemsD kvs), S)
theorem mi_items {e : Expr} {fe : EDen} {apos cpos tpos : Pos} {elts : List Expr} {kk : Nat} (he : ME X e fe) (hbase : attributeBase e "items" X.env (eval e X.env) = eval e X.env := by rfl) (hline : (apos.endLine == cpos.line) = true := by rfl) :
    MI X (.Tuple elts kk tpos) (.Call (.Attribute e "items" apos) [] [] cpos) (iItemsL fe) := (pi_items he hbase hline).weak fun σ H R ⟨ξ, ι, ρ, S, s, S', st, re, e, k⟩ => by
  obtain ⟨d, S1, e1, e⟩ := bnd_some e
  cases q : lckAt S1 d with
  | none => rw [q] at e; cases e
  | some kvs =>
    rw [q] at e
    cases e
    refine tE.run st re e1 fun v H1 ι1 s1 st1 r1 => ?_
    obtain ⟨n, a, ws, o, rfl, rfl, h1, h2, h3, h4⟩ := lckAt_ok st1 r1 q
    exact ⟨a, o, ws, rfl, h2, k _ H1 ι1 s1 st1 (srcItems h2 h3 h4)⟩
/-- the dict in slot i is locked while f runs -/
def dLock (i : Nat) (f : EDen) : EDen := fun ρ S => match ρ[i]? with
  | some (some (.ref n)) => match S[n]? with
    | some (.dct kvs) => bnd (f ρ (S.set n (.lck kvs))) fun d S' => match S'[n]? with
      | some (.lck es) => some (d, S'.set n (.dct es))
      | _ => none
    | _ => none
  | _ => none
theorem me_lock {e : Expr} {f : EDen} (i : Nat) (h : ME X e f) : ME X e (dLock i f) := (pe_lock h).weak fun σ H Q ⟨ξ, ι, ρ, S, d, S', st, re, q, k⟩ => by
  unfold dLock at q
  split at q
  · rename_i n hρ
    split at q
    · rename_i kvs hS
      obtain ⟨d', S1, e1, q⟩ := bnd_some q
      split at q
      · rename_i es hS1
        cases q
        obtain ⟨v, hσ, a, rfl, hn⟩ := re.at_ i _ hρ
        obtain ⟨b, h1, ws, h2, h3, h4⟩ := st.cell n _ hS
        rw [hn] at h1
        cases h1
        have ha : a ∈ ι := List.mem_of_getElem? hn
        refine ⟨a, .dK ws, h2, trivial, fun od => ?_⟩
        have m1 : ∀ k, Mv H ξ ι k (L2.upd H a (.frz od (.dK ws))) ξ ι := fun k => Mv.write ha
        have st1 : StoOk X.K (L2.upd H a (.frz od (.dK ws))) ξ ι (S.set n (.lck kvs)) := st.swap hn ⟨ws, od, upd_same, h3, RepL.mv (m1 _) h4.fit h4⟩ (show C.fit n (.dct kvs) = true from st.asc n _ hS)
        have re1 : RepE X.K (L2.upd H a (.frz od (.dK ws))) ξ ι ρ σ := ⟨re.len, fun j d e => by
          obtain ⟨v, g1, g2⟩ := re.at_ j d e
          exact ⟨v, g1, RepV.mv (m1 _) g2.fit g2⟩⟩
        refine tE.run st1 re1 e1 fun v H' ι' s' st' r' => ?_
        have hf : H' a = some (.frz od (.dK ws)) := s'.frz a od _ upd_same
        refine ⟨hf, ?_⟩
        have hn' : ι'[n]? = some a := by
          obtain ⟨m, rfl⟩ := s'.more
          rw [List.getElem?_append_left (List.getElem?_eq_some_iff.mp hn).1]
          exact hn
        obtain ⟨b, g1, ws', o', g2, g3, g4⟩ := st'.cell n _ hS1
        rw [hn'] at g1
        cases g1
        rw [hf] at g2
        cases g2
        have ha' : a ∈ ι' := List.mem_of_getElem? hn'
        have m2 : ∀ k, Mv H' ξ ι' k (L2.upd H' a (.dK ws)) ξ ι' := fun k => Mv.write ha'
        refine k v (L2.upd H' a (.dK ws)) ι' ⟨s'.more, fun c o hc hni => ?_, fun c o u hc => ?_⟩ (st'.swap hn' ⟨ws, upd_same, g3, RepL.mv (m2 _) g4.fit g4⟩ (show C.fit n (.lck es) = true from st'.asc n _ hS1)) (RepV.mv (m2 _) r'.fit r')
        · have ne : c ≠ a := fun z => hni (z ▸ ha)
          obtain ⟨x1, x2⟩ := s'.keep c o (by rw [upd_ne ne]; exact hc) hni
          exact ⟨by rw [upd_ne ne]; exact x1, x2⟩
        · have ne : c ≠ a := fun z => by rw [z, h2] at hc; cases hc
          rw [upd_ne ne]
          exact s'.frz c o u (by rw [upd_ne ne]; exact hc)
      · cases q
    · cases q
  · cases q
/-- d.get(k, x), the dict perhaps locked -/
def dctRd (S : Sto) (d : D) : Option (List (Key × D)) := match dctAt S d with
  | some kvs => some kvs
  | none => lckAt S d
theorem dctRd_ok {H : Hp} {ξ ι : List Addr} {S : Sto} {d : D} {v : V} {kvs : List (Key × D)} (st : StoOk K H ξ ι S) (r : RepV K H ξ ι d v) (e : dctRd S d = some kvs) :
    ∃ n a ws, d = .ref n ∧ v = .ref a ∧ L2.Rd H a (.dK ws) ∧ ws.map (·.1) = kvs.map (·.1) ∧ RepL K H ξ ι (kvs.map (·.2)) (ws.map (·.2)) := by
  unfold dctRd at e
  split at e
  · rename_i es q
    cases e
    obtain ⟨n, a, ws, h1, h2, _, _, h3, h4, h5⟩ := dctAt_ok st r q
    exact ⟨n, a, ws, h1, h2, .inl h3, h4, h5⟩
  · obtain ⟨n, a, ws, o, h1, h2, _, h3, h4, h5⟩ := lckAt_ok st r e
    exact ⟨n, a, ws, h1, h2, .inr ⟨o, h3⟩, h4, h5⟩
/-! ### d.get(k, x), d.get(k) -/
def dGet (z : Option EDen) (fo fk : EDen) : EDen := fun ρ S => bnd (fo ρ S) fun o S => if (dctRd S o).isSome then bnd (fk ρ S) fun y S => bnd (z.getD (dC .non) ρ S) fun z S => match dctRd S o, keyOf y with
  | some kvs, some k => some ((dlook kvs k).getD z, S)
  | _, _ => none else none
theorem me_get2 {o e f : Expr} {apos cpos : Pos} {fo fk fx : EDen} (hu : X.A.units + 1 < cLine) (ho : ME X o fo) (he : ME X e fk) (hf : ME X f fx) (m : M2 X o "get" apos e f cpos) : ME X (.Call (.Attribute o "get" apos) [e, f] [] cpos) (dGet (some fx) fo fk) :=
  (pe_dget2 hu ho he hf m).weak fun σ H Q ⟨ξ, ι, ρ, S, d, S', st, re, q, k⟩ => by
    obtain ⟨o, S1, e1, q⟩ := bnd_some q
    split at q
    · rename_i hi
      obtain ⟨y, S2, e2, q⟩ := bnd_some q
      obtain ⟨z, S3, e3, q⟩ := bnd_some q
      split at q
      · rename_i kvs key q1 q2
        cases q
        refine tE.run st re e1 fun v1 H1 ι1 s1 st1 r1 => ?_
        obtain ⟨kvs1, hk1⟩ := Option.isSome_iff_exists.mp hi
        obtain ⟨n, a, ws1, rfl, rfl, hH, _, _⟩ := dctRd_ok st1 r1 hk1
        refine ⟨a, rfl, .inl ⟨ws1, hH⟩, tE.run st1 (s1.env re) e2 fun v2 H2 ι2 s2 st2 r2 => tE.run st2 (s2.env (s1.env re)) e3 fun v3 H3 ι3 s3 st3 r3 => ?_⟩
        have rA : RepV X.K H3 ξ ι3 (.ref n) (.ref a) := s3.val (s2.val r1)
        obtain ⟨n', a', ws, en, ea, hH', hkeys, hvals⟩ := dctRd_ok st3 rA q1
        cases en
        cases ea
        have ey := keyOf_rep q2 (s3.val r2)
        obtain ⟨g1, g2⟩ := dlook_rep (k := key) hkeys hvals
        refine ⟨valV ws key, .inl ⟨ws, key, hH', ey, rfl⟩, ?_⟩
        cases q3 : dlook kvs key with
        | none =>
          rw [q3] at k
          rw [g1 q3]
          exact k _ H3 ι3 (s1.trans (s2.trans s3)) st3 r3
        | some d' =>
          rw [q3] at k
          obtain ⟨v, h1, h2⟩ := g2 d' q3
          rw [h1]
          exact k _ H3 ι3 (s1.trans (s2.trans s3)) st3 h2
      · cases q
    · cases q

end
end MS

/-! MS: range as a list or a tuple -/
namespace MS
open PySem PySem.Spec PyProof.Rows L2
theorem RoomG.u65 {k : Nat} {A : Around} (r : RoomG k A) : A.units + 65 < cLine := by have := r.room.un; omega
section
variable {X : Cx} {K : Frag}
theorem o_in1 (hu : X.A.units + 65 < cLine) : OpR X (compareOp .In) (rInA X.K) := o_in (by omega) hu
theorem o_notIn1 (hu : X.A.units + 65 < cLine) : OpR X (compareOp .NotIn) (rNotInA X.K) := o_notIn (by omega) hu
def rgD (a b : Int) : List D := upto a (b - a).toNat
theorem rgD_rep {H : Hp} {ξ ι : List Addr} (a b : Int) : RepL K H ξ ι (rgD a b) (rgV a b) := by
  have : ∀ l : List Nat, RepL K H ξ ι (l.map fun i : Nat => D.int (a + (i : Nat))) (l.map fun i : Nat => V.int (a + (i : Nat))) := by
    intro l
    induction l with
    | nil => rfl
    | cons x l ih => exact ⟨_, _, rfl, rfl, ih⟩
  exact this _
def rgOk (a b : Int) : Bool := decide (-(2 ^ 62) ≤ a) && decide (a < 2 ^ 62) && decide (-(2 ^ 62) ≤ b) && decide (b < 2 ^ 62) && decide ((b - a).toNat ≤ 2 ^ 24)
theorem rgOk_iff {a b : Int} (h : rgOk a b = true) : RgOk a b := by
  unfold rgOk at h
  simp only [Bool.and_eq_true, decide_eq_true_eq] at h
  exact ⟨h.1.1.1.1, h.1.1.1.2, h.1.1.2, h.1.2, h.2⟩
/-- range(b), range(a, b): the bounds -/
abbrev RDen := Env → Sto → Option ((Int × Int) × Sto)
def rg1 (f : EDen) : RDen := fun ρ S => bnd (f ρ S) fun x S => match x with
  | .int n => some ((0, n), S)
  | _ => none
def rg2 (f g : EDen) : RDen := fun ρ S => bnd (f ρ S) fun x S => bnd (g ρ S) fun y S => match x, y with
  | .int i, .int j => some ((i, j), S)
  | _, _ => none
def tR (K : Frag) (f : RDen) : L2.St → Hp → (Int → Int → Hp → Prop) → Prop := fun σ H Q => ∃ ξ ι ρ S i j S', StoOk K H ξ ι S ∧ RepE K H ξ ι ρ σ ∧ f ρ S = some ((i, j), S') ∧ AnsT K ξ ι H S' (Q i j)
def MRg (X : Cx) (e : Expr) (f : RDen) : Prop := PRg X e (tR X.K f)
theorem mrg_1 {a : Expr} {fa : EDen} {p pos : Pos} (hg : Gl X "range") (hm : X.mg "range" = none) (ha : ME X a fa) (na : starEach [a] X.env = (false, eval a X.env) :: starEach [] X.env := by rfl) : MRg X (.Call (.Name "range" p) [a] [] pos) (rg1 fa) := by
  intro pins s σ H Q I ⟨ξ, ι, ρ, S, i, j, S', st, re, e, k⟩
  refine prg_1 hg hm ha na pins s σ H Q I ?_
  obtain ⟨x, S1, e1, e⟩ := bnd_some e
  refine tE.run st re e1 fun v H1 ι1 s1 st1 r1 => ?_
  cases x with
  | int n =>
    cases e
    exact ⟨_, r1, k H1 ι1 s1 st1⟩
  | _ => cases e
theorem mrg_2 {a b : Expr} {fa fb : EDen} {p pos : Pos} (hg : Gl X "range") (hm : X.mg "range" = none) (ha : ME X a fa) (hb : ME X b fb) (na : starEach [a, b] X.env = (false, eval a X.env) :: starEach [b] X.env := by rfl)
    (nb : starEach [b] X.env = (false, eval b X.env) :: starEach [] X.env := by rfl) (hp : (backTo pos (starEach [b] X.env)).any (·.1) = false := by rfl) : MRg X (.Call (.Name "range" p) [a, b] [] pos) (rg2 fa fb) := by
  intro pins s σ H Q I ⟨ξ, ι, ρ, S, i, j, S', st, re, e, k⟩
  refine prg_2 hg hm ha hb na nb hp pins s σ H Q I ?_
  obtain ⟨x, S1, e1, e⟩ := bnd_some e
  obtain ⟨y, S2, e2, e⟩ := bnd_some e
  refine tE.run st re e1 fun v H1 ι1 s1 st1 r1 => tE.run st1 (s1.env re) e2 fun w H2 ι2 s2 st2 r2 => ?_
  cases x with
  | int m =>
    cases y with
    | int n =>
      cases e
      exact ⟨_, _, s2.val r1, r2, k H2 ι2 (s1.trans s2) st2⟩
    | _ => cases e
  | _ => cases e
def dLstRg (f : RDen) : EDen := fun ρ S => bnd (f ρ S) fun r S => if rgOk r.1 r.2 then some (.fl (rgD r.1 r.2), S) else none
def dLstRgC (f : RDen) : EDen := fun ρ S => bnd (f ρ S) fun r S => if rgOk r.1 r.2 then some (.ref S.length, S ++ [.lst (rgD r.1 r.2)]) else none
def dTupRg (f : RDen) : EDen := fun ρ S => bnd (f ρ S) fun r S => if rgOk r.1 r.2 then some (.tup (rgD r.1 r.2), S) else none
theorem tR_run {K : Frag} {f : RDen} {i j : Int} {σ : L2.St} {H : Hp} {ξ ι : List Addr} {S S' : Sto} {ρ : Env} {Q : Int → Int → Hp → Prop} (st : StoOk K H ξ ι S) (re : RepE K H ξ ι ρ σ) (e : f ρ S = some ((i, j), S')) (k : AnsT K ξ ι H S' (Q i j)) : tR K f σ H Q := ⟨ξ, ι, ρ, S, i, j, S', st, re, e, k⟩
theorem me_listRg {e : Expr} {f : RDen} {p pos : Pos} (hc : X.calm = true) (hg : Gl X "list") (hm : X.mg "list" = none) (he : MRg X e f) (na : starEach [e] X.env = (false, eval e X.env) :: starEach [] X.env := by rfl) : ME X (.Call (.Name "list" p) [e] [] pos) (dLstRg f) :=
  (pe_listRg hc hg hm he na).weak fun σ H Q ⟨ξ, ι, ρ, S, d, S', st, re, e, k⟩ => by
    obtain ⟨⟨i, j⟩, S1, e1, e⟩ := bnd_some e
    split at e
    · rename_i h
      cases e
      exact tR_run st re e1 fun H1 ι1 s1 st1 => ⟨rgOk_iff h, fun q hq => (k.next s1).fl st1 (rgD_rep i j) hq⟩
    · cases e
theorem me_tupRg {e : Expr} {f : RDen} {p pos : Pos} (hc : X.calm = true) (hg : Gl X "tuple") (hm : X.mg "tuple" = none) (he : MRg X e f) (na : starEach [e] X.env = (false, eval e X.env) :: starEach [] X.env := by rfl) : ME X (.Call (.Name "tuple" p) [e] [] pos) (dTupRg f) :=
  (pe_tupRg hc hg hm he na).weak fun σ H Q ⟨ξ, ι, ρ, S, d, S', st, re, e, k⟩ => by
    obtain ⟨⟨i, j⟩, S1, e1, e⟩ := bnd_some e
    split at e
    · rename_i h
      cases e
      exact tR_run st re e1 fun H1 ι1 s1 st1 => ⟨rgOk_iff h, fun q hq => (k.next s1).tup st1 (rgD_rep i j) hq⟩
    · cases e
theorem fit_rgD (n : Nat) (i j : Int) : D.fitL n (rgD i j) = true := D.fitL_all.mpr fun d hd => by
  obtain ⟨x, _, rfl⟩ := List.mem_map.mp (show d ∈ (List.range (j - i).toNat).map fun (x : Nat) => D.int (i + x) from hd)
  rfl
theorem me_listRgC {e : Expr} {f : RDen} {p pos : Pos} (hc : X.calm = true) (hg : Gl X "list") (hm : X.mg "list" = none) (he : MRg X e f) (na : starEach [e] X.env = (false, eval e X.env) :: starEach [] X.env := by rfl) : ME X (.Call (.Name "list" p) [e] [] pos) (dLstRgC f) :=
  (pe_listRg hc hg hm he na).weak fun σ H Q ⟨ξ, ι, ρ, S, d, S', st, re, e, k⟩ => by
    obtain ⟨⟨i, j⟩, S1, e1, e⟩ := bnd_some e
    split at e
    · rename_i h
      cases e
      exact tR_run st re e1 fun H1 ι1 s1 st1 => ⟨rgOk_iff h, fun q hq => (k.next s1).cell st1 (rgD_rep i j) hq (fit_rgD _ i j)⟩
    · cases e
/-! ### products of lists, slices as cells -/
theorem fitL_rep {n m : Nat} {ds : List D} (h : D.fitL n ds = true) : D.fitL n (List.replicate m ds).flatten = true := D.fitL_all.mpr fun d hd => by
  obtain ⟨l, hl, hd⟩ := List.mem_flatten.mp hd
  rw [List.eq_of_mem_replicate hl] at hd
  exact D.fitL_all.mp h d hd
theorem m_mulC : MOp K (rMulA K) gMulC := by
  intro H ξ ι S S' x y d v w Q st rx ry e k
  unfold gMulC at e
  split at e
  · rename_i j
    obtain rfl : w = .int j := ry
    cases q : mlistOf S x with
    | none => rw [q] at e; cases e
    | some a =>
      rw [q] at e
      have e : (if -(2 ^ 63) ≤ j ∧ j < 2 ^ 63 ∧ a.length * j.toNat ≤ sizeLine ∧ D.fitL S.length a = true then some (D.ref S.length, S ++ [.lst (List.replicate j.toNat a).flatten]) else none) = some (d, S') := e
      split at e
      · rename_i hz
        cases e
        obtain ⟨p, vs, rfl, h2, h3⟩ := mlistOf_ok st rx q
        exact .inr (.inl ⟨p, j, vs, rfl, rfl, h2, hz.1, hz.2.1, by rw [h3.length]; exact hz.2.2.1, fun l hl => k.cell st (h3.rep _) hl (fitL_rep hz.2.2.2)⟩)
      · cases e
  · cases e
end
end MS

/-! MS: sum of a tuple -/
namespace MS
open PySem PySem.Spec PyProof.Rows L2
def rSumT (K : Frag) : List V → Hp → VK → Prop := fun vs H Q => ∃ (a : Addr) (ns : List Int), vs = [V.ref a] ∧ SqT K H a (ns.map V.int) ∧ Q (.int ns.sum) H
section
variable {X : Cx} {K : Frag}
theorem cr_sumT (hc : X.calm = true) : CallR X (.builtin "sum") (rSumT X.K) := by
  intro pins s σ H vs us Q I r h
  obtain ⟨a, ns, rfl, hs, q⟩ := h
  obtain ⟨its, rv, hl, _⟩ := I.tuple hs
  rw [Vals.ref1 r]
  have hi := rv.ints
  obtain ⟨xs, e⟩ := hi.allInts.items
  have hn : numsOf (intItems xs).toList = ns := by rw [← e]; exact hi.numsOf
  rw [nums_intItems] at hn
  have hl' : s.heap.IsTuple a (intItems xs) := by rw [← e]; exact hl
  refine PySem.W.ktm_sumG (I.ok.hd hc) hl' fun h' tk t' hk => ?_
  have e2 : preSum (numAt xs) xs.size = ns.sum := by
    rw [preSum_eq, List.take_of_length_le (by simp), hn]
  rw [e2]
  exact ⟨.int _, H, I.kept hk, ⟨_, rfl⟩, q⟩
/-- sum of a list or a tuple of ints -/
def cSumA : CDen := fun ds S => match ds with
  | [d] => (seqOf S d).bind fun es => (intsOf es).map fun ns => (.int ns.sum, S)
  | _ => none
def rSumA (K : Frag) : List V → Hp → VK → Prop := fun xs H Q => rSum K xs H Q ∨ rSumT K xs H Q
theorem c_sumA (hc : X.calm = true) : CallR X (.builtin "sum") (rSumA X.K) := (cr_sum hc).or (cr_sumT hc)
theorem mc_sumA : MCall K (rSumA K) cSumA := by
  intro H ξ ι S S' ds d vs Q st r e k
  unfold cSumA at e
  split at e
  · rename_i x
    cases q : seqOf S x with
    | none => rw [q] at e; cases e
    | some es =>
      rw [q] at e
      have e : (intsOf es).map (fun ns => (D.int ns.sum, S)) = some (d, S') := e
      cases q2 : intsOf es with
      | none => rw [q2] at e; cases e
      | some ns =>
        rw [q2] at e
        cases e
        obtain ⟨v, rfl, h⟩ := RepL.one' r
        obtain ⟨a, ys, rfl, h2, h3⟩ := seqOf_ok st h q
        rw [intsOf_eq q2] at h3
        rw [RepL.ints.mp h3] at h2
        rcases h2 with h2 | h2
        · exact .inl ⟨a, ns, rfl, h2, k.here st rfl⟩
        · exact .inr ⟨a, ns, rfl, h2, k.here st rfl⟩
  · cases e
end
end MS

/-! the plain side: what a denotation is worth, read step by step -/
namespace MS
open PySem PySem.Spec PyProof.Rows L2
def Wo {β : Type} (x : Option β) (Q : β → Prop) : Prop := ∃ b, x = some b ∧ Q b
section
variable {α β γ : Type} {x : Option β} {Q R : β → Prop}
theorem wo_some {b : β} : Wo (some b) Q ↔ Q b := ⟨fun ⟨_, e, h⟩ => by cases e; exact h, fun h => ⟨b, rfl, h⟩⟩
theorem wo_none : Wo none Q ↔ False := ⟨fun ⟨_, e, _⟩ => (nomatch e), False.elim⟩
theorem wo_of {b : β} (e : x = some b) (h : Q b) : Wo x Q := ⟨b, e, h⟩
theorem Wo.mono (h : Wo x Q) (i : ∀ b, Q b → R b) : Wo x R := let ⟨b, e, q⟩ := h; ⟨b, e, i b q⟩
theorem wo_eq {b : β} : Wo x (fun z => z = b) ↔ x = some b := ⟨fun ⟨_, e, h⟩ => by rw [e, h], fun e => ⟨b, e, rfl⟩⟩
theorem wo_bnd {x : Option (α × Sto)} {k : α → Sto → Option β} : Wo (bnd x k) Q ↔ Wo x fun p => Wo (k p.1 p.2) Q := by
  cases x with
  | none => simp [bnd, wo_none]
  | some p => simp [bnd, wo_some]
theorem wo_map {x : Option α} {f : α → β} : Wo (x.map f) Q ↔ Wo x fun p => Q (f p) := by
  cases x with
  | none => simp [wo_none]
  | some p => simp [wo_some]
theorem wo_bind {x : Option α} {f : α → Option β} : Wo (x.bind f) Q ↔ Wo x fun p => Wo (f p) Q := by
  cases x with
  | none => simp [wo_none]
  | some p => simp [wo_some]
theorem wo_if {c : Prop} [Decidable c] {x y : Option β} : Wo (if c then x else y) Q ↔ (c → Wo x Q) ∧ (¬c → Wo y Q) := by
  by_cases h : c <;> simp [h]
theorem wo_ifN {c : Prop} [Decidable c] {x : Option β} : Wo (if c then x else none) Q ↔ c ∧ Wo x Q := by
  by_cases h : c <;> simp [h, wo_none]
theorem wo_seq {f g : SDen} {ρ : Env} {S : Sto} {Q : Out × Env × Sto → Prop} : Wo (sSeq f g ρ S) Q ↔ Wo (f ρ S) fun r => match r with
    | (.nx, ρ', S') => Wo (g ρ' S') Q
    | r => Q r := by
  unfold sSeq
  cases h : f ρ S with
  | none => simp [wo_none]
  | some r =>
    obtain ⟨o, ρ', S'⟩ := r
    cases o <;> simp [wo_some]
/-- a while by what holds ahead of each turn -/
theorem wo_while {c : TDen} {b : SDen} {n : Nat} {Q : Out × Env × Sto → Prop} (I : Nat → Env → Sto → Prop) {ρ : Env} {S : Sto} {m : Nat} (h0 : I m ρ S) (hm : m < n)
    (turn : ∀ m ρ S, I m ρ S → Wo (c ρ S) fun t => (t.1 = true → Wo (b ρ t.2) fun r => match r with
      | (.nx, ρ', S') => ∃ m', m' < m ∧ I m' ρ' S'
      | (.ct, ρ', S') => ∃ m', m' < m ∧ I m' ρ' S'
      | (.bk, ρ', S') => Q (.nx, ρ', S')
      | (.rt d, ρ', S') => Q (.rt d, ρ', S')) ∧ (t.1 = false → Q (.nx, ρ, t.2))) : Wo (whileN c b n ρ S) Q := by
  refine whileN_ok (Pv := I) (Qd := fun x => Wo x Q) (fun m ρ S hI => ?_) m n ρ S hm h0
  obtain ⟨⟨t, S1⟩, e, h1, h2⟩ := turn m ρ S hI
  cases t with
  | false => exact .inl ⟨S1, e, wo_some.mpr (h2 rfl)⟩
  | true =>
    refine .inr ⟨S1, e, ?_⟩
    obtain ⟨⟨o, ρ', S'⟩, e2, h3⟩ := h1 rfl
    cases o with
    | nx =>
      obtain ⟨m', h4, h5⟩ := h3
      exact .inl ⟨m', ρ', S', h4, .inl e2, h5⟩
    | ct =>
      obtain ⟨m', h4, h5⟩ := h3
      exact .inl ⟨m', ρ', S', h4, .inr e2, h5⟩
    | bk => exact .inr (.inl ⟨ρ', S', e2, wo_some.mpr h3⟩)
    | rt d => exact .inr (.inr ⟨d, ρ', S', e2, wo_some.mpr h3⟩)
/-- a for, by what holds after the first i turns -/
theorem wo_for {s : Src} {g : GDen} {b : SDen} {Q : Out × Env × Sto → Prop} {items : List D} (I : Nat → Env → Sto → Prop) {ρ : Env} {S : Sto} (h0 : I 0 ρ S) (hs : ∀ i ρ S, i ≤ items.length → I i ρ S → s.ok S = true)
    (turn : ∀ i d ρ S, items[i]? = some d → I i ρ S → Wo (g d ρ S) fun p => Wo (b p.1 p.2) fun r => match r with
      | (.nx, ρ', S') => I (i + 1) ρ' S'
      | (.ct, ρ', S') => I (i + 1) ρ' S'
      | (.bk, ρ', S') => Q (.nx, ρ', S')
      | (.rt d, ρ', S') => Q (.rt d, ρ', S'))
    (fin : ∀ ρ S, I items.length ρ S → Q (.nx, ρ, S)) : Wo (forL s g b items ρ S) Q := by
  have key : ∀ (ds pre : List D) (ρ : Env) (S : Sto), items = pre ++ ds → I pre.length ρ S → Wo (forL s g b ds ρ S) Q := by
    intro ds
    induction ds with
    | nil =>
      intro pre ρ S e hI
      have ok := hs _ ρ S (by rw [e]; simp) hI
      unfold forL
      rw [if_pos ok, wo_some]
      exact fin ρ S (by rw [e, List.append_nil]; exact hI)
    | cons d ds ih =>
      intro pre ρ S e hI
      have ok := hs _ ρ S (by rw [e]; simp) hI
      obtain ⟨⟨ρ1, S1⟩, e1, ⟨o, ρ2, S2⟩, e2, h⟩ := turn pre.length d ρ S (by rw [e]; simp) hI
      unfold forL
      have e2 : b ρ1 S1 = some (o, ρ2, S2) := e2
      rw [if_pos ok, e1]
      simp only [e2]
      have e3 : items = (pre ++ [d]) ++ ds := by rw [e]; simp
      cases o with
      | nx => exact ih (pre ++ [d]) ρ2 S2 e3 (by rw [List.length_append]; exact h)
      | ct => exact ih (pre ++ [d]) ρ2 S2 e3 (by rw [List.length_append]; exact h)
      | bk => exact wo_some.mpr h
      | rt d => exact wo_some.mpr h
  exact key items [] ρ S rfl h0
/-- a comprehension whose parts change nothing -/
theorem lcL_map {s : Src} {g : NDen} {t : TDen} {b : EDen} {ρ : Env} {S : Sto} (hs : s.ok S = true) {p : D → Bool} {f : D → D} :
    ∀ {ds : List D}, (∀ d ∈ ds, ∃ ρ1, g d ρ = some ρ1 ∧ t ρ1 S = some (p d, S) ∧ (p d = true → b ρ1 S = some (f d, S))) → lcL s g t b ds ρ S = some ((ds.filter p).map f, S)
  | [], _ => by unfold lcL; rw [if_pos hs]; rfl
  | d :: ds, h => by
    obtain ⟨ρ1, e1, e2, e3⟩ := h d List.mem_cons_self
    have ih := lcL_map hs (p := p) (f := f) (fun d' m => h d' (List.mem_cons_of_mem _ m))
    unfold lcL
    rw [if_pos hs, e1]
    simp only [e2, bnd_mk]
    cases q : p d with
    | false =>
      simp only [Bool.false_eq_true, if_false]
      rw [ih, List.filter_cons_of_neg (by rw [q]; decide)]
    | true =>
      simp only [if_true]
      rw [e3 q]
      simp only [bnd_mk]
      rw [ih, List.filter_cons_of_pos q]
      rfl
theorem lcL_all {s : Src} {g : NDen} {b : EDen} {ρ : Env} {S : Sto} (hs : s.ok S = true) {f : D → D} {ds : List D} (h : ∀ d ∈ ds, ∃ ρ1, g d ρ = some ρ1 ∧ b ρ1 S = some (f d, S)) : lcL s g tYesD b ds ρ S = some (ds.map f, S) := by
  rw [lcL_map hs (p := fun _ => true) (f := f) (ds := ds) fun d m => by
    obtain ⟨ρ1, e1, e2⟩ := h d m
    exact ⟨ρ1, e1, rfl, fun _ => e2⟩]
  rw [List.filter_eq_self.mpr (by simp)]
end
/-! ### values -/
theorem mulOk_l {i j : Int} (h : i.natAbs < 2 ^ 64) : mulOk i j = true := by unfold mulOk; rw [decide_eq_true h]; rfl
theorem mulOk_r {i j : Int} (h : j.natAbs < 2 ^ 64) : mulOk i j = true := by unfold mulOk; rw [decide_eq_true h]; simp
theorem divOk_k {j : Int} (k : Nat) (hk : k ≤ 9000) (h : j ≠ 0) (h2 : j.natAbs < 2 ^ k) : divOk j = true := by
  unfold divOk
  rw [decide_eq_true h, Bool.true_and]
  refine decide_eq_true ?_
  have h0 : j.natAbs ≠ 0 := by omega
  have := (Nat.log2_lt h0).mpr h2
  omega
theorem divOk_of {j : Int} (h : j ≠ 0) (h2 : j.natAbs < 2 ^ 64) : divOk j = true := divOk_k 64 (by decide) h h2
theorem log2_of {i : Int} {k : Nat} (hk : 0 < k) (h : i.natAbs < 2 ^ k) : i.natAbs.log2 < k := by
  by_cases h0 : i.natAbs = 0
  · rw [h0]; simpa using hk
  · exact (Nat.log2_lt h0).mpr h
mutual
def D.okS (k : Nat) : D → Bool
  | .non => true
  | .bl _ => true
  | .int i => decide (i.natAbs.log2 < k)
  | .str x => x.cps.toList.all fun c => decide (c < 16 ^ 8)
  | .tup ds => D.okSL k ds
  | .fl ds => D.okSL k ds
  | .rl ds => D.okSL k ds
  | .ref _ => false
def D.okSL (k : Nat) : List D → Bool
  | [] => true
  | d :: ds => D.okS k d && D.okSL k ds
end
mutual
def D.bulk : D → Nat
  | .str x => x.cps.size
  | .tup ds => D.bulkL ds
  | .fl ds => D.bulkL ds
  | .rl ds => D.bulkL ds
  | _ => 0
def D.bulkL : List D → Nat
  | [] => 0
  | d :: ds => D.bulk d + 1 + D.bulkL ds
end
mutual
def D.dep : D → Nat
  | .tup ds => D.depL ds + 1
  | .fl ds => D.depL ds + 1
  | .rl ds => D.depL ds + 1
  | _ => 0
def D.depL : List D → Nat
  | [] => 0
  | d :: ds => max (D.dep d) (D.depL ds)
end
theorem shown_int_len {i : Int} {k : Nat} (hk : 0 < k) (h : i.natAbs.log2 < k) : (PyData.shown (.int i)).length ≤ k + 1 := by
  have := int_text_length_le hk h
  simp only [PyData.shown]
  show (Str.ofString (toString i)).length ≤ k + 1
  rw [PySem.ofString_length]
  exact this
mutual
theorem D.shown_ok {k : Nat} (hk : 0 < k) (hk2 : k ≤ 1920) : ∀ d : D, D.okS k d = true → (D.dat d).leavesShort (k + 1) = true ∧ (D.dat d).showable = true ∧ (D.dat d).hasDict = false ∧ (D.dat d).bulk = D.bulk d ∧ (D.dat d).depth = D.dep d
  | .non, _ => ⟨rfl, rfl, rfl, rfl, rfl⟩
  | .bl _, _ => ⟨rfl, rfl, rfl, rfl, rfl⟩
  | .int i, h => by
    have h : i.natAbs.log2 < k := of_decide_eq_true h
    refine ⟨?_, ?_, rfl, rfl, rfl⟩
    · simp only [D.dat, PyData.leavesShort]
      exact decide_eq_true (shown_int_len hk h)
    · simp only [D.dat, PyData.showable]
      exact decide_eq_true (by omega)
  | .str x, h => ⟨by
    have h : (x.cps.toList.all fun c => decide (c < 16 ^ 8)) = true := h
    simpa only [D.dat, PyData.leavesShort] using h, rfl, rfl, rfl, rfl⟩
  | .tup ds, h => by
    obtain ⟨h1, h2, h3, h4, h5⟩ := D.shownL_ok hk hk2 ds h
    simp only [D.dat, PyData.leavesShort, PyData.showable, PyData.hasDict, PyData.bulk, PyData.depth, D.bulk, D.dep]
    exact ⟨h1, h2, h3, h4, by rw [h5]⟩
  | .fl ds, h => by
    obtain ⟨h1, h2, h3, h4, h5⟩ := D.shownL_ok hk hk2 ds h
    simp only [D.dat, PyData.leavesShort, PyData.showable, PyData.hasDict, PyData.bulk, PyData.depth, D.bulk, D.dep]
    exact ⟨h1, h2, h3, h4, by rw [h5]⟩
  | .rl ds, h => by
    obtain ⟨h1, h2, h3, h4, h5⟩ := D.shownL_ok hk hk2 ds h
    simp only [D.dat, PyData.leavesShort, PyData.showable, PyData.hasDict, PyData.bulk, PyData.depth, D.bulk, D.dep]
    exact ⟨h1, h2, h3, h4, by rw [h5]⟩
  | .ref _, h => by cases h
theorem D.shownL_ok {k : Nat} (hk : 0 < k) (hk2 : k ≤ 1920) : ∀ ds : List D, D.okSL k ds = true → PyData.leavesShortAll (k + 1) (D.datL ds) = true ∧ PyData.showableAll (D.datL ds) = true ∧ PyData.hasDictAll (D.datL ds) = false ∧ PyData.bulkAll (D.datL ds) = D.bulkL ds ∧ PyData.depthAll (D.datL ds) = D.depL ds
  | [], _ => ⟨rfl, rfl, rfl, rfl, rfl⟩
  | d :: ds, h => by
    have h : (D.okS k d && D.okSL k ds) = true := h
    rw [Bool.and_eq_true] at h
    obtain ⟨a1, a2, a3, a4, a5⟩ := D.shown_ok hk hk2 d h.1
    obtain ⟨b1, b2, b3, b4, b5⟩ := D.shownL_ok hk hk2 ds h.2
    simp only [D.datL, PyData.leavesShortAll, PyData.showableAll, PyData.hasDictAll, PyData.bulkAll, PyData.depthAll, D.bulkL, D.depL, a1, a2, a3, a4, a5, b1, b2, b3, b4, b5]
    exact ⟨rfl, rfl, rfl, trivial, trivial⟩
end
mutual
theorem D.okS_pure {k : Nat} : ∀ {d : D}, D.okS k d = true → D.pure d = true
  | .non, _ => rfl
  | .bl _, _ => rfl
  | .int _, _ => rfl
  | .str _, _ => rfl
  | .tup ds, h => D.okSL_pure (ds := ds) h
  | .fl ds, h => D.okSL_pure (ds := ds) h
  | .rl ds, h => D.okSL_pure (ds := ds) h
  | .ref _, h => by cases h
theorem D.okSL_pure {k : Nat} : ∀ {ds : List D}, D.okSL k ds = true → D.pureL ds = true
  | [], _ => rfl
  | d :: ds, h => by
    have h : (D.okS k d && D.okSL k ds) = true := h
    rw [Bool.and_eq_true] at h
    show (D.fit 0 d && D.fitL 0 ds) = true
    exact Bool.and_eq_true_iff.mpr ⟨D.okS_pure h.1, D.okSL_pure h.2⟩
end
theorem datS_pure {S : Sto} {d : D} (h : D.pure d = true) : datS S d = some (D.dat d) := by
  cases d with
  | ref n => cases (show decide (n < 0) = true from h)
  | _ => unfold datS; exact if_pos h
/-- repr of a value that is not too large -/
def shownD (d : D) : Str := (D.dat d).shown
theorem cRepr_ok {S : Sto} {d : D} (k : Nat) (hk : 8 ≤ k) (hk2 : k ≤ 1920) (h : D.okS k d = true) (hb : (k + 3) * D.bulk d + k + 1 ≤ 16777216) (hd : D.dep d ≤ 62) : cRepr [d] S = some (.str (shownD d), S) := by
  obtain ⟨h1, h2, h3, h4, h5⟩ := D.shown_ok (by omega) hk2 d h
  unfold cRepr
  simp only [datS_pure (D.okS_pure h), Option.bind_some]
  refine if_pos ?_
  unfold showOk
  have hlen : (D.dat d).shown.length ≤ sizeLine := by
    rw [sizeLine_eq]
    have := PyData.shown_le_bulk (k + 1) (by omega) (D.dat d) h1
    rw [h4, show k + 1 + 2 = k + 3 by omega] at this
    omega
  rw [h2, h3, decide_eq_true (show (D.dat d).depth ≤ 62 by rw [h5]; exact hd), decide_eq_true hlen]
  rfl
theorem fit_dPair {n : Nat} {p : Int × Int} : D.fit n (dPair p) = true := rfl
theorem fit_ints {n : Nat} {ns : List Int} : D.fitL n (ns.map D.int) = true := D.fitL_all.mpr fun d hd => by
  obtain ⟨i, _, rfl⟩ := List.mem_map.mp hd
  rfl
theorem wo_iff {β : Type} {Q : β → Prop} {c : Prop} [Decidable c] {x : Option β} : Wo (if c then x else none) Q ↔ c ∧ Wo x Q := wo_ifN
theorem nn_iff {c : Prop} : (¬c → False) ↔ c := ⟨fun h => Classical.byContradiction h, fun h n => n h⟩
theorem imp_and' {c a : Prop} : ((c → a) ∧ c) ↔ (c ∧ a) := ⟨fun h => ⟨h.2, h.1 h.2⟩, fun h => ⟨fun _ => h.2, h.1⟩⟩
theorem szOk_0 : szOk ([] : List D) = true := decide_eq_true (by rw [sizeLine_eq]; show 0 ≤ 16777216; decide)
theorem szOk_1 {a : D} : szOk ([a] : List D) = true := decide_eq_true (by rw [sizeLine_eq]; show 1 ≤ 16777216; decide)
theorem szOk_2 {a b : D} : szOk ([a, b] : List D) = true := decide_eq_true (by rw [sizeLine_eq]; show 2 ≤ 16777216; decide)
theorem szOk_3 {a b c : D} : szOk ([a, b, c] : List D) = true := decide_eq_true (by rw [sizeLine_eq]; show 3 ≤ 16777216; decide)
theorem szOk_4 {a b c d : D} : szOk ([a, b, c, d] : List D) = true := decide_eq_true (by rw [sizeLine_eq]; show 4 ≤ 16777216; decide)
theorem szOk_5 {a b c d e : D} : szOk ([a, b, c, d, e] : List D) = true := decide_eq_true (by rw [sizeLine_eq]; show 5 ≤ 16777216; decide)
theorem szOk_6 {a b c d e f : D} : szOk ([a, b, c, d, e, f] : List D) = true := decide_eq_true (by rw [sizeLine_eq]; show 6 ≤ 16777216; decide)
theorem szOk_7 {a b c d e f g : D} : szOk ([a, b, c, d, e, f, g] : List D) = true := decide_eq_true (by rw [sizeLine_eq]; show 7 ≤ 16777216; decide)
theorem szOk_8 {a b c d e f g h : D} : szOk ([a, b, c, d, e, f, g, h] : List D) = true := decide_eq_true (by rw [sizeLine_eq]; show 8 ≤ 16777216; decide)
section
variable {S : Sto}
theorem eqA_int {i j : Int} : gEqA (.int i) (.int j) S = some (.bl (decide (i = j)), S) := rfl
theorem neA_int {i j : Int} : gNeA (.int i) (.int j) S = some (.bl (!decide (i = j)), S) := rfl
theorem eqA_str {i j : Str} : gEqA (.str i) (.str j) S = some (.bl (decide (i = j)), S) := rfl
theorem neA_str {i j : Str} : gNeA (.str i) (.str j) S = some (.bl (!decide (i = j)), S) := rfl
theorem eqA_bl {i j : Bool} : gEqA (.bl i) (.bl j) S = some (.bl (decide (i = j)), S) := rfl
theorem neA_bl {i j : Bool} : gNeA (.bl i) (.bl j) S = some (.bl (!decide (i = j)), S) := rfl
end
theorem okSL_ints {k : Nat} {ns : List Int} (h : ∀ i ∈ ns, i.natAbs.log2 < k) : D.okSL k (ns.map D.int) = true := by
  induction ns with
  | nil => rfl
  | cons i ns ih =>
    show (decide (i.natAbs.log2 < k) && D.okSL k (ns.map D.int)) = true
    rw [ih fun j hj => h j (List.mem_cons_of_mem _ hj), decide_eq_true (h i List.mem_cons_self)]
    rfl
theorem bulkL_ints {ns : List Int} : D.bulkL (ns.map D.int) = ns.length := by
  induction ns with
  | nil => rfl
  | cons i ns ih =>
    show 0 + 1 + D.bulkL (ns.map D.int) = _
    rw [ih, List.length_cons]
    omega
theorem depL_ints {ns : List Int} : D.depL (ns.map D.int) = 0 := by
  induction ns with
  | nil => rfl
  | cons i ns ih =>
    show max 0 (D.depL (ns.map D.int)) = 0
    rw [ih]
    rfl
theorem repr_ints {S : Sto} {ns : List Int} (h : ∀ i ∈ ns, i.natAbs < 2 ^ 64) (hl : ns.length ≤ 100000) : cRepr [.tup (ns.map D.int)] S = some (.str (shownD (.tup (ns.map D.int))), S) :=
  cRepr_ok 64 (by decide) (by decide) (okSL_ints fun i hi => log2_of (by decide) (h i hi)) (by show (64 + 3) * D.bulkL _ + 64 + 1 ≤ _; rw [bulkL_ints]; omega) (by show D.depL _ + 1 ≤ 62; rw [depL_ints]; decide)
theorem repr_pair {S : Sto} {p : Int × Int} (h : p.1.natAbs < 2 ^ 64) (h' : p.2.natAbs < 2 ^ 64) : cRepr [dPair p] S = some (.str (shownD (dPair p)), S) :=
  repr_ints (ns := [p.1, p.2]) (by simp [h, h']) (by show 2 ≤ 100000; decide)
theorem repr_bl {S : Sto} {b : Bool} : cRepr [.bl b] S = some (.str (shownD (.bl b)), S) := cRepr_ok 64 (by decide) (by decide) rfl (by show (64 + 3) * 0 + 64 + 1 ≤ 16777216; decide) (by show 0 ≤ 62; decide)
theorem repr_int {S : Sto} {i : Int} (h : i.natAbs < 2 ^ 64) : cRepr [.int i] S = some (.str (shownD (.int i)), S) := cRepr_ok 64 (by decide) (by decide) (decide_eq_true (log2_of (by decide) h)) (by show (64 + 3) * 0 + 64 + 1 ≤ 16777216; decide) (by show 0 ≤ 62; decide)
theorem repr_pairs2 {S : Sto} {p q : Int × Int} (h : p.1.natAbs < 2 ^ 64) (h' : p.2.natAbs < 2 ^ 64) (k : q.1.natAbs < 2 ^ 64) (k' : q.2.natAbs < 2 ^ 64) : cRepr [.fl [dPair p, dPair q]] S = some (.str (shownD (.fl [dPair p, dPair q])), S) := by
  refine cRepr_ok 64 (by decide) (by decide) ?_ (by show (64 + 3) * 6 + 65 ≤ _; decide) (by show 2 ≤ 62; decide)
  have a1 := log2_of (k := 64) (by decide) h
  have a2 := log2_of (k := 64) (by decide) h'
  have a3 := log2_of (k := 64) (by decide) k
  have a4 := log2_of (k := 64) (by decide) k'
  simp [D.okS, D.okSL, dPair, a1, a2, a3, a4]
/-- a comprehension over what stands, without an if -/
theorem dLc_all {fi : IDen} {g : NDen} {b : EDen} {vs : List Nat} {ρ : Env} {S : Sto} {items : List D} {f : D → D} (hi : fi ρ S = some (.fix items, S)) (hz : items.length ≤ 16777216) (h : ∀ d ∈ items, ∃ ρ1, g d (wipeE ρ vs) = some ρ1 ∧ b ρ1 S = some (f d, S)) : dLc fi g tYesD b vs ρ S = some (.fl (items.map f), S) := by
  unfold dLc
  rw [hi, bnd_mk, show Src.items (.fix items) = items from rfl, lcL_all (s := .fix items) rfl h, bnd_mk]
  exact if_pos (decide_eq_true (by rw [List.length_map, sizeLine_eq]; exact hz))
theorem dLc_map {α : Type} {fi : IDen} {g : NDen} {b : EDen} {vs : List Nat} {ρ : Env} {S : Sto} {items : List α} {e f : α → D} (hi : fi ρ S = some (.fix (items.map e), S)) (hz : items.length ≤ 16777216) (h : ∀ d ∈ items, ∃ ρ1, g (e d) (wipeE ρ vs) = some ρ1 ∧ b ρ1 S = some (f d, S)) : dLc fi g tYesD b vs ρ S = some (.fl (items.map f), S) := by
  unfold dLc
  rw [hi, bnd_mk, show Src.items (.fix (items.map e)) = items.map e from rfl]
  have key : ∀ ds : List α, (∀ d ∈ ds, d ∈ items) → lcL (.fix (items.map e)) g tYesD b (ds.map e) (wipeE ρ vs) S = some (ds.map f, S) := by
    intro ds
    induction ds with
    | nil => intro _; rfl
    | cons d ds ih =>
      intro hm
      obtain ⟨ρ1, e1, e2⟩ := h d (hm d List.mem_cons_self)
      rw [List.map_cons]
      unfold lcL
      rw [if_pos (show Src.ok (.fix (items.map e)) S = true from rfl), e1]
      simp only [tYesD, bnd_mk, if_true, e2, ih fun d' m => hm d' (List.mem_cons_of_mem _ m)]
      rfl
  rw [key items fun _ m => m, bnd_mk]
  exact if_pos (decide_eq_true (by rw [List.length_map, sizeLine_eq]; exact hz))
end MS

/-! the program's defs that several laws reach: what each does -/
namespace PG
open PySem PySem.Spec PyProof.Rows L2 MS
/-! common_divisor -/
def w1c_common_divisor : TDen := asB (dOp gGt (dVar 1) (dC (.int 0)))
def w1b_common_divisor : SDen :=
  sPar [0, 1] (aCons (dVar 1) (aCons (dOp gMod (dVar 0) (dVar 1)) (aNil)))
def b_common_divisor : SDen :=
  sSeq (sPar [0, 1] (aCons (dCB cAbs (aCons (dVar 0) (aNil))) (aCons (dCB cAbs (aCons (dVar 1) (aNil))) (aNil)))) <|
  sSeq (whileN (w1c_common_divisor) (w1b_common_divisor) 1000000000000000000000000000000000000000000000000000000000000) <|
  sRet (dVar 0)
def F_common_divisor : FP := bodyP 2 2 b_common_divisor
/-! whole_root -/
def w1c_whole_root : TDen := asB (dOp gLe (dOp gMul (dVar 2) (dVar 2)) (dVar 0))
def w1b_whole_root : SDen :=
  sAsg (dOp gMul (dC (.int 2)) (dVar 2)) (gN 2)
def w2c_whole_root : TDen := asB (dOp gGt (dOp gSub (dVar 2) (dVar 1)) (dC (.int 1)))
def w2b_whole_root : SDen :=
  sSeq (sAsg (dOp gDiv (dOp gAdd (dVar 1) (dVar 2)) (dC (.int 2))) (gN 3)) <|
  sIf (asB (dOp gLe (dOp gMul (dVar 3) (dVar 3)) (dVar 0))) (sAsg (dVar 3) (gN 1)) (sAsg (dVar 3) (gN 2))
def b_whole_root : SDen :=
  sSeq (sAsg (dTup (aCons (dC (.int 0)) (aCons (dC (.int 1)) (aNil)))) (gOf (nT 2 (nsCons (nN 1) (nsCons (nN 2) (nsNil)))))) <|
  sSeq (whileN (w1c_whole_root) (w1b_whole_root) 1000000000000000000000000000000000000000000000000000000000000) <|
  sSeq (whileN (w2c_whole_root) (w2b_whole_root) 1000000000000000000000000000000000000000000000000000000000000) <|
  sRet (dVar 1)
def F_whole_root : FP := bodyP 1 4 b_whole_root
/-! lowest_of -/
def b_lowest_of : SDen :=
  sSeq (sAsg (dCalP F_common_divisor (aCons (dVar 0) (aCons (dVar 1) (aNil)))) (gN 2)) <|
  sRet (dIf (asB (dOp gGt (dVar 1) (dC (.int 0)))) (dTup (aCons (dOp gDiv (dVar 0) (dVar 2)) (aCons (dOp gDiv (dVar 1) (dVar 2)) (aNil)))) (dTup (aCons (dOp gDiv (dUn gNeg (dVar 0)) (dVar 2)) (aCons (dOp gDiv (dUn gNeg (dVar 1)) (dVar 2)) (aNil)))))
def F_lowest_of : FP := bodyP 2 3 b_lowest_of
/-! floor_of -/
def b_floor_of : SDen :=
  sRet (dOp gDiv (dOp gIx (dVar 0) (dC (.int 0))) (dOp gIx (dVar 0) (dC (.int 1))))
def F_floor_of : FP := bodyP 1 1 b_floor_of
/-! ceiling_of -/
def b_ceiling_of : SDen :=
  sRet (dUn gNeg (dOp gDiv (dUn gNeg (dOp gIx (dVar 0) (dC (.int 0)))) (dOp gIx (dVar 0) (dC (.int 1)))))
def F_ceiling_of : FP := bodyP 1 1 b_ceiling_of
/-! nearest_of -/
def b_nearest_of : SDen :=
  sSeq (sAsg (dVar 0) (gOf (nT 2 (nsCons (nN 1) (nsCons (nN 2) (nsNil)))))) <|
  sRet (dUn gNeg (dOp gDiv (dOp gSub (dVar 2) (dOp gMul (dC (.int 2)) (dVar 1))) (dOp gMul (dC (.int 2)) (dVar 2))))
def F_nearest_of : FP := bodyP 1 3 b_nearest_of
/-! is_at_most -/
def b_is_at_most : SDen :=
  sRet (dOp gLe (dOp gMul (dOp gIx (dVar 0) (dC (.int 0))) (dOp gIx (dVar 1) (dC (.int 1)))) (dOp gMul (dOp gIx (dVar 1) (dC (.int 0))) (dOp gIx (dVar 0) (dC (.int 1)))))
def F_is_at_most : FP := bodyP 2 2 b_is_at_most
/-! fractions_added -/
def b_fractions_added : SDen :=
  sRet (dCalP F_lowest_of (aCons (dOp gAdd (dOp gMul (dOp gIx (dVar 0) (dC (.int 0))) (dOp gIx (dVar 1) (dC (.int 1)))) (dOp gMul (dOp gIx (dVar 1) (dC (.int 0))) (dOp gIx (dVar 0) (dC (.int 1))))) (aCons (dOp gMul (dOp gIx (dVar 0) (dC (.int 1))) (dOp gIx (dVar 1) (dC (.int 1)))) (aNil))))
def F_fractions_added : FP := bodyP 2 2 b_fractions_added
/-! far_of -/
def b_far_of : SDen :=
  sSeq (sAsg (dCalP F_lowest_of (aCons (dOp gSub (dOp gMul (dVar 1) (dOp gIx (dVar 0) (dC (.int 1)))) (dOp gIx (dVar 0) (dC (.int 0)))) (aCons (dOp gIx (dVar 0) (dC (.int 1))) (aNil)))) (gOf (nT 2 (nsCons (nN 2) (nsCons (nN 3) (nsNil)))))) <|
  sRet (dTup (aCons (dCB cAbs (aCons (dVar 2) (aNil))) (aCons (dVar 3) (aNil))))
def F_far_of : FP := bodyP 2 4 b_far_of
/-! outward_numbers -/
def w1c_outward_numbers : TDen := asB (dOp gLt (dCB cLen (aCons (dVar 3) (aNil))) (dVar 1))
def w1b_outward_numbers : SDen :=
  sIf (asB (dCalP F_is_at_most (aCons (dCalP F_far_of (aCons (dVar 0) (aCons (dVar 4) (aNil)))) (aCons (dCalP F_far_of (aCons (dVar 0) (aCons (dVar 5) (aNil)))) (aNil))))) (sSeq (sExpr (dMeth gAppend (dVar 3) (aCons (dVar 4) (aNil)))) <|
  sAsg (dOp gSub (dVar 4) (dC (.int 1))) (gN 4)) (sSeq (sExpr (dMeth gAppend (dVar 3) (aCons (dVar 5) (aNil)))) <|
  sAsg (dOp gAdd (dVar 5) (dC (.int 1))) (gN 5))
def b_outward_numbers : SDen :=
  sSeq (sAsg (dCalP F_nearest_of (aCons (dVar 0) (aNil))) (gN 2)) <|
  sSeq (sPar [3, 4, 5] (aCons (dCell (aCons (dVar 2) (aNil))) (aCons (dOp gSub (dVar 2) (dC (.int 1))) (aCons (dOp gAdd (dVar 2) (dC (.int 1))) (aNil))))) <|
  sSeq (whileN (w1c_outward_numbers) (w1b_outward_numbers) 1000000000000000000000000000000000000000000000000000000000000) <|
  sRet (dCB cTuple (aCons (dSl (dVar 3) pNo (pAt (dVar 1))) (aNil)))
def F_outward_numbers : FP := bodyP 2 6 b_outward_numbers
/-! _law_source -/
def f1b_n_law_source : SDen :=
  sAsg (dOp gMod (dCB cInt (aCons (dOp gAdd (dOp gAdd (dOp gMul (dVar 1) (dC (.int 69069))) (dOp gMul (dVar 2) (dC (.int 31)))) (dC (.int 5))) (aNil))) (dC (.int 2147483629))) (gN 1)
def b_n_law_source : SDen :=
  sSeq (sAsg (dC (.int 11)) (gN 1)) <|
  sSeq (sFor (iSeq (dVar 0)) (gOf (nN 2)) (f1b_n_law_source)) <|
  sSeq (sAsg (dLc (iSeq (dVar 0)) (nN 2) (tYesD) (dCB cAbs (aCons (dVar 2) (aNil))) [2]) (gN 3)) <|
  sRet (dDisp [(.inr "cells", dRevC (dVar 3)), (.inr "left", dC (.int 1)), (.inr "mixed", dVar 1), (.inr "turn", dC (.int 0))])
def F_n_law_source : FM := bodyN 1 4 b_n_law_source
/-! _law_pick -/
def w1c_n_law_pick : TDen := tbAnd (asB (dOp gLt (dOp gItem (dVar 0) (dC (.str "left"))) (dC (.int 2)))) (asB (dOp gGt (dCB cLen (aCons (dVar 2) (aNil))) (dC (.int 0))))
def w1b_n_law_pick : SDen :=
  sSet (dVar 0) (dC (.str "left")) (dMeth0 gPop (dVar 2))
def b_n_law_pick : SDen :=
  sSeq (sIf (asB (dOp gLt (dVar 1) (dC (.int 2)))) (sRet (dC (.int 0))) (sNil)) <|
  sSeq (sAsg (dOp gItem (dVar 0) (dC (.str "cells"))) (gN 2)) <|
  sSeq (whileN (w1c_n_law_pick) (w1b_n_law_pick) 1000000000000000000000000000000000000000000000000000000000000) <|
  sSeq (sAsg (dOp gItem (dVar 0) (dC (.str "left"))) (gN 3)) <|
  sSeq (sIf (asB (dOp gGt (dVar 3) (dC (.int 1)))) (sSeq (sSet (dVar 0) (dC (.str "left")) (dOp gDiv (dVar 3) (dVar 1))) <|
  sRet (dOp gMod (dCB cInt (aCons (dVar 3) (aNil))) (dVar 1))) (sNil)) <|
  sSeq (sSet (dVar 0) (dC (.str "turn")) (dOp gAdd (dOp gItem (dVar 0) (dC (.str "turn"))) (dC (.int 1)))) <|
  sSeq (sAsg (dOp gItem (dVar 0) (dC (.str "turn"))) (gN 4)) <|
  sSeq (sAsg (dOp gMod (dCB cInt (aCons (dOp gAdd (dOp gItem (dVar 0) (dC (.str "mixed"))) (dOp gMul (dVar 4) (dC (.int 104729)))) (aNil))) (dC (.int 998244353))) (gN 5)) <|
  sSeq (sAsg (dOp gMod (dCB cInt (aCons (dOp gAdd (dOp gMul (dVar 5) (dVar 5)) (dOp gMul (dVar 4) (dC (.int 17)))) (aNil))) (dC (.int 2147483647))) (gN 5)) <|
  sRet (dOp gMod (dCB cInt (aCons (dOp gDiv (dVar 5) (dC (.int 16))) (aNil))) (dVar 1))
def F_n_law_pick : FM := bodyM 2 6 b_n_law_pick
/-! _law_divided -/
def w1c_n_law_divided : TDen := asB (dOp gGt (dVar 3) (dC (.int 0)))
def w1b_n_law_divided : SDen :=
  sPar [2, 3] (aCons (dVar 3) (aCons (dOp gMod (dCB cInt (aCons (dVar 2) (aNil))) (dVar 3)) (aNil)))
def b_n_law_divided : SDen :=
  sSeq (sPar [2, 3] (aCons (dCB cMax2 (aCons (dVar 0) (aCons (dOp gSub (dC (.int 0)) (dVar 0)) (aNil)))) (aCons (dCB cMax2 (aCons (dVar 1) (aCons (dOp gSub (dC (.int 0)) (dVar 1)) (aNil)))) (aNil)))) <|
  sSeq (whileN (w1c_n_law_divided) (w1b_n_law_divided) 1000000000000000000000000000000000000000000000000000000000000) <|
  sRet (dIf (asB (dOp gGt (dVar 1) (dC (.int 0)))) (dTup (aCons (dOp gDiv (dVar 0) (dVar 2)) (aCons (dOp gDiv (dVar 1) (dVar 2)) (aNil)))) (dTup (aCons (dOp gDiv (dOp gSub (dC (.int 0)) (dVar 0)) (dVar 2)) (aCons (dOp gDiv (dOp gSub (dC (.int 0)) (dVar 1)) (dVar 2)) (aNil)))))
def F_n_law_divided : FP := bodyP 2 4 b_n_law_divided
end PG

/-! the numbers that a law draws from its script -/
namespace MS
open PySem PySem.Spec PyProof.Rows L2
theorem wo_seqK {f g : SDen} {ρ : Env} {S : Sto} {Q : Out × Env × Sto → Prop} (h : ∀ K : Out × Env × Sto → Prop, (∀ ρ' S', Wo (g ρ' S') Q → K (.nx, ρ', S')) → (∀ d ρ' S', Q (.rt d, ρ', S') → K (.rt d, ρ', S')) → (∀ ρ' S', Q (.bk, ρ', S') → K (.bk, ρ', S')) → (∀ ρ' S', Q (.ct, ρ', S') → K (.ct, ρ', S')) → Wo (f ρ S) K) : Wo (sSeq f g ρ S) Q :=
  wo_seq.mpr (h _ (fun _ _ h => h) (fun _ _ _ h => h) (fun _ _ h => h) (fun _ _ h => h))
/-- the same without a way out but the next -/
theorem wo_seqN {f g : SDen} {ρ : Env} {S : Sto} {Q : Out × Env × Sto → Prop} (h : ∀ K : Out × Env × Sto → Prop, (∀ ρ' S', Wo (g ρ' S') Q → K (.nx, ρ', S')) → Wo (f ρ S) K) : Wo (sSeq f g ρ S) Q :=
  wo_seq.mpr (h _ (fun _ _ h => h))
/-- what holds behind a statement is put down -/
theorem wo_mid {f g : SDen} {ρ : Env} {S : Sto} {Q : Out × Env × Sto → Prop} (R : Env → Sto → Prop) (h : Wo (f ρ S) fun r => r.1 = .nx ∧ R r.2.1 r.2.2) (h2 : ∀ ρ' S', R ρ' S' → Wo (g ρ' S') Q) : Wo (sSeq f g ρ S) Q := by
  obtain ⟨⟨o, ρ', S'⟩, e, rfl, hR⟩ := h
  exact wo_seq.mpr (wo_of e (h2 ρ' S' hR))
/-- cell 0 the script's cells, cell 1 what is left of the present one and so on -/
def srcD (l m t : Int) : List (Key × D) := [(.inr "cells", .ref 0), (.inr "left", .int l), (.inr "mixed", .int m), (.inr "turn", .int t)]
structure SrcAt (S : Sto) (cs : List Int) (l m t : Int) : Prop where
  c : S[0]? = some (.lst (cs.map .int))
  d : S[1]? = some (.dct (srcD l m t))
def Same2 (S S' : Sto) : Prop := S'.length = S.length ∧ ∀ j, 2 ≤ j → S'[j]? = S[j]?
theorem Same2.refl (S : Sto) : Same2 S S := ⟨rfl, fun _ _ => rfl⟩
theorem Same2.trans {S S' S'' : Sto} (h : Same2 S S') (h' : Same2 S' S'') : Same2 S S'' := ⟨h'.1.trans h.1, fun j hj => (h'.2 j hj).trans (h.2 j hj)⟩
def Drawn (S : Sto) : Prop := ∃ cs l m t, SrcAt S cs l m t ∧ cs.length ≤ 63
section
variable {S : Sto} {cs : List Int} {l m t : Int}
theorem SrcAt.len (h : SrcAt S cs l m t) : 2 ≤ S.length := by
  have := (List.getElem?_eq_some_iff.mp h.d).1
  omega
theorem SrcAt.item (h : SrcAt S cs l m t) (x : Str) (d : D) (e : dlook (srcD l m t) (.inr x) = some d := by rfl) : gItem (.ref 1) (.str x) S = some (d, S) := by
  unfold gItem dctAt
  simp only [h.d, keyOf, Option.bind_some, e, Option.map_some]
theorem SrcAt.put (h : SrcAt S cs l m t) (x : Str) (i l' m' t' : Int) (e : dput (srcD l m t) (.inr x) (.int i) = srcD l' m' t' := by rfl) : setItemD (.ref 1) (.str x) (.int i) S = some (S.set 1 (.dct (srcD l' m' t'))) ∧ SrcAt (S.set 1 (.dct (srcD l' m' t'))) cs l' m' t' ∧ Same2 S (S.set 1 (.dct (srcD l' m' t'))) := by
  have hl := h.len
  refine ⟨?_, ⟨?_, ?_⟩, List.length_set, fun j hj => ?_⟩
  · unfold setItemD dctAt
    simp only [h.d, keyOf, Option.bind_some]
    rw [if_pos ⟨by show 4 < sizeLine; rw [sizeLine_eq]; decide, rfl⟩, e]
  · rw [List.getElem?_set_ne (by omega)]
    exact h.c
  · rw [List.getElem?_set_self (by omega)]
  · rw [List.getElem?_set_ne (by omega)]
theorem SrcAt.pop (h : SrcAt S cs l m t) (hc : cs ≠ []) : ∃ i cs', cs = cs' ++ [i] ∧ gPop (.ref 0) [] S = some (.int i, S.set 0 (.lst (cs'.map .int))) ∧ SrcAt (S.set 0 (.lst (cs'.map .int))) cs' l m t ∧ Same2 S (S.set 0 (.lst (cs'.map .int))) := by
  have hl := h.len
  have e := List.dropLast_concat_getLast hc
  refine ⟨cs.getLast hc, cs.dropLast, e.symm, ?_, ⟨?_, ?_⟩, List.length_set, fun j hj => ?_⟩
  · have e2 : (cs.map D.int)[cs.length - 1]? = some (.int (cs.getLast hc)) := by
      rw [List.getElem?_map, ← List.getLast?_eq_getElem?, List.getLast?_eq_some_getLast hc]
      rfl
    unfold gPop
    simp only [h.c, List.length_map, e2, Option.map_some, List.map_dropLast]
  · rw [List.getElem?_set_self (by omega)]
  · rw [List.getElem?_set_ne (by omega)]
    exact h.d
  · rw [List.getElem?_set_ne (by omega)]
end
theorem fmod_lt' {a b : Int} (h : 0 < b) : 0 ≤ a.fmod b ∧ a.fmod b < b := by
  rw [Int.fmod_eq_emod_of_nonneg _ (by omega)]
  exact ⟨Int.emod_nonneg _ (by omega), Int.emod_lt_of_pos _ h⟩
theorem pick_ok {S : Sto} {most : Int} (hS : Drawn S) (h1 : 1 ≤ most) (h2 : most < 2 ^ 64) : Wo (PG.F_n_law_pick [.ref 1, .int most] S) fun p => ∃ r, p.1 = .int r ∧ 0 ≤ r ∧ r < most ∧ Drawn p.2 ∧ Same2 S p.2 := by
  have dv : divOk most = true := divOk_of (by omega) (by omega)
  have fin : Wo (PG.b_n_law_pick [some (.ref 1), some (.int most), none, none, none, none] S) (fun r => ∃ i, r.1 = .rt (.int i) ∧ 0 ≤ i ∧ i < most ∧ Drawn r.2.2 ∧ Same2 S r.2.2) → Wo (PG.F_n_law_pick [.ref 1, .int most] S) fun p => ∃ r, p.1 = .int r ∧ 0 ≤ r ∧ r < most ∧ Drawn p.2 ∧ Same2 S p.2 := by
    rintro ⟨⟨o, ρ', S'⟩, e, i, rfl, a1, a2, a3, a4⟩
    refine ⟨(.int i, S'), ?_, i, rfl, a1, a2, a3, a4⟩
    unfold PG.F_n_law_pick bodyM env0
    simp only [List.length_cons, List.length_nil, List.map_cons, List.map_nil, if_true]
    show (match PG.b_n_law_pick [some (.ref 1), some (.int most), none, none, none, none] S with
      | some (.rt d, _, S') => (D.fin S.length S' d).map fun d => (d, S'.take S.length)
      | some (.nx, _, S') => some (.non, S'.take S.length)
      | _ => none) = _
    rw [e]
    show (D.fin S.length S' (.int i)).map (fun d => (d, S'.take S.length)) = _
    rw [show D.fin S.length S' (.int i) = some (.int i) from rfl, Option.map_some, List.take_of_length_le (by rw [a4.1]; exact Nat.le_refl _)]
  refine fin ?_
  clear fin
  obtain ⟨cs, l, m, t, hA, hz⟩ := hS
  refine wo_seqK fun K k1 k2 _ _ => ?_
  simp only [sAsg, sIf, sRet, sRetN, sNil, sPass, sSet, sExpr, sPar, sBrk, sCnt, dC, dVar, dOp, dUn, dIf, dCB, dCalP, dCalM, dMeth, dMeth0, dAnd, dOr, dNot, dIsi, aNil, aCons, asB, tbAnd, tbOr, tbNot, dChain, gN, gOf, nN, nT, nsCons, nsNil, dTup, dLst, dCell, wo_bnd, wo_some, wo_map, wo_bind, wo_if, bnd_mk, List.getElem?_cons_zero, List.getElem?_cons_succ, List.set_cons_zero, List.set_cons_succ, Option.map_some, Option.bind_some, gAdd, MS.gSub, gMul, gMod, gDiv, gLt, gLe, gGt, gGe, gI, gNeg, cInt, cI, cII, cAbs, cMax2, cMin2, decide_eq_true_eq, if_true, if_false, List.zip_cons_cons, List.zip_nil_right, List.foldl_cons, List.foldl_nil, List.length_cons, List.length_nil, Nat.zero_add, Nat.reduceAdd, Bool.false_eq_true, decide_true, decide_false, true_and, and_true, true_implies, implies_true, false_implies, not_true_eq_false, D.pureL, D.pure, D.fitL, D.fit, fit_dPair, fit_ints, Bool.and_true, Bool.true_and, Bool.and_self, wo_none, nn_iff, imp_and', and_false, false_and, szOk_0, szOk_1, szOk_2, szOk_3, szOk_4, szOk_5, szOk_6, szOk_7, szOk_8, eqA_int, neA_int, eqA_str, neA_str, eqA_bl, neA_bl, Bool.not_eq_true', Bool.not_true, Bool.not_false, not_false_eq_true, tyOf, isT, String.reduceBEq, Bool.or_false, Bool.false_or, Bool.and_false, Bool.or_true, Bool.true_or, Bool.false_and]
  refine ⟨fun h => k2 _ _ _ ⟨0, rfl, by omega, by omega, ⟨cs, l, m, t, hA, hz⟩, .refl S⟩, fun h => k1 _ _ ?_⟩
  clear k1 k2
  refine wo_seqN fun K k1 => ?_
  simp only [sAsg, sIf, sRet, sRetN, sNil, sPass, sSet, sExpr, sPar, sBrk, sCnt, dC, dVar, dOp, dUn, dIf, dCB, dCalP, dCalM, dMeth, dMeth0, dAnd, dOr, dNot, dIsi, aNil, aCons, asB, tbAnd, tbOr, tbNot, dChain, gN, gOf, nN, nT, nsCons, nsNil, dTup, dLst, dCell, wo_bnd, wo_some, wo_map, wo_bind, wo_if, bnd_mk, List.getElem?_cons_zero, List.getElem?_cons_succ, List.set_cons_zero, List.set_cons_succ, Option.map_some, Option.bind_some, gAdd, MS.gSub, gMul, gMod, gDiv, gLt, gLe, gGt, gGe, gI, gNeg, cInt, cI, cII, cAbs, cMax2, cMin2, decide_eq_true_eq, if_true, if_false, List.zip_cons_cons, List.zip_nil_right, List.foldl_cons, List.foldl_nil, List.length_cons, List.length_nil, Nat.zero_add, Nat.reduceAdd, Bool.false_eq_true, decide_true, decide_false, true_and, and_true, true_implies, implies_true, false_implies, not_true_eq_false, D.pureL, D.pure, D.fitL, D.fit, fit_dPair, fit_ints, Bool.and_true, Bool.true_and, Bool.and_self, wo_none, nn_iff, imp_and', and_false, false_and, szOk_0, szOk_1, szOk_2, szOk_3, szOk_4, szOk_5, szOk_6, szOk_7, szOk_8, eqA_int, neA_int, eqA_str, neA_str, eqA_bl, neA_bl, Bool.not_eq_true', Bool.not_true, Bool.not_false, not_false_eq_true, tyOf, isT, String.reduceBEq, Bool.or_false, Bool.false_or, Bool.and_false, Bool.or_true, Bool.true_or, Bool.false_and, hA.item "cells" (.ref 0)]
  refine k1 _ _ ?_
  clear k1
  refine wo_mid (fun ρ' S' => ρ' = [some (.ref 1), some (.int most), some (.ref 0), none, none, none] ∧ ∃ cs l, SrcAt S' cs l m t ∧ cs.length ≤ 63 ∧ Same2 S S') ?_ ?_
  · refine wo_while (fun n ρ' S' => ρ' = [some (.ref 1), some (.int most), some (.ref 0), none, none, none] ∧ ∃ cs l, SrcAt S' cs l m t ∧ cs.length = n ∧ cs.length ≤ 63 ∧ Same2 S S') ⟨rfl, cs, l, hA, rfl, hz, .refl S⟩ (by omega) ?_
    rintro n ρ' S' ⟨rfl, cs, l, hA, rfl, hz, h2⟩
    unfold PG.w1c_n_law_pick
    have hlen : cLen [.ref 0] S' = some (.int cs.length, S') := by
      unfold cLen
      simp only [hA.c, List.length_map]
    simp only [sAsg, sIf, sRet, sRetN, sNil, sPass, sSet, sExpr, sPar, sBrk, sCnt, dC, dVar, dOp, dUn, dIf, dCB, dCalP, dCalM, dMeth, dMeth0, dAnd, dOr, dNot, dIsi, aNil, aCons, asB, tbAnd, tbOr, tbNot, dChain, gN, gOf, nN, nT, nsCons, nsNil, dTup, dLst, dCell, wo_bnd, wo_some, wo_map, wo_bind, wo_if, bnd_mk, List.getElem?_cons_zero, List.getElem?_cons_succ, List.set_cons_zero, List.set_cons_succ, Option.map_some, Option.bind_some, gAdd, MS.gSub, gMul, gMod, gDiv, gLt, gLe, gGt, gGe, gI, gNeg, cInt, cI, cII, cAbs, cMax2, cMin2, decide_eq_true_eq, if_true, if_false, List.zip_cons_cons, List.zip_nil_right, List.foldl_cons, List.foldl_nil, List.length_cons, List.length_nil, Nat.zero_add, Nat.reduceAdd, Bool.false_eq_true, decide_true, decide_false, true_and, and_true, true_implies, implies_true, false_implies, not_true_eq_false, D.pureL, D.pure, D.fitL, D.fit, fit_dPair, fit_ints, Bool.and_true, Bool.true_and, Bool.and_self, wo_none, nn_iff, imp_and', and_false, false_and, szOk_0, szOk_1, szOk_2, szOk_3, szOk_4, szOk_5, szOk_6, szOk_7, szOk_8, eqA_int, neA_int, eqA_str, neA_str, eqA_bl, neA_bl, Bool.not_eq_true', Bool.not_true, Bool.not_false, not_false_eq_true, tyOf, isT, String.reduceBEq, Bool.or_false, Bool.false_or, Bool.and_false, Bool.or_true, Bool.true_or, Bool.false_and, hA.item "left" (.int l), hlen]
    refine ⟨fun hl => ⟨fun hc => ?_, fun hc => ⟨cs, l, hA, hz, h2⟩⟩, fun hl => ⟨cs, l, hA, hz, h2⟩⟩
    have hne : cs ≠ [] := fun z => by rw [z] at hc; simp at hc
    obtain ⟨i, cs', rfl, e, hA', s2⟩ := hA.pop hne
    obtain ⟨e2, hA2, s3⟩ := hA'.put "left" i i m t
    have hL : isL S' (.ref 0) = true := by
      unfold isL listOf
      simp only [hA.c]
      rfl
    unfold PG.w1b_n_law_pick
    simp only [sAsg, sIf, sRet, sRetN, sNil, sPass, sSet, sExpr, sPar, sBrk, sCnt, dC, dVar, dOp, dUn, dIf, dCB, dCalP, dCalM, dMeth, dMeth0, dAnd, dOr, dNot, dIsi, aNil, aCons, asB, tbAnd, tbOr, tbNot, dChain, gN, gOf, nN, nT, nsCons, nsNil, dTup, dLst, dCell, wo_bnd, wo_some, wo_map, wo_bind, wo_if, bnd_mk, List.getElem?_cons_zero, List.getElem?_cons_succ, List.set_cons_zero, List.set_cons_succ, Option.map_some, Option.bind_some, gAdd, MS.gSub, gMul, gMod, gDiv, gLt, gLe, gGt, gGe, gI, gNeg, cInt, cI, cII, cAbs, cMax2, cMin2, decide_eq_true_eq, if_true, if_false, List.zip_cons_cons, List.zip_nil_right, List.foldl_cons, List.foldl_nil, List.length_cons, List.length_nil, Nat.zero_add, Nat.reduceAdd, Bool.false_eq_true, decide_true, decide_false, true_and, and_true, true_implies, implies_true, false_implies, not_true_eq_false, D.pureL, D.pure, D.fitL, D.fit, fit_dPair, fit_ints, Bool.and_true, Bool.true_and, Bool.and_self, wo_none, nn_iff, imp_and', and_false, false_and, szOk_0, szOk_1, szOk_2, szOk_3, szOk_4, szOk_5, szOk_6, szOk_7, szOk_8, eqA_int, neA_int, eqA_str, neA_str, eqA_bl, neA_bl, Bool.not_eq_true', Bool.not_true, Bool.not_false, not_false_eq_true, tyOf, isT, String.reduceBEq, Bool.or_false, Bool.false_or, Bool.and_false, Bool.or_true, Bool.true_or, Bool.false_and, hL, e, e2]
    refine ⟨cs'.length, by simp, cs', i, hA2, rfl, ?_, h2.trans (s2.trans s3)⟩
    rw [List.length_append] at hz
    omega
  · rintro ρ' S' ⟨rfl, cs, l, hA, hz, h2'⟩
    refine wo_seqN fun K k1 => ?_
    simp only [sAsg, sIf, sRet, sRetN, sNil, sPass, sSet, sExpr, sPar, sBrk, sCnt, dC, dVar, dOp, dUn, dIf, dCB, dCalP, dCalM, dMeth, dMeth0, dAnd, dOr, dNot, dIsi, aNil, aCons, asB, tbAnd, tbOr, tbNot, dChain, gN, gOf, nN, nT, nsCons, nsNil, dTup, dLst, dCell, wo_bnd, wo_some, wo_map, wo_bind, wo_if, bnd_mk, List.getElem?_cons_zero, List.getElem?_cons_succ, List.set_cons_zero, List.set_cons_succ, Option.map_some, Option.bind_some, gAdd, MS.gSub, gMul, gMod, gDiv, gLt, gLe, gGt, gGe, gI, gNeg, cInt, cI, cII, cAbs, cMax2, cMin2, decide_eq_true_eq, if_true, if_false, List.zip_cons_cons, List.zip_nil_right, List.foldl_cons, List.foldl_nil, List.length_cons, List.length_nil, Nat.zero_add, Nat.reduceAdd, Bool.false_eq_true, decide_true, decide_false, true_and, and_true, true_implies, implies_true, false_implies, not_true_eq_false, D.pureL, D.pure, D.fitL, D.fit, fit_dPair, fit_ints, Bool.and_true, Bool.true_and, Bool.and_self, wo_none, nn_iff, imp_and', and_false, false_and, szOk_0, szOk_1, szOk_2, szOk_3, szOk_4, szOk_5, szOk_6, szOk_7, szOk_8, eqA_int, neA_int, eqA_str, neA_str, eqA_bl, neA_bl, Bool.not_eq_true', Bool.not_true, Bool.not_false, not_false_eq_true, tyOf, isT, String.reduceBEq, Bool.or_false, Bool.false_or, Bool.and_false, Bool.or_true, Bool.true_or, Bool.false_and, hA.item "left" (.int l)]
    refine k1 _ _ ?_
    clear k1
    refine wo_seqK fun K k1 k2 _ _ => ?_
    obtain ⟨e2, hA2, s3⟩ := hA.put "left" (l.fdiv most) (l.fdiv most) m t
    have hne : most ≠ 0 := by omega
    simp only [sAsg, sIf, sRet, sRetN, sNil, sPass, sSet, sExpr, sPar, sBrk, sCnt, dC, dVar, dOp, dUn, dIf, dCB, dCalP, dCalM, dMeth, dMeth0, dAnd, dOr, dNot, dIsi, aNil, aCons, asB, tbAnd, tbOr, tbNot, dChain, gN, gOf, nN, nT, nsCons, nsNil, dTup, dLst, dCell, wo_bnd, wo_some, wo_map, wo_bind, wo_if, bnd_mk, List.getElem?_cons_zero, List.getElem?_cons_succ, List.set_cons_zero, List.set_cons_succ, Option.map_some, Option.bind_some, gAdd, MS.gSub, gMul, gMod, gDiv, gLt, gLe, gGt, gGe, gI, gNeg, cInt, cI, cII, cAbs, cMax2, cMin2, decide_eq_true_eq, if_true, if_false, List.zip_cons_cons, List.zip_nil_right, List.foldl_cons, List.foldl_nil, List.length_cons, List.length_nil, Nat.zero_add, Nat.reduceAdd, Bool.false_eq_true, decide_true, decide_false, true_and, and_true, true_implies, implies_true, false_implies, not_true_eq_false, D.pureL, D.pure, D.fitL, D.fit, fit_dPair, fit_ints, Bool.and_true, Bool.true_and, Bool.and_self, wo_none, nn_iff, imp_and', and_false, false_and, szOk_0, szOk_1, szOk_2, szOk_3, szOk_4, szOk_5, szOk_6, szOk_7, szOk_8, eqA_int, neA_int, eqA_str, neA_str, eqA_bl, neA_bl, Bool.not_eq_true', Bool.not_true, Bool.not_false, not_false_eq_true, tyOf, isT, String.reduceBEq, Bool.or_false, Bool.false_or, Bool.and_false, Bool.or_true, Bool.true_or, Bool.false_and, wo_seq, dv, e2, hne, ne_eq, not_false_eq_true]
    refine ⟨fun h => k2 _ _ _ ⟨l.fmod most, rfl, (fmod_lt' (by omega)).1, (fmod_lt' (by omega)).2, ⟨cs, _, m, t, hA2, hz⟩, h2'.trans s3⟩, fun h => k1 _ _ ?_⟩
    clear k1 k2
    refine wo_seqN fun K k1 => ?_
    obtain ⟨e2, hA2, s3⟩ := hA.put "turn" (t + 1) l m (t + 1)
    simp only [sAsg, sIf, sRet, sRetN, sNil, sPass, sSet, sExpr, sPar, sBrk, sCnt, dC, dVar, dOp, dUn, dIf, dCB, dCalP, dCalM, dMeth, dMeth0, dAnd, dOr, dNot, dIsi, aNil, aCons, asB, tbAnd, tbOr, tbNot, dChain, gN, gOf, nN, nT, nsCons, nsNil, dTup, dLst, dCell, wo_bnd, wo_some, wo_map, wo_bind, wo_if, bnd_mk, List.getElem?_cons_zero, List.getElem?_cons_succ, List.set_cons_zero, List.set_cons_succ, Option.map_some, Option.bind_some, gAdd, MS.gSub, gMul, gMod, gDiv, gLt, gLe, gGt, gGe, gI, gNeg, cInt, cI, cII, cAbs, cMax2, cMin2, decide_eq_true_eq, if_true, if_false, List.zip_cons_cons, List.zip_nil_right, List.foldl_cons, List.foldl_nil, List.length_cons, List.length_nil, Nat.zero_add, Nat.reduceAdd, Bool.false_eq_true, decide_true, decide_false, true_and, and_true, true_implies, implies_true, false_implies, not_true_eq_false, D.pureL, D.pure, D.fitL, D.fit, fit_dPair, fit_ints, Bool.and_true, Bool.true_and, Bool.and_self, wo_none, nn_iff, imp_and', and_false, false_and, szOk_0, szOk_1, szOk_2, szOk_3, szOk_4, szOk_5, szOk_6, szOk_7, szOk_8, eqA_int, neA_int, eqA_str, neA_str, eqA_bl, neA_bl, Bool.not_eq_true', Bool.not_true, Bool.not_false, not_false_eq_true, tyOf, isT, String.reduceBEq, Bool.or_false, Bool.false_or, Bool.and_false, Bool.or_true, Bool.true_or, Bool.false_and, hA.item "turn" (.int t), e2]
    refine k1 _ _ ?_
    clear k1
    refine wo_seqN fun K k1 => ?_
    simp only [sAsg, sIf, sRet, sRetN, sNil, sPass, sSet, sExpr, sPar, sBrk, sCnt, dC, dVar, dOp, dUn, dIf, dCB, dCalP, dCalM, dMeth, dMeth0, dAnd, dOr, dNot, dIsi, aNil, aCons, asB, tbAnd, tbOr, tbNot, dChain, gN, gOf, nN, nT, nsCons, nsNil, dTup, dLst, dCell, wo_bnd, wo_some, wo_map, wo_bind, wo_if, bnd_mk, List.getElem?_cons_zero, List.getElem?_cons_succ, List.set_cons_zero, List.set_cons_succ, Option.map_some, Option.bind_some, gAdd, MS.gSub, gMul, gMod, gDiv, gLt, gLe, gGt, gGe, gI, gNeg, cInt, cI, cII, cAbs, cMax2, cMin2, decide_eq_true_eq, if_true, if_false, List.zip_cons_cons, List.zip_nil_right, List.foldl_cons, List.foldl_nil, List.length_cons, List.length_nil, Nat.zero_add, Nat.reduceAdd, Bool.false_eq_true, decide_true, decide_false, true_and, and_true, true_implies, implies_true, false_implies, not_true_eq_false, D.pureL, D.pure, D.fitL, D.fit, fit_dPair, fit_ints, Bool.and_true, Bool.true_and, Bool.and_self, wo_none, nn_iff, imp_and', and_false, false_and, szOk_0, szOk_1, szOk_2, szOk_3, szOk_4, szOk_5, szOk_6, szOk_7, szOk_8, eqA_int, neA_int, eqA_str, neA_str, eqA_bl, neA_bl, Bool.not_eq_true', Bool.not_true, Bool.not_false, not_false_eq_true, tyOf, isT, String.reduceBEq, Bool.or_false, Bool.false_or, Bool.and_false, Bool.or_true, Bool.true_or, Bool.false_and, hA2.item "turn" (.int (t + 1))]
    refine k1 _ _ ?_
    clear k1
    refine wo_seqN fun K k1 => ?_
    have mk1 : mulOk (t + 1) 104729 = true := mulOk_r (by decide)
    simp only [sAsg, sIf, sRet, sRetN, sNil, sPass, sSet, sExpr, sPar, sBrk, sCnt, dC, dVar, dOp, dUn, dIf, dCB, dCalP, dCalM, dMeth, dMeth0, dAnd, dOr, dNot, dIsi, aNil, aCons, asB, tbAnd, tbOr, tbNot, dChain, gN, gOf, nN, nT, nsCons, nsNil, dTup, dLst, dCell, wo_bnd, wo_some, wo_map, wo_bind, wo_if, bnd_mk, List.getElem?_cons_zero, List.getElem?_cons_succ, List.set_cons_zero, List.set_cons_succ, Option.map_some, Option.bind_some, gAdd, MS.gSub, gMul, gMod, gDiv, gLt, gLe, gGt, gGe, gI, gNeg, cInt, cI, cII, cAbs, cMax2, cMin2, decide_eq_true_eq, if_true, if_false, List.zip_cons_cons, List.zip_nil_right, List.foldl_cons, List.foldl_nil, List.length_cons, List.length_nil, Nat.zero_add, Nat.reduceAdd, Bool.false_eq_true, decide_true, decide_false, true_and, and_true, true_implies, implies_true, false_implies, not_true_eq_false, D.pureL, D.pure, D.fitL, D.fit, fit_dPair, fit_ints, Bool.and_true, Bool.true_and, Bool.and_self, wo_none, nn_iff, imp_and', and_false, false_and, szOk_0, szOk_1, szOk_2, szOk_3, szOk_4, szOk_5, szOk_6, szOk_7, szOk_8, eqA_int, neA_int, eqA_str, neA_str, eqA_bl, neA_bl, Bool.not_eq_true', Bool.not_true, Bool.not_false, not_false_eq_true, tyOf, isT, String.reduceBEq, Bool.or_false, Bool.false_or, Bool.and_false, Bool.or_true, Bool.true_or, Bool.false_and, hA2.item "mixed" (.int m), mk1, show ((998244353 : Int) ≠ 0) ↔ True from by decide]
    refine k1 _ _ ?_
    clear k1
    refine wo_seqN fun K k1 => ?_
    generalize hq : (m + (t + 1) * 104729).fmod 998244353 = q
    have hb := fmod_lt' (a := m + (t + 1) * 104729) (b := 998244353) (by decide)
    rw [hq] at hb
    have mk2 : mulOk q q = true := mulOk_r (by omega)
    have mk3 : mulOk (t + 1) 17 = true := mulOk_r (by decide)
    simp only [sAsg, sIf, sRet, sRetN, sNil, sPass, sSet, sExpr, sPar, sBrk, sCnt, dC, dVar, dOp, dUn, dIf, dCB, dCalP, dCalM, dMeth, dMeth0, dAnd, dOr, dNot, dIsi, aNil, aCons, asB, tbAnd, tbOr, tbNot, dChain, gN, gOf, nN, nT, nsCons, nsNil, dTup, dLst, dCell, wo_bnd, wo_some, wo_map, wo_bind, wo_if, bnd_mk, List.getElem?_cons_zero, List.getElem?_cons_succ, List.set_cons_zero, List.set_cons_succ, Option.map_some, Option.bind_some, gAdd, MS.gSub, gMul, gMod, gDiv, gLt, gLe, gGt, gGe, gI, gNeg, cInt, cI, cII, cAbs, cMax2, cMin2, decide_eq_true_eq, if_true, if_false, List.zip_cons_cons, List.zip_nil_right, List.foldl_cons, List.foldl_nil, List.length_cons, List.length_nil, Nat.zero_add, Nat.reduceAdd, Bool.false_eq_true, decide_true, decide_false, true_and, and_true, true_implies, implies_true, false_implies, not_true_eq_false, D.pureL, D.pure, D.fitL, D.fit, fit_dPair, fit_ints, Bool.and_true, Bool.true_and, Bool.and_self, wo_none, nn_iff, imp_and', and_false, false_and, szOk_0, szOk_1, szOk_2, szOk_3, szOk_4, szOk_5, szOk_6, szOk_7, szOk_8, eqA_int, neA_int, eqA_str, neA_str, eqA_bl, neA_bl, Bool.not_eq_true', Bool.not_true, Bool.not_false, not_false_eq_true, tyOf, isT, String.reduceBEq, Bool.or_false, Bool.false_or, Bool.and_false, Bool.or_true, Bool.true_or, Bool.false_and, mk2, mk3, show ((2147483647 : Int) ≠ 0) ↔ True from by decide]
    refine k1 _ _ ?_
    clear k1
    have dv2 : divOk 16 = true := divOk_of (by decide) (by decide)
    simp only [sAsg, sIf, sRet, sRetN, sNil, sPass, sSet, sExpr, sPar, sBrk, sCnt, dC, dVar, dOp, dUn, dIf, dCB, dCalP, dCalM, dMeth, dMeth0, dAnd, dOr, dNot, dIsi, aNil, aCons, asB, tbAnd, tbOr, tbNot, dChain, gN, gOf, nN, nT, nsCons, nsNil, dTup, dLst, dCell, wo_bnd, wo_some, wo_map, wo_bind, wo_if, bnd_mk, List.getElem?_cons_zero, List.getElem?_cons_succ, List.set_cons_zero, List.set_cons_succ, Option.map_some, Option.bind_some, gAdd, MS.gSub, gMul, gMod, gDiv, gLt, gLe, gGt, gGe, gI, gNeg, cInt, cI, cII, cAbs, cMax2, cMin2, decide_eq_true_eq, if_true, if_false, List.zip_cons_cons, List.zip_nil_right, List.foldl_cons, List.foldl_nil, List.length_cons, List.length_nil, Nat.zero_add, Nat.reduceAdd, Bool.false_eq_true, decide_true, decide_false, true_and, and_true, true_implies, implies_true, false_implies, not_true_eq_false, D.pureL, D.pure, D.fitL, D.fit, fit_dPair, fit_ints, Bool.and_true, Bool.true_and, Bool.and_self, wo_none, nn_iff, imp_and', and_false, false_and, szOk_0, szOk_1, szOk_2, szOk_3, szOk_4, szOk_5, szOk_6, szOk_7, szOk_8, eqA_int, neA_int, eqA_str, neA_str, eqA_bl, neA_bl, Bool.not_eq_true', Bool.not_true, Bool.not_false, not_false_eq_true, tyOf, isT, String.reduceBEq, Bool.or_false, Bool.false_or, Bool.and_false, Bool.or_true, Bool.true_or, Bool.false_and, dv2, hne, ne_eq, not_false_eq_true]
    exact ⟨_, rfl, (fmod_lt' (by omega)).1, (fmod_lt' (by omega)).2, ⟨cs, l, m, t + 1, hA2, hz⟩, h2'.trans s3⟩
end MS

namespace MS
open PySem PySem.Spec PyProof.Rows L2
def absI (i : Int) : Int := if i < 0 then -i else i
theorem fitL_ints (n : Nat) (ns : List Int) : D.fitL n (ns.map D.int) = true := D.fitL_all.mpr fun d hd => by
  obtain ⟨i, _, rfl⟩ := List.mem_map.mp hd
  rfl
theorem src_ok {ns : List Int} (h : ns.length ≤ 63) : Wo (PG.F_n_law_source [.rl (ns.map D.int)] []) fun p => p.1 = .ref 1 ∧ Drawn p.2 ∧ p.2.length = 2 := by
  suffices core : Wo (PG.b_n_law_source [some (.rl (ns.map D.int)), none, none, none] []) fun r => r.1 = .rt (.ref 1) ∧ Drawn r.2.2 ∧ r.2.2.length = 2 by
    obtain ⟨⟨o, ρ', S'⟩, e, rfl, a1, a2⟩ := core
    refine ⟨(.ref 1, S'), ?_, rfl, a1, a2⟩
    unfold PG.F_n_law_source bodyN env0
    simp only [List.length_cons, List.length_nil, List.map_cons, List.map_nil, if_true]
    show (match PG.b_n_law_source [some (.rl (ns.map D.int)), none, none, none] [] with
      | some (.rt d, _, S') => some (d, S')
      | some (.nx, _, S') => some (.non, S')
      | _ => none) = _
    rw [e]
  refine wo_seqN fun K k1 => ?_
  simp only [sAsg, sIf, sRet, sRetN, sNil, sPass, sSet, sExpr, sPar, sBrk, sCnt, dC, dVar, dOp, dUn, dIf, dCB, dCalP, dCalM, dMeth, dMeth0, dAnd, dOr, dNot, dIsi, aNil, aCons, asB, tbAnd, tbOr, tbNot, dChain, gN, gOf, nN, nT, nsCons, nsNil, dTup, dLst, dCell, wo_bnd, wo_some, wo_map, wo_bind, wo_if, bnd_mk, List.getElem?_cons_zero, List.getElem?_cons_succ, List.set_cons_zero, List.set_cons_succ, Option.map_some, Option.bind_some, gAdd, MS.gSub, gMul, gMod, gDiv, gLt, gLe, gGt, gGe, gI, gNeg, cInt, cI, cII, cAbs, cMax2, cMin2, decide_eq_true_eq, if_true, if_false, List.zip_cons_cons, List.zip_nil_right, List.foldl_cons, List.foldl_nil, List.length_cons, List.length_nil, Nat.zero_add, Nat.reduceAdd, Bool.false_eq_true, decide_true, decide_false, true_and, and_true, true_implies, implies_true, false_implies, not_true_eq_false, D.pureL, D.pure, D.fitL, D.fit, fit_dPair, fit_ints, Bool.and_true, Bool.true_and, Bool.and_self, wo_none, nn_iff, imp_and', and_false, false_and, szOk_0, szOk_1, szOk_2, szOk_3, szOk_4, szOk_5, szOk_6, szOk_7, szOk_8, eqA_int, neA_int, eqA_str, neA_str, eqA_bl, neA_bl, Bool.not_eq_true', Bool.not_true, Bool.not_false, not_false_eq_true, tyOf, isT, String.reduceBEq, Bool.or_false, Bool.false_or, Bool.and_false, Bool.or_true, Bool.true_or, Bool.false_and]
  refine k1 _ _ ?_
  clear k1
  refine wo_mid (fun ρ' S' => S' = [] ∧ ∃ m c, ρ' = [some (.rl (ns.map D.int)), some (.int m), c, none]) ?_ ?_
  · unfold sFor iSeq
    simp only [sAsg, sIf, sRet, sRetN, sNil, sPass, sSet, sExpr, sPar, sBrk, sCnt, dC, dVar, dOp, dUn, dIf, dCB, dCalP, dCalM, dMeth, dMeth0, dAnd, dOr, dNot, dIsi, aNil, aCons, asB, tbAnd, tbOr, tbNot, dChain, gN, gOf, nN, nT, nsCons, nsNil, dTup, dLst, dCell, wo_bnd, wo_some, wo_map, wo_bind, wo_if, bnd_mk, List.getElem?_cons_zero, List.getElem?_cons_succ, List.set_cons_zero, List.set_cons_succ, Option.map_some, Option.bind_some, gAdd, MS.gSub, gMul, gMod, gDiv, gLt, gLe, gGt, gGe, gI, gNeg, cInt, cI, cII, cAbs, cMax2, cMin2, decide_eq_true_eq, if_true, if_false, List.zip_cons_cons, List.zip_nil_right, List.foldl_cons, List.foldl_nil, List.length_cons, List.length_nil, Nat.zero_add, Nat.reduceAdd, Bool.false_eq_true, decide_true, decide_false, true_and, and_true, true_implies, implies_true, false_implies, not_true_eq_false, D.pureL, D.pure, D.fitL, D.fit, fit_dPair, fit_ints, Bool.and_true, Bool.true_and, Bool.and_self, wo_none, nn_iff, imp_and', and_false, false_and, szOk_0, szOk_1, szOk_2, szOk_3, szOk_4, szOk_5, szOk_6, szOk_7, szOk_8, eqA_int, neA_int, eqA_str, neA_str, eqA_bl, neA_bl, Bool.not_eq_true', Bool.not_true, Bool.not_false, not_false_eq_true, tyOf, isT, String.reduceBEq, Bool.or_false, Bool.false_or, Bool.and_false, Bool.or_true, Bool.true_or, Bool.false_and]
    refine wo_for (fun i ρ' S' => S' = [] ∧ ∃ m c, ρ' = [some (.rl (ns.map D.int)), some (.int m), c, none]) ⟨rfl, 11, none, rfl⟩ (fun _ _ _ _ _ => rfl) ?_ ?_
    · rintro i d ρ' S' hd ⟨rfl, m, c, rfl⟩
      have hd : (ns.map D.int)[i]? = some d := hd
      rw [List.getElem?_map, Option.map_eq_some_iff] at hd
      obtain ⟨j, _, rfl⟩ := hd
      unfold PG.f1b_n_law_source
      have m1 : mulOk m 69069 = true := mulOk_r (by decide)
      have m2 : mulOk j 31 = true := mulOk_r (by decide)
      simp only [sAsg, sIf, sRet, sRetN, sNil, sPass, sSet, sExpr, sPar, sBrk, sCnt, dC, dVar, dOp, dUn, dIf, dCB, dCalP, dCalM, dMeth, dMeth0, dAnd, dOr, dNot, dIsi, aNil, aCons, asB, tbAnd, tbOr, tbNot, dChain, gN, gOf, nN, nT, nsCons, nsNil, dTup, dLst, dCell, wo_bnd, wo_some, wo_map, wo_bind, wo_if, bnd_mk, List.getElem?_cons_zero, List.getElem?_cons_succ, List.set_cons_zero, List.set_cons_succ, Option.map_some, Option.bind_some, gAdd, MS.gSub, gMul, gMod, gDiv, gLt, gLe, gGt, gGe, gI, gNeg, cInt, cI, cII, cAbs, cMax2, cMin2, decide_eq_true_eq, if_true, if_false, List.zip_cons_cons, List.zip_nil_right, List.foldl_cons, List.foldl_nil, List.length_cons, List.length_nil, Nat.zero_add, Nat.reduceAdd, Bool.false_eq_true, decide_true, decide_false, true_and, and_true, true_implies, implies_true, false_implies, not_true_eq_false, D.pureL, D.pure, D.fitL, D.fit, fit_dPair, fit_ints, Bool.and_true, Bool.true_and, Bool.and_self, wo_none, nn_iff, imp_and', and_false, false_and, szOk_0, szOk_1, szOk_2, szOk_3, szOk_4, szOk_5, szOk_6, szOk_7, szOk_8, eqA_int, neA_int, eqA_str, neA_str, eqA_bl, neA_bl, Bool.not_eq_true', Bool.not_true, Bool.not_false, not_false_eq_true, tyOf, isT, String.reduceBEq, Bool.or_false, Bool.false_or, Bool.and_false, Bool.or_true, Bool.true_or, Bool.false_and, m1, m2, show ((2147483629 : Int) ≠ 0) ↔ True from by decide]
      exact ⟨_, _, rfl⟩
    · rintro ρ' S' ⟨rfl, m, c, rfl⟩
      exact ⟨rfl, rfl, m, c, rfl⟩
  · rintro ρ' S' ⟨rfl, m, c, rfl⟩
    have lc : lcL (.fix (ns.map D.int)) (nN 2) tYesD (dCB cAbs (aCons (dVar 2) aNil)) (ns.map D.int) [some (.rl (ns.map D.int)), some (.int m), none, none] [] = some (((ns.map absI).map D.int), []) := by
      rw [lcL_all rfl (f := fun d => match d with | .int i => .int (absI i) | d => d)]
      · rw [List.map_map, List.map_map]
        rfl
      · intro d hd
        obtain ⟨i, _, rfl⟩ := List.mem_map.mp hd
        exact ⟨_, rfl, rfl⟩
    have sz : szOk ((ns.map absI).map D.int) = true := decide_eq_true (by rw [List.length_map, List.length_map, sizeLine_eq]; omega)
    have lc2 : dLc (iSeq (dVar 0)) (nN 2) tYesD (dCB cAbs (aCons (dVar 2) aNil)) [2] [some (.rl (ns.map D.int)), some (.int m), c, none] [] = some (.fl ((ns.map absI).map D.int), []) := by
      show bnd (lcL (.fix (ns.map D.int)) (nN 2) tYesD (dCB cAbs (aCons (dVar 2) aNil)) (ns.map D.int) [some (.rl (ns.map D.int)), some (.int m), none, none] []) _ = _
      rw [lc]
      exact if_pos sz
    refine wo_seqN fun K k1 => ?_
    unfold sAsg
    rw [lc2]
    simp only [sAsg, sIf, sRet, sRetN, sNil, sPass, sSet, sExpr, sPar, sBrk, sCnt, dC, dVar, dOp, dUn, dIf, dCB, dCalP, dCalM, dMeth, dMeth0, dAnd, dOr, dNot, dIsi, aNil, aCons, asB, tbAnd, tbOr, tbNot, dChain, gN, gOf, nN, nT, nsCons, nsNil, dTup, dLst, dCell, wo_bnd, wo_some, wo_map, wo_bind, wo_if, bnd_mk, List.getElem?_cons_zero, List.getElem?_cons_succ, List.set_cons_zero, List.set_cons_succ, Option.map_some, Option.bind_some, gAdd, MS.gSub, gMul, gMod, gDiv, gLt, gLe, gGt, gGe, gI, gNeg, cInt, cI, cII, cAbs, cMax2, cMin2, decide_eq_true_eq, if_true, if_false, List.zip_cons_cons, List.zip_nil_right, List.foldl_cons, List.foldl_nil, List.length_cons, List.length_nil, Nat.zero_add, Nat.reduceAdd, Bool.false_eq_true, decide_true, decide_false, true_and, and_true, true_implies, implies_true, false_implies, not_true_eq_false, D.pureL, D.pure, D.fitL, D.fit, fit_dPair, fit_ints, Bool.and_true, Bool.true_and, Bool.and_self, wo_none, nn_iff, imp_and', and_false, false_and, szOk_0, szOk_1, szOk_2, szOk_3, szOk_4, szOk_5, szOk_6, szOk_7, szOk_8, eqA_int, neA_int, eqA_str, neA_str, eqA_bl, neA_bl, Bool.not_eq_true', Bool.not_true, Bool.not_false, not_false_eq_true, tyOf, isT, String.reduceBEq, Bool.or_false, Bool.false_or, Bool.and_false, Bool.or_true, Bool.true_or, Bool.false_and]
    refine k1 _ _ ?_
    clear k1
    have hr : D.fitL 0 ((ns.map absI).map D.int) = true := fitL_ints _ _
    unfold dDisp dRevC
    simp only [dDispL, sAsg, sIf, sRet, sRetN, sNil, sPass, sSet, sExpr, sPar, sBrk, sCnt, dC, dVar, dOp, dUn, dIf, dCB, dCalP, dCalM, dMeth, dMeth0, dAnd, dOr, dNot, dIsi, aNil, aCons, asB, tbAnd, tbOr, tbNot, dChain, gN, gOf, nN, nT, nsCons, nsNil, dTup, dLst, dCell, wo_bnd, wo_some, wo_map, wo_bind, wo_if, bnd_mk, List.getElem?_cons_zero, List.getElem?_cons_succ, List.set_cons_zero, List.set_cons_succ, Option.map_some, Option.bind_some, gAdd, MS.gSub, gMul, gMod, gDiv, gLt, gLe, gGt, gGe, gI, gNeg, cInt, cI, cII, cAbs, cMax2, cMin2, decide_eq_true_eq, if_true, if_false, List.zip_cons_cons, List.zip_nil_right, List.foldl_cons, List.foldl_nil, List.length_cons, List.length_nil, Nat.zero_add, Nat.reduceAdd, Bool.false_eq_true, decide_true, decide_false, true_and, and_true, true_implies, implies_true, false_implies, not_true_eq_false, D.pureL, D.pure, D.fitL, D.fit, fit_dPair, fit_ints, Bool.and_true, Bool.true_and, Bool.and_self, wo_none, nn_iff, imp_and', and_false, false_and, szOk_0, szOk_1, szOk_2, szOk_3, szOk_4, szOk_5, szOk_6, szOk_7, szOk_8, eqA_int, neA_int, eqA_str, neA_str, eqA_bl, neA_bl, Bool.not_eq_true', Bool.not_true, Bool.not_false, not_false_eq_true, tyOf, isT, String.reduceBEq, Bool.or_false, Bool.false_or, Bool.and_false, Bool.or_true, Bool.true_or, Bool.false_and, listOf, hr, List.nil_append, List.map_cons, List.map_nil]
    exact ⟨by decide, ⟨(ns.map absI).reverse, 1, m, 0, ⟨by rw [List.map_reverse]; rfl, rfl⟩, by rw [List.length_reverse, List.length_map]; exact h⟩, rfl⟩
end MS

/-! whole numbers, fractions -/
namespace MS
open PySem PySem.Spec PyProof.Rows L2
theorem D.fin_pure {n : Nat} {S : Sto} {d : D} (h : D.pure d = true) : D.fin n S d = some d := if_pos (D.fit_mono (Nat.zero_le _) h)
/-- a pure def by a run of its body -/
theorem bodyP_run {np nn : Nat} {b : SDen} {ds : List D} {d : D} (hl : ds.length = np) (hp : D.pure d = true) (h : Wo (b (env0 nn ds) []) fun r => r.1 = .rt d) : bodyP np nn b ds = some d := by
  obtain ⟨⟨o, ρ', S'⟩, e, rfl⟩ := h
  unfold bodyP
  rw [if_pos hl, e]
  exact D.fin_pure hp
theorem fdiv_pos {a b : Int} (h : 0 < b) : a.fdiv b = a / b := Int.fdiv_eq_ediv_of_nonneg _ (by omega)
theorem fmod_pos {a b : Int} (h : 0 < b) : a.fmod b = a % b := Int.fmod_eq_emod_of_nonneg _ (by omega)
theorem gcd_step {x y : Int} : Int.gcd y (x % y) = Int.gcd x y := by
  have : x = x % y + y * (x / y) := (Int.emod_add_mul_ediv x y).symm
  rw [Int.gcd_comm x y]
  conv => rhs; rw [this]
  rw [Int.gcd_add_mul_left_right]
theorem gcd_w {c : TDen} {b : SDen} {env : Int → Int → Env} (hc : ∀ x y, c (env x y) [] = some (decide (0 < y), [])) (hb : ∀ x y, 0 < y → b (env x y) [] = some (.nx, env y (x % y), [])) {x y : Int} (hx : 0 ≤ x) (hy : 0 ≤ y) {n : Nat} (hn : y.natAbs < n) {Q : Out × Env × Sto → Prop}
    (h : Q (.nx, env (Int.gcd x y) 0, [])) : Wo (whileN c b n (env x y) []) Q := by
  refine wo_while (fun n ρ' S' => S' = [] ∧ ∃ x' y' : Int, ρ' = env x' y' ∧ 0 ≤ x' ∧ 0 ≤ y' ∧ y'.natAbs = n ∧ Int.gcd x' y' = Int.gcd x y) ⟨rfl, x, y, rfl, hx, hy, rfl, rfl⟩ hn ?_
  rintro m ρ' S' ⟨rfl, x', y', rfl, h1, h2, rfl, h3⟩
  rw [hc, wo_some]
  refine ⟨fun z => ?_, fun z => ?_⟩
  · have z : 0 < y' := of_decide_eq_true z
    rw [hb _ _ z, wo_some]
    have a1 := Int.emod_nonneg x' (show y' ≠ 0 by omega)
    have a2 := Int.emod_lt_of_pos x' z
    exact ⟨(x' % y').natAbs, by omega, rfl, y', x' % y', rfl, by omega, a1, rfl, by rw [gcd_step, h3]⟩
  · have z : ¬ 0 < y' := of_decide_eq_false z
    obtain rfl : y' = 0 := by omega
    have e : x' = (Int.gcd x y : Int) := by
      rw [← h3, Int.gcd_zero]
      omega
    rw [e]
    exact h
theorem absI_eq (i : Int) : absI i = (i.natAbs : Int) := by unfold absI; split <;> omega
theorem common_divisor_ok {a b : Int} (h : b.natAbs < 10 ^ 60) : PG.F_common_divisor [.int a, .int b] = some (.int (Int.gcd a b)) := by
  refine bodyP_run rfl rfl ?_
  show Wo (PG.b_common_divisor [some (.int a), some (.int b)] []) _
  refine wo_seqN fun K k1 => ?_
  simp only [sAsg, sIf, sRet, sRetN, sNil, sPass, sSet, sExpr, sPar, sBrk, sCnt, dC, dVar, dOp, dUn, dIf, dCB, dCalP, dCalM, dMeth, dMeth0, dAnd, dOr, dNot, dIsi, aNil, aCons, asB, tbAnd, tbOr, tbNot, dChain, gN, gOf, nN, nT, nsCons, nsNil, dTup, dLst, dCell, wo_bnd, wo_some, wo_map, wo_bind, wo_if, bnd_mk, List.getElem?_cons_zero, List.getElem?_cons_succ, List.set_cons_zero, List.set_cons_succ, Option.map_some, Option.bind_some, gAdd, MS.gSub, gMul, gMod, gDiv, gLt, gLe, gGt, gGe, gI, gNeg, cInt, cI, cII, cAbs, cMax2, cMin2, decide_eq_true_eq, if_true, if_false, List.zip_cons_cons, List.zip_nil_right, List.foldl_cons, List.foldl_nil, List.length_cons, List.length_nil, Nat.zero_add, Nat.reduceAdd, Bool.false_eq_true, decide_true, decide_false, true_and, and_true, true_implies, implies_true, false_implies, not_true_eq_false, D.pureL, D.pure, D.fitL, D.fit, fit_dPair, fit_ints, Bool.and_true, Bool.true_and, Bool.and_self, wo_none, nn_iff, imp_and', and_false, false_and, szOk_0, szOk_1, szOk_2, szOk_3, szOk_4, szOk_5, szOk_6, szOk_7, szOk_8, eqA_int, neA_int, eqA_str, neA_str, eqA_bl, neA_bl, Bool.not_eq_true', Bool.not_true, Bool.not_false, not_false_eq_true, tyOf, isT, String.reduceBEq, Bool.or_false, Bool.false_or, Bool.and_false, Bool.or_true, Bool.true_or, Bool.false_and]
  refine k1 _ _ ?_
  clear k1
  refine wo_seqN fun K k1 => ?_
  refine gcd_w (env := fun x y => [some (.int x), some (.int y)]) (fun _ _ => rfl) (fun x y hy => ?_) (by split <;> omega) (by split <;> omega) (by split <;> omega) (k1 _ _ ?_)
  · have e : x.fmod y = x % y := fmod_pos hy
    rw [← e]
    have hne : y ≠ 0 := by omega
    unfold PG.w1b_common_divisor sPar aCons aNil dOp dVar gMod gI
    simp only [bnd_mk, List.getElem?_cons_zero, List.getElem?_cons_succ, ne_eq, hne, not_false_eq_true, if_true, Option.map_some]
    rfl
  · clear k1
    simp only [sAsg, sIf, sRet, sRetN, sNil, sPass, sSet, sExpr, sPar, sBrk, sCnt, dC, dVar, dOp, dUn, dIf, dCB, dCalP, dCalM, dMeth, dMeth0, dAnd, dOr, dNot, dIsi, aNil, aCons, asB, tbAnd, tbOr, tbNot, dChain, gN, gOf, nN, nT, nsCons, nsNil, dTup, dLst, dCell, wo_bnd, wo_some, wo_map, wo_bind, wo_if, bnd_mk, List.getElem?_cons_zero, List.getElem?_cons_succ, List.set_cons_zero, List.set_cons_succ, Option.map_some, Option.bind_some, gAdd, MS.gSub, gMul, gMod, gDiv, gLt, gLe, gGt, gGe, gI, gNeg, cInt, cI, cII, cAbs, cMax2, cMin2, decide_eq_true_eq, if_true, if_false, List.zip_cons_cons, List.zip_nil_right, List.foldl_cons, List.foldl_nil, List.length_cons, List.length_nil, Nat.zero_add, Nat.reduceAdd, Bool.false_eq_true, decide_true, decide_false, true_and, and_true, true_implies, implies_true, false_implies, not_true_eq_false, D.pureL, D.pure, D.fitL, D.fit, fit_dPair, fit_ints, Bool.and_true, Bool.true_and, Bool.and_self, wo_none, nn_iff, imp_and', and_false, false_and, szOk_0, szOk_1, szOk_2, szOk_3, szOk_4, szOk_5, szOk_6, szOk_7, szOk_8, eqA_int, neA_int, eqA_str, neA_str, eqA_bl, neA_bl, Bool.not_eq_true', Bool.not_true, Bool.not_false, not_false_eq_true, tyOf, isT, String.reduceBEq, Bool.or_false, Bool.false_or, Bool.and_false, Bool.or_true, Bool.true_or, Bool.false_and]
    have e : Int.gcd (if a < 0 then -a else a) (if b < 0 then -b else b) = Int.gcd a b := by
      split <;> split <;> simp
    rw [e]
/-- a fraction in lowest terms -/
def low (p q : Int) : Int × Int := if 0 < q then (p / (Int.gcd p q : Int), q / (Int.gcd p q : Int)) else (-p / (Int.gcd p q : Int), -q / (Int.gcd p q : Int))
theorem gcd_ok {p q : Int} (hq : q ≠ 0) (h : q.natAbs < 10 ^ 60) : 0 < (Int.gcd p q : Int) ∧ divOk (Int.gcd p q) = true := by
  have h1 := Int.gcd_pos_of_ne_zero_right p hq
  have h2 := Int.gcd_le_natAbs_right p hq
  refine ⟨by omega, divOk_k 200 (by decide) (by omega) ?_⟩
  have : (10 : Nat) ^ 60 < 2 ^ 200 := by decide
  omega
theorem lowest_of_ok {p q : Int} (hq : q ≠ 0) (h : q.natAbs < 10 ^ 60) : PG.F_lowest_of [.int p, .int q] = some (dPair (low p q)) := by
  refine bodyP_run rfl rfl ?_
  obtain ⟨g1, g2⟩ := gcd_ok (p := p) hq h
  show Wo (PG.b_lowest_of [some (.int p), some (.int q), none] []) _
  refine wo_seqN fun K k1 => ?_
  simp only [sAsg, sIf, sRet, sRetN, sNil, sPass, sSet, sExpr, sPar, sBrk, sCnt, dC, dVar, dOp, dUn, dIf, dCB, dCalP, dCalM, dMeth, dMeth0, dAnd, dOr, dNot, dIsi, aNil, aCons, asB, tbAnd, tbOr, tbNot, dChain, gN, gOf, nN, nT, nsCons, nsNil, dTup, dLst, dCell, wo_bnd, wo_some, wo_map, wo_bind, wo_if, bnd_mk, List.getElem?_cons_zero, List.getElem?_cons_succ, List.set_cons_zero, List.set_cons_succ, Option.map_some, Option.bind_some, gAdd, MS.gSub, gMul, gMod, gDiv, gLt, gLe, gGt, gGe, gI, gNeg, cInt, cI, cII, cAbs, cMax2, cMin2, decide_eq_true_eq, if_true, if_false, List.zip_cons_cons, List.zip_nil_right, List.foldl_cons, List.foldl_nil, List.length_cons, List.length_nil, Nat.zero_add, Nat.reduceAdd, Bool.false_eq_true, decide_true, decide_false, true_and, and_true, true_implies, implies_true, false_implies, not_true_eq_false, D.pureL, D.pure, D.fitL, D.fit, fit_dPair, fit_ints, Bool.and_true, Bool.true_and, Bool.and_self, wo_none, nn_iff, imp_and', and_false, false_and, szOk_0, szOk_1, szOk_2, szOk_3, szOk_4, szOk_5, szOk_6, szOk_7, szOk_8, eqA_int, neA_int, eqA_str, neA_str, eqA_bl, neA_bl, Bool.not_eq_true', Bool.not_true, Bool.not_false, not_false_eq_true, tyOf, isT, String.reduceBEq, Bool.or_false, Bool.false_or, Bool.and_false, Bool.or_true, Bool.true_or, Bool.false_and, common_divisor_ok h]
  refine k1 _ _ ?_
  clear k1
  simp only [sAsg, sIf, sRet, sRetN, sNil, sPass, sSet, sExpr, sPar, sBrk, sCnt, dC, dVar, dOp, dUn, dIf, dCB, dCalP, dCalM, dMeth, dMeth0, dAnd, dOr, dNot, dIsi, aNil, aCons, asB, tbAnd, tbOr, tbNot, dChain, gN, gOf, nN, nT, nsCons, nsNil, dTup, dLst, dCell, wo_bnd, wo_some, wo_map, wo_bind, wo_if, bnd_mk, List.getElem?_cons_zero, List.getElem?_cons_succ, List.set_cons_zero, List.set_cons_succ, Option.map_some, Option.bind_some, gAdd, MS.gSub, gMul, gMod, gDiv, gLt, gLe, gGt, gGe, gI, gNeg, cInt, cI, cII, cAbs, cMax2, cMin2, decide_eq_true_eq, if_true, if_false, List.zip_cons_cons, List.zip_nil_right, List.foldl_cons, List.foldl_nil, List.length_cons, List.length_nil, Nat.zero_add, Nat.reduceAdd, Bool.false_eq_true, decide_true, decide_false, true_and, and_true, true_implies, implies_true, false_implies, not_true_eq_false, D.pureL, D.pure, D.fitL, D.fit, fit_dPair, fit_ints, Bool.and_true, Bool.true_and, Bool.and_self, wo_none, nn_iff, imp_and', and_false, false_and, szOk_0, szOk_1, szOk_2, szOk_3, szOk_4, szOk_5, szOk_6, szOk_7, szOk_8, eqA_int, neA_int, eqA_str, neA_str, eqA_bl, neA_bl, Bool.not_eq_true', Bool.not_true, Bool.not_false, not_false_eq_true, tyOf, isT, String.reduceBEq, Bool.or_false, Bool.false_or, Bool.and_false, Bool.or_true, Bool.true_or, Bool.false_and, g2]
  unfold low
  rw [← fdiv_pos g1, ← fdiv_pos g1, ← fdiv_pos g1, ← fdiv_pos g1]
  refine ⟨fun z => ?_, fun z => ?_⟩
  · rw [if_pos z]
    rfl
  · rw [if_neg z]
    rfl
theorem divided_ok {p q : Int} (hq : q ≠ 0) (h : q.natAbs < 10 ^ 60) : PG.F_n_law_divided [.int p, .int q] = some (dPair (low p q)) := by
  refine bodyP_run rfl rfl ?_
  obtain ⟨g1, g2⟩ := gcd_ok (p := p) hq h
  show Wo (PG.b_n_law_divided [some (.int p), some (.int q), none, none] []) _
  refine wo_seqN fun K k1 => ?_
  simp only [sAsg, sIf, sRet, sRetN, sNil, sPass, sSet, sExpr, sPar, sBrk, sCnt, dC, dVar, dOp, dUn, dIf, dCB, dCalP, dCalM, dMeth, dMeth0, dAnd, dOr, dNot, dIsi, aNil, aCons, asB, tbAnd, tbOr, tbNot, dChain, gN, gOf, nN, nT, nsCons, nsNil, dTup, dLst, dCell, wo_bnd, wo_some, wo_map, wo_bind, wo_if, bnd_mk, List.getElem?_cons_zero, List.getElem?_cons_succ, List.set_cons_zero, List.set_cons_succ, Option.map_some, Option.bind_some, gAdd, MS.gSub, gMul, gMod, gDiv, gLt, gLe, gGt, gGe, gI, gNeg, cInt, cI, cII, cAbs, cMax2, cMin2, decide_eq_true_eq, if_true, if_false, List.zip_cons_cons, List.zip_nil_right, List.foldl_cons, List.foldl_nil, List.length_cons, List.length_nil, Nat.zero_add, Nat.reduceAdd, Bool.false_eq_true, decide_true, decide_false, true_and, and_true, true_implies, implies_true, false_implies, not_true_eq_false, D.pureL, D.pure, D.fitL, D.fit, fit_dPair, fit_ints, Bool.and_true, Bool.true_and, Bool.and_self, wo_none, nn_iff, imp_and', and_false, false_and, szOk_0, szOk_1, szOk_2, szOk_3, szOk_4, szOk_5, szOk_6, szOk_7, szOk_8, eqA_int, neA_int, eqA_str, neA_str, eqA_bl, neA_bl, Bool.not_eq_true', Bool.not_true, Bool.not_false, not_false_eq_true, tyOf, isT, String.reduceBEq, Bool.or_false, Bool.false_or, Bool.and_false, Bool.or_true, Bool.true_or, Bool.false_and]
  refine k1 _ _ ?_
  clear k1
  refine wo_seqN fun K k1 => ?_
  refine gcd_w (env := fun x y => [some (.int p), some (.int q), some (.int x), some (.int y)]) (fun _ _ => rfl) (fun x y hy => ?_) (by split <;> omega) (by split <;> omega) (by split <;> omega) (k1 _ _ ?_)
  · have e : x.fmod y = x % y := fmod_pos hy
    rw [← e]
    have hne : y ≠ 0 := by omega
    unfold PG.w1b_n_law_divided sPar
    simp only [sAsg, sIf, sRet, sRetN, sNil, sPass, sSet, sExpr, sPar, sBrk, sCnt, dC, dVar, dOp, dUn, dIf, dCB, dCalP, dCalM, dMeth, dMeth0, dAnd, dOr, dNot, dIsi, aNil, aCons, asB, tbAnd, tbOr, tbNot, dChain, gN, gOf, nN, nT, nsCons, nsNil, dTup, dLst, dCell, wo_bnd, wo_some, wo_map, wo_bind, wo_if, bnd_mk, List.getElem?_cons_zero, List.getElem?_cons_succ, List.set_cons_zero, List.set_cons_succ, Option.map_some, Option.bind_some, gAdd, MS.gSub, gMul, gMod, gDiv, gLt, gLe, gGt, gGe, gI, gNeg, cInt, cI, cII, cAbs, cMax2, cMin2, decide_eq_true_eq, if_true, if_false, List.zip_cons_cons, List.zip_nil_right, List.foldl_cons, List.foldl_nil, List.length_cons, List.length_nil, Nat.zero_add, Nat.reduceAdd, Bool.false_eq_true, decide_true, decide_false, true_and, and_true, true_implies, implies_true, false_implies, not_true_eq_false, D.pureL, D.pure, D.fitL, D.fit, fit_dPair, fit_ints, Bool.and_true, Bool.true_and, Bool.and_self, wo_none, nn_iff, imp_and', and_false, false_and, szOk_0, szOk_1, szOk_2, szOk_3, szOk_4, szOk_5, szOk_6, szOk_7, szOk_8, eqA_int, neA_int, eqA_str, neA_str, eqA_bl, neA_bl, Bool.not_eq_true', Bool.not_true, Bool.not_false, not_false_eq_true, tyOf, isT, String.reduceBEq, Bool.or_false, Bool.false_or, Bool.and_false, Bool.or_true, Bool.true_or, Bool.false_and, ne_eq, hne, not_false_eq_true]
  · clear k1
    have e : Int.gcd (if 0 - p > p then 0 - p else p) (if 0 - q > q then 0 - q else q) = Int.gcd p q := by
      have z : ∀ x : Int, 0 - x = - x := fun x => by omega
      split <;> split <;> simp [z]
    rw [e]
    simp only [sAsg, sIf, sRet, sRetN, sNil, sPass, sSet, sExpr, sPar, sBrk, sCnt, dC, dVar, dOp, dUn, dIf, dCB, dCalP, dCalM, dMeth, dMeth0, dAnd, dOr, dNot, dIsi, aNil, aCons, asB, tbAnd, tbOr, tbNot, dChain, gN, gOf, nN, nT, nsCons, nsNil, dTup, dLst, dCell, wo_bnd, wo_some, wo_map, wo_bind, wo_if, bnd_mk, List.getElem?_cons_zero, List.getElem?_cons_succ, List.set_cons_zero, List.set_cons_succ, Option.map_some, Option.bind_some, gAdd, MS.gSub, gMul, gMod, gDiv, gLt, gLe, gGt, gGe, gI, gNeg, cInt, cI, cII, cAbs, cMax2, cMin2, decide_eq_true_eq, if_true, if_false, List.zip_cons_cons, List.zip_nil_right, List.foldl_cons, List.foldl_nil, List.length_cons, List.length_nil, Nat.zero_add, Nat.reduceAdd, Bool.false_eq_true, decide_true, decide_false, true_and, and_true, true_implies, implies_true, false_implies, not_true_eq_false, D.pureL, D.pure, D.fitL, D.fit, fit_dPair, fit_ints, Bool.and_true, Bool.true_and, Bool.and_self, wo_none, nn_iff, imp_and', and_false, false_and, szOk_0, szOk_1, szOk_2, szOk_3, szOk_4, szOk_5, szOk_6, szOk_7, szOk_8, eqA_int, neA_int, eqA_str, neA_str, eqA_bl, neA_bl, Bool.not_eq_true', Bool.not_true, Bool.not_false, not_false_eq_true, tyOf, isT, String.reduceBEq, Bool.or_false, Bool.false_or, Bool.and_false, Bool.or_true, Bool.true_or, Bool.false_and, g2]
    unfold low
    rw [← fdiv_pos g1, ← fdiv_pos g1, ← fdiv_pos g1, ← fdiv_pos g1, show -p = 0 - p by omega, show -q = 0 - q by omega]
    refine ⟨fun z => ?_, fun z => ?_⟩
    · rw [if_pos z]
      rfl
    · rw [if_neg z]
      rfl

/-! what a fraction in lowest terms is -/
theorem low_ok {p q : Int} (hq : q ≠ 0) : ∃ g : Int, 0 < g ∧ 0 < (low p q).2 ∧ ((0 < q ∧ p = (low p q).1 * g ∧ q = (low p q).2 * g) ∨ (q < 0 ∧ -p = (low p q).1 * g ∧ -q = (low p q).2 * g)) := by
  have h1 := Int.gcd_pos_of_ne_zero_right p hq
  have d1 := Int.gcd_dvd_left p q
  have d2 := Int.gcd_dvd_right p q
  have g0 : 0 < (Int.gcd p q : Int) := by omega
  refine ⟨Int.gcd p q, g0, ?_⟩
  unfold low
  by_cases h : 0 < q
  · rw [if_pos h]
    have e1 := Int.ediv_mul_cancel d1
    have e2 := Int.ediv_mul_cancel d2
    refine ⟨?_, .inl ⟨h, e1.symm, e2.symm⟩⟩
    exact Int.ediv_pos_of_pos_of_dvd h (by omega) d2
  · rw [if_neg h]
    have e1 := Int.ediv_mul_cancel (Int.dvd_neg.mpr d1)
    have e2 := Int.ediv_mul_cancel (Int.dvd_neg.mpr d2)
    refine ⟨?_, .inr ⟨by omega, e1.symm, e2.symm⟩⟩
    exact Int.ediv_pos_of_pos_of_dvd (by omega) (by omega) (Int.dvd_neg.mpr d2)
theorem nlInt {a b c : Int} (h : a ≤ b) (hc : 0 ≤ c) : a * c ≤ b * c := Int.mul_le_mul_of_nonneg_right h hc
/-- .. is not larger -/
theorem low_le {p q : Int} (hq : q ≠ 0) : (low p q).2 ≤ q.natAbs ∧ (low p q).1.natAbs ≤ p.natAbs := by
  obtain ⟨g, h1, h2, h3⟩ := low_ok (p := p) hq
  have k : ∀ {x y : Int}, x = y * g → y.natAbs ≤ x.natAbs := fun {x y} e => by
    rw [e, Int.natAbs_mul]
    exact Nat.le_mul_of_pos_right _ (by omega)
  rcases h3 with ⟨h4, h5, h6⟩ | ⟨h4, h5, h6⟩
  · have := k h5
    have := k h6
    omega
  · have := k h5
    have := k h6
    omega
end MS

/-! whole roots, whole numbers near fractions -/
namespace MS
open PySem PySem.Spec PyProof.Rows L2
theorem mulOk_k {i j : Int} (k : Nat) (hk : k ≤ 500000) (hk0 : 0 < k) (h : i.natAbs < 2 ^ k) (h' : j.natAbs < 2 ^ k) : mulOk i j = true := by
  unfold mulOk
  have h1 := log2_of hk0 h
  have h2 := log2_of hk0 h'
  rw [decide_eq_true (show i.natAbs.log2 + j.natAbs.log2 < 1000000 by omega)]
  simp
theorem whole_root_ok {n : Int} (h0 : 0 ≤ n) (h : n < 10 ^ 50) : ∃ r : Int, PG.F_whole_root [.int n] = some (.int r) ∧ 0 ≤ r ∧ r * r ≤ n ∧ n < (r + 1) * (r + 1) := by
  suffices core : Wo (PG.b_whole_root [some (.int n), none, none, none] []) fun z => ∃ r : Int, z.1 = .rt (.int r) ∧ 0 ≤ r ∧ r * r ≤ n ∧ n < (r + 1) * (r + 1) by
    obtain ⟨⟨o, ρ', S'⟩, e, r, rfl, h1, h2, h3⟩ := core
    exact ⟨r, bodyP_run rfl rfl ⟨_, e, rfl⟩, h1, h2, h3⟩
  have p1 : (10 : Int) ^ 50 < 2 ^ 168 := by decide
  have p2 : (2 : Nat) ^ 200 = 2 ^ 168 * 2 ^ 32 := by decide
  have p4 : (2 : Int) ^ 168 = ((2 ^ 168 : Nat) : Int) := by decide
  have p3 : (10 : Nat) ^ 60 > 2 ^ 180 := by decide
  have p5 : (2 : Nat) ^ 180 = 2 ^ 168 * 2 ^ 12 := by decide
  have big : ∀ x : Int, 0 ≤ x → x ≤ 2 * n + 1 → x.natAbs < 2 ^ 200 := fun x a b => by
    rw [p2]
    generalize (2 : Nat) ^ 168 = t at *
    generalize (10 : Int) ^ 50 = u at *
    omega
  refine wo_seqN fun K k1 => ?_
  simp only [sAsg, sIf, sRet, sRetN, sNil, sPass, sSet, sExpr, sPar, sBrk, sCnt, dC, dVar, dOp, dUn, dIf, dCB, dCalP, dCalM, dMeth, dMeth0, dAnd, dOr, dNot, dIsi, aNil, aCons, asB, tbAnd, tbOr, tbNot, dChain, gN, gOf, nN, nT, nsCons, nsNil, dTup, dLst, dCell, wo_bnd, wo_some, wo_map, wo_bind, wo_if, bnd_mk, List.getElem?_cons_zero, List.getElem?_cons_succ, List.set_cons_zero, List.set_cons_succ, Option.map_some, Option.bind_some, gAdd, MS.gSub, gMul, gMod, gDiv, gLt, gLe, gGt, gGe, gI, gNeg, cInt, cI, cII, cAbs, cMax2, cMin2, decide_eq_true_eq, if_true, if_false, List.zip_cons_cons, List.zip_nil_right, List.foldl_cons, List.foldl_nil, List.length_cons, List.length_nil, Nat.zero_add, Nat.reduceAdd, Bool.false_eq_true, decide_true, decide_false, true_and, and_true, true_implies, implies_true, false_implies, not_true_eq_false, D.pureL, D.pure, D.fitL, D.fit, fit_dPair, fit_ints, Bool.and_true, Bool.true_and, Bool.and_self, wo_none, nn_iff, imp_and', and_false, false_and, szOk_0, szOk_1, szOk_2, szOk_3, szOk_4, szOk_5, szOk_6, szOk_7, szOk_8, eqA_int, neA_int, eqA_str, neA_str, eqA_bl, neA_bl, Bool.not_eq_true', Bool.not_true, Bool.not_false, not_false_eq_true, tyOf, isT, String.reduceBEq, Bool.or_false, Bool.false_or, Bool.and_false, Bool.or_true, Bool.true_or, Bool.false_and]
  refine k1 _ _ ?_
  clear k1
  refine wo_mid (fun ρ' S' => S' = [] ∧ ∃ x : Int, ρ' = [some (.int n), some (.int 0), some (.int x), none] ∧ 1 ≤ x ∧ x ≤ 2 * n + 1 ∧ n < x * x) ?_ ?_
  · refine wo_while (fun m ρ' S' => S' = [] ∧ ∃ x : Int, ρ' = [some (.int n), some (.int 0), some (.int x), none] ∧ 1 ≤ x ∧ x ≤ 2 * n + 1 ∧ m = (2 * n + 1 - x).toNat) (m := (2 * n + 1 - 1).toNat) ⟨rfl, 1, rfl, by omega, by omega, rfl⟩ ?_ ?_
    · show _ < 10 ^ 60
      generalize (2 : Nat) ^ 168 = t at *
      generalize (10 : Int) ^ 50 = u at *
      omega
    · rintro m ρ' S' ⟨rfl, x, rfl, h1, h2, rfl⟩
      have m1 : mulOk x x = true := mulOk_k 200 (by decide) (by decide) (big x (by omega) h2) (big x (by omega) h2)
      have m2 : mulOk 2 x = true := mulOk_l (by decide)
      unfold PG.w1c_whole_root
      simp only [sAsg, sIf, sRet, sRetN, sNil, sPass, sSet, sExpr, sPar, sBrk, sCnt, dC, dVar, dOp, dUn, dIf, dCB, dCalP, dCalM, dMeth, dMeth0, dAnd, dOr, dNot, dIsi, aNil, aCons, asB, tbAnd, tbOr, tbNot, dChain, gN, gOf, nN, nT, nsCons, nsNil, dTup, dLst, dCell, wo_bnd, wo_some, wo_map, wo_bind, wo_if, bnd_mk, List.getElem?_cons_zero, List.getElem?_cons_succ, List.set_cons_zero, List.set_cons_succ, Option.map_some, Option.bind_some, gAdd, MS.gSub, gMul, gMod, gDiv, gLt, gLe, gGt, gGe, gI, gNeg, cInt, cI, cII, cAbs, cMax2, cMin2, decide_eq_true_eq, if_true, if_false, List.zip_cons_cons, List.zip_nil_right, List.foldl_cons, List.foldl_nil, List.length_cons, List.length_nil, Nat.zero_add, Nat.reduceAdd, Bool.false_eq_true, decide_true, decide_false, true_and, and_true, true_implies, implies_true, false_implies, not_true_eq_false, D.pureL, D.pure, D.fitL, D.fit, fit_dPair, fit_ints, Bool.and_true, Bool.true_and, Bool.and_self, wo_none, nn_iff, imp_and', and_false, false_and, szOk_0, szOk_1, szOk_2, szOk_3, szOk_4, szOk_5, szOk_6, szOk_7, szOk_8, eqA_int, neA_int, eqA_str, neA_str, eqA_bl, neA_bl, Bool.not_eq_true', Bool.not_true, Bool.not_false, not_false_eq_true, tyOf, isT, String.reduceBEq, Bool.or_false, Bool.false_or, Bool.and_false, Bool.or_true, Bool.true_or, Bool.false_and, m1]
      refine ⟨fun z => ?_, fun z => ?_⟩
      · have z : x * x ≤ n := z
        have z2 : x * 1 ≤ x * x := Int.mul_le_mul_of_nonneg_left h1 (by omega)
        unfold PG.w1b_whole_root
        simp only [sAsg, sIf, sRet, sRetN, sNil, sPass, sSet, sExpr, sPar, sBrk, sCnt, dC, dVar, dOp, dUn, dIf, dCB, dCalP, dCalM, dMeth, dMeth0, dAnd, dOr, dNot, dIsi, aNil, aCons, asB, tbAnd, tbOr, tbNot, dChain, gN, gOf, nN, nT, nsCons, nsNil, dTup, dLst, dCell, wo_bnd, wo_some, wo_map, wo_bind, wo_if, bnd_mk, List.getElem?_cons_zero, List.getElem?_cons_succ, List.set_cons_zero, List.set_cons_succ, Option.map_some, Option.bind_some, gAdd, MS.gSub, gMul, gMod, gDiv, gLt, gLe, gGt, gGe, gI, gNeg, cInt, cI, cII, cAbs, cMax2, cMin2, decide_eq_true_eq, if_true, if_false, List.zip_cons_cons, List.zip_nil_right, List.foldl_cons, List.foldl_nil, List.length_cons, List.length_nil, Nat.zero_add, Nat.reduceAdd, Bool.false_eq_true, decide_true, decide_false, true_and, and_true, true_implies, implies_true, false_implies, not_true_eq_false, D.pureL, D.pure, D.fitL, D.fit, fit_dPair, fit_ints, Bool.and_true, Bool.true_and, Bool.and_self, wo_none, nn_iff, imp_and', and_false, false_and, szOk_0, szOk_1, szOk_2, szOk_3, szOk_4, szOk_5, szOk_6, szOk_7, szOk_8, eqA_int, neA_int, eqA_str, neA_str, eqA_bl, neA_bl, Bool.not_eq_true', Bool.not_true, Bool.not_false, not_false_eq_true, tyOf, isT, String.reduceBEq, Bool.or_false, Bool.false_or, Bool.and_false, Bool.or_true, Bool.true_or, Bool.false_and, m2]
        exact ⟨_, by omega, 2 * x, rfl, by omega, by omega, rfl⟩
      · have z : ¬ x * x ≤ n := of_decide_eq_false z
        exact ⟨x, rfl, h1, h2, by omega⟩
  · rintro ρ' S' ⟨rfl, x, rfl, h1, h2, h3⟩
    refine wo_mid (fun ρ' S' => S' = [] ∧ ∃ (lo hi : Int) (md : Option D), ρ' = [some (.int n), some (.int lo), some (.int hi), md] ∧ 0 ≤ lo ∧ hi = lo + 1 ∧ lo * lo ≤ n ∧ n < hi * hi) ?_ ?_
    · refine wo_while (fun m ρ' S' => S' = [] ∧ ∃ (lo hi : Int) (md : Option D), ρ' = [some (.int n), some (.int lo), some (.int hi), md] ∧ 0 ≤ lo ∧ lo < hi ∧ hi ≤ 2 * n + 1 ∧ lo * lo ≤ n ∧ n < hi * hi ∧ m = (hi - lo).toNat) (m := (x - 0).toNat) ⟨rfl, 0, x, none, rfl, by omega, by omega, h2, by omega, h3, rfl⟩ ?_ ?_
      · show _ < 10 ^ 60
        generalize (2 : Nat) ^ 168 = t at *
        generalize (10 : Int) ^ 50 = u at *
        omega
      · rintro m ρ' S' ⟨rfl, lo, hi, md, rfl, a1, a2, a3, a4, a5, rfl⟩
        have dv : divOk 2 = true := divOk_of (by decide) (by decide)
        unfold PG.w2c_whole_root
        simp only [sAsg, sIf, sRet, sRetN, sNil, sPass, sSet, sExpr, sPar, sBrk, sCnt, dC, dVar, dOp, dUn, dIf, dCB, dCalP, dCalM, dMeth, dMeth0, dAnd, dOr, dNot, dIsi, aNil, aCons, asB, tbAnd, tbOr, tbNot, dChain, gN, gOf, nN, nT, nsCons, nsNil, dTup, dLst, dCell, wo_bnd, wo_some, wo_map, wo_bind, wo_if, bnd_mk, List.getElem?_cons_zero, List.getElem?_cons_succ, List.set_cons_zero, List.set_cons_succ, Option.map_some, Option.bind_some, gAdd, MS.gSub, gMul, gMod, gDiv, gLt, gLe, gGt, gGe, gI, gNeg, cInt, cI, cII, cAbs, cMax2, cMin2, decide_eq_true_eq, if_true, if_false, List.zip_cons_cons, List.zip_nil_right, List.foldl_cons, List.foldl_nil, List.length_cons, List.length_nil, Nat.zero_add, Nat.reduceAdd, Bool.false_eq_true, decide_true, decide_false, true_and, and_true, true_implies, implies_true, false_implies, not_true_eq_false, D.pureL, D.pure, D.fitL, D.fit, fit_dPair, fit_ints, Bool.and_true, Bool.true_and, Bool.and_self, wo_none, nn_iff, imp_and', and_false, false_and, szOk_0, szOk_1, szOk_2, szOk_3, szOk_4, szOk_5, szOk_6, szOk_7, szOk_8, eqA_int, neA_int, eqA_str, neA_str, eqA_bl, neA_bl, Bool.not_eq_true', Bool.not_true, Bool.not_false, not_false_eq_true, tyOf, isT, String.reduceBEq, Bool.or_false, Bool.false_or, Bool.and_false, Bool.or_true, Bool.true_or, Bool.false_and]
        refine ⟨fun z => ?_, fun z => ?_⟩
        · unfold PG.w2b_whole_root
          refine wo_seqN fun K k1 => ?_
          simp only [sAsg, sIf, sRet, sRetN, sNil, sPass, sSet, sExpr, sPar, sBrk, sCnt, dC, dVar, dOp, dUn, dIf, dCB, dCalP, dCalM, dMeth, dMeth0, dAnd, dOr, dNot, dIsi, aNil, aCons, asB, tbAnd, tbOr, tbNot, dChain, gN, gOf, nN, nT, nsCons, nsNil, dTup, dLst, dCell, wo_bnd, wo_some, wo_map, wo_bind, wo_if, bnd_mk, List.getElem?_cons_zero, List.getElem?_cons_succ, List.set_cons_zero, List.set_cons_succ, Option.map_some, Option.bind_some, gAdd, MS.gSub, gMul, gMod, gDiv, gLt, gLe, gGt, gGe, gI, gNeg, cInt, cI, cII, cAbs, cMax2, cMin2, decide_eq_true_eq, if_true, if_false, List.zip_cons_cons, List.zip_nil_right, List.foldl_cons, List.foldl_nil, List.length_cons, List.length_nil, Nat.zero_add, Nat.reduceAdd, Bool.false_eq_true, decide_true, decide_false, true_and, and_true, true_implies, implies_true, false_implies, not_true_eq_false, D.pureL, D.pure, D.fitL, D.fit, fit_dPair, fit_ints, Bool.and_true, Bool.true_and, Bool.and_self, wo_none, nn_iff, imp_and', and_false, false_and, szOk_0, szOk_1, szOk_2, szOk_3, szOk_4, szOk_5, szOk_6, szOk_7, szOk_8, eqA_int, neA_int, eqA_str, neA_str, eqA_bl, neA_bl, Bool.not_eq_true', Bool.not_true, Bool.not_false, not_false_eq_true, tyOf, isT, String.reduceBEq, Bool.or_false, Bool.false_or, Bool.and_false, Bool.or_true, Bool.true_or, Bool.false_and, dv]
          refine k1 _ _ ?_
          clear k1
          rw [fdiv_pos (by decide)]
          generalize hmd : (lo + hi) / 2 = mi
          have m1 : mulOk mi mi = true := mulOk_k 200 (by decide) (by decide) (big mi (by omega) (by omega)) (big mi (by omega) (by omega))
          simp only [sAsg, sIf, sRet, sRetN, sNil, sPass, sSet, sExpr, sPar, sBrk, sCnt, dC, dVar, dOp, dUn, dIf, dCB, dCalP, dCalM, dMeth, dMeth0, dAnd, dOr, dNot, dIsi, aNil, aCons, asB, tbAnd, tbOr, tbNot, dChain, gN, gOf, nN, nT, nsCons, nsNil, dTup, dLst, dCell, wo_bnd, wo_some, wo_map, wo_bind, wo_if, bnd_mk, List.getElem?_cons_zero, List.getElem?_cons_succ, List.set_cons_zero, List.set_cons_succ, Option.map_some, Option.bind_some, gAdd, MS.gSub, gMul, gMod, gDiv, gLt, gLe, gGt, gGe, gI, gNeg, cInt, cI, cII, cAbs, cMax2, cMin2, decide_eq_true_eq, if_true, if_false, List.zip_cons_cons, List.zip_nil_right, List.foldl_cons, List.foldl_nil, List.length_cons, List.length_nil, Nat.zero_add, Nat.reduceAdd, Bool.false_eq_true, decide_true, decide_false, true_and, and_true, true_implies, implies_true, false_implies, not_true_eq_false, D.pureL, D.pure, D.fitL, D.fit, fit_dPair, fit_ints, Bool.and_true, Bool.true_and, Bool.and_self, wo_none, nn_iff, imp_and', and_false, false_and, szOk_0, szOk_1, szOk_2, szOk_3, szOk_4, szOk_5, szOk_6, szOk_7, szOk_8, eqA_int, neA_int, eqA_str, neA_str, eqA_bl, neA_bl, Bool.not_eq_true', Bool.not_true, Bool.not_false, not_false_eq_true, tyOf, isT, String.reduceBEq, Bool.or_false, Bool.false_or, Bool.and_false, Bool.or_true, Bool.true_or, Bool.false_and, m1]
          refine ⟨fun z => ⟨_, by omega, mi, hi, some (.int mi), rfl, by omega, by omega, by omega, z, a5, rfl⟩, fun z => ⟨_, by omega, lo, mi, some (.int mi), rfl, by omega, by omega, by omega, a4, by omega, rfl⟩⟩
        · have z : ¬ 1 < hi - lo := of_decide_eq_false z
          exact ⟨lo, hi, md, rfl, a1, by omega, a4, a5⟩
    · rintro ρ' S' ⟨rfl, lo, hi, md, rfl, a1, rfl, a3, a4⟩
      simp only [sAsg, sIf, sRet, sRetN, sNil, sPass, sSet, sExpr, sPar, sBrk, sCnt, dC, dVar, dOp, dUn, dIf, dCB, dCalP, dCalM, dMeth, dMeth0, dAnd, dOr, dNot, dIsi, aNil, aCons, asB, tbAnd, tbOr, tbNot, dChain, gN, gOf, nN, nT, nsCons, nsNil, dTup, dLst, dCell, wo_bnd, wo_some, wo_map, wo_bind, wo_if, bnd_mk, List.getElem?_cons_zero, List.getElem?_cons_succ, List.set_cons_zero, List.set_cons_succ, Option.map_some, Option.bind_some, gAdd, MS.gSub, gMul, gMod, gDiv, gLt, gLe, gGt, gGe, gI, gNeg, cInt, cI, cII, cAbs, cMax2, cMin2, decide_eq_true_eq, if_true, if_false, List.zip_cons_cons, List.zip_nil_right, List.foldl_cons, List.foldl_nil, List.length_cons, List.length_nil, Nat.zero_add, Nat.reduceAdd, Bool.false_eq_true, decide_true, decide_false, true_and, and_true, true_implies, implies_true, false_implies, not_true_eq_false, D.pureL, D.pure, D.fitL, D.fit, fit_dPair, fit_ints, Bool.and_true, Bool.true_and, Bool.and_self, wo_none, nn_iff, imp_and', and_false, false_and, szOk_0, szOk_1, szOk_2, szOk_3, szOk_4, szOk_5, szOk_6, szOk_7, szOk_8, eqA_int, neA_int, eqA_str, neA_str, eqA_bl, neA_bl, Bool.not_eq_true', Bool.not_true, Bool.not_false, not_false_eq_true, tyOf, isT, String.reduceBEq, Bool.or_false, Bool.false_or, Bool.and_false, Bool.or_true, Bool.true_or, Bool.false_and]
      exact ⟨lo, rfl, a1, a3, a4⟩
end MS

namespace MS
open PySem PySem.Spec PyProof.Rows L2
theorem ix0 {x y : D} {S : Sto} : gIx (.tup [x, y]) (.int 0) S = some (x, S) := rfl
theorem ix1 {x y : D} {S : Sto} : gIx (.tup [x, y]) (.int 1) S = some (y, S) := rfl
theorem floor_ok {a b : Int} (h : 0 < b) (h2 : b.natAbs < 2 ^ 250) : PG.F_floor_of [dPair (a, b)] = some (.int (a / b)) := by
  refine bodyP_run rfl rfl ?_
  show Wo (PG.b_floor_of [some (dPair (a, b))] []) _
  unfold PG.b_floor_of dPair
  have dv : divOk b = true := divOk_k 250 (by decide) (by omega) h2
  simp only [sAsg, sIf, sRet, sRetN, sNil, sPass, sSet, sExpr, sPar, sBrk, sCnt, dC, dVar, dOp, dUn, dIf, dCB, dCalP, dCalM, dMeth, dMeth0, dAnd, dOr, dNot, dIsi, aNil, aCons, asB, tbAnd, tbOr, tbNot, dChain, gN, gOf, nN, nT, nsCons, nsNil, dTup, dLst, dCell, wo_bnd, wo_some, wo_map, wo_bind, wo_if, bnd_mk, List.getElem?_cons_zero, List.getElem?_cons_succ, List.set_cons_zero, List.set_cons_succ, Option.map_some, Option.bind_some, gAdd, MS.gSub, gMul, gMod, gDiv, gLt, gLe, gGt, gGe, gI, gNeg, cInt, cI, cII, cAbs, cMax2, cMin2, decide_eq_true_eq, if_true, if_false, List.zip_cons_cons, List.zip_nil_right, List.foldl_cons, List.foldl_nil, List.length_cons, List.length_nil, Nat.zero_add, Nat.reduceAdd, Bool.false_eq_true, decide_true, decide_false, true_and, and_true, true_implies, implies_true, false_implies, not_true_eq_false, D.pureL, D.pure, D.fitL, D.fit, fit_dPair, fit_ints, Bool.and_true, Bool.true_and, Bool.and_self, wo_none, nn_iff, imp_and', and_false, false_and, szOk_0, szOk_1, szOk_2, szOk_3, szOk_4, szOk_5, szOk_6, szOk_7, szOk_8, eqA_int, neA_int, eqA_str, neA_str, eqA_bl, neA_bl, Bool.not_eq_true', Bool.not_true, Bool.not_false, not_false_eq_true, tyOf, isT, String.reduceBEq, Bool.or_false, Bool.false_or, Bool.and_false, Bool.or_true, Bool.true_or, Bool.false_and, ix0, ix1, dv, fdiv_pos h]
theorem ceiling_ok {a b : Int} (h : 0 < b) (h2 : b.natAbs < 2 ^ 250) : PG.F_ceiling_of [dPair (a, b)] = some (.int (-(-a / b))) := by
  refine bodyP_run rfl rfl ?_
  show Wo (PG.b_ceiling_of [some (dPair (a, b))] []) _
  unfold PG.b_ceiling_of dPair
  have dv : divOk b = true := divOk_k 250 (by decide) (by omega) h2
  simp only [sAsg, sIf, sRet, sRetN, sNil, sPass, sSet, sExpr, sPar, sBrk, sCnt, dC, dVar, dOp, dUn, dIf, dCB, dCalP, dCalM, dMeth, dMeth0, dAnd, dOr, dNot, dIsi, aNil, aCons, asB, tbAnd, tbOr, tbNot, dChain, gN, gOf, nN, nT, nsCons, nsNil, dTup, dLst, dCell, wo_bnd, wo_some, wo_map, wo_bind, wo_if, bnd_mk, List.getElem?_cons_zero, List.getElem?_cons_succ, List.set_cons_zero, List.set_cons_succ, Option.map_some, Option.bind_some, gAdd, MS.gSub, gMul, gMod, gDiv, gLt, gLe, gGt, gGe, gI, gNeg, cInt, cI, cII, cAbs, cMax2, cMin2, decide_eq_true_eq, if_true, if_false, List.zip_cons_cons, List.zip_nil_right, List.foldl_cons, List.foldl_nil, List.length_cons, List.length_nil, Nat.zero_add, Nat.reduceAdd, Bool.false_eq_true, decide_true, decide_false, true_and, and_true, true_implies, implies_true, false_implies, not_true_eq_false, D.pureL, D.pure, D.fitL, D.fit, fit_dPair, fit_ints, Bool.and_true, Bool.true_and, Bool.and_self, wo_none, nn_iff, imp_and', and_false, false_and, szOk_0, szOk_1, szOk_2, szOk_3, szOk_4, szOk_5, szOk_6, szOk_7, szOk_8, eqA_int, neA_int, eqA_str, neA_str, eqA_bl, neA_bl, Bool.not_eq_true', Bool.not_true, Bool.not_false, not_false_eq_true, tyOf, isT, String.reduceBEq, Bool.or_false, Bool.false_or, Bool.and_false, Bool.or_true, Bool.true_or, Bool.false_and, ix0, ix1, dv, fdiv_pos h]
def near (a b : Int) : Int := -((b - 2 * a) / (2 * b))
theorem nearest_ok {a b : Int} (h : 0 < b) (h2 : b.natAbs < 2 ^ 250) : PG.F_nearest_of [dPair (a, b)] = some (.int (near a b)) := by
  refine bodyP_run rfl rfl ?_
  show Wo (PG.b_nearest_of [some (dPair (a, b)), none, none] []) _
  unfold PG.b_nearest_of dPair near
  have p : (2 : Nat) ^ 251 = 2 ^ 250 * 2 := by decide
  have dv : divOk (2 * b) = true := divOk_k 251 (by decide) (by omega) (by rw [p]; generalize (2 : Nat) ^ 250 = t at *; omega)
  have m1 : mulOk 2 a = true := mulOk_l (by decide)
  have m2 : mulOk 2 b = true := mulOk_l (by decide)
  refine wo_seqN fun K k1 => ?_
  simp only [sAsg, sIf, sRet, sRetN, sNil, sPass, sSet, sExpr, sPar, sBrk, sCnt, dC, dVar, dOp, dUn, dIf, dCB, dCalP, dCalM, dMeth, dMeth0, dAnd, dOr, dNot, dIsi, aNil, aCons, asB, tbAnd, tbOr, tbNot, dChain, gN, gOf, nN, nT, nsCons, nsNil, dTup, dLst, dCell, wo_bnd, wo_some, wo_map, wo_bind, wo_if, bnd_mk, List.getElem?_cons_zero, List.getElem?_cons_succ, List.set_cons_zero, List.set_cons_succ, Option.map_some, Option.bind_some, gAdd, MS.gSub, gMul, gMod, gDiv, gLt, gLe, gGt, gGe, gI, gNeg, cInt, cI, cII, cAbs, cMax2, cMin2, decide_eq_true_eq, if_true, if_false, List.zip_cons_cons, List.zip_nil_right, List.foldl_cons, List.foldl_nil, List.length_cons, List.length_nil, Nat.zero_add, Nat.reduceAdd, Bool.false_eq_true, decide_true, decide_false, true_and, and_true, true_implies, implies_true, false_implies, not_true_eq_false, D.pureL, D.pure, D.fitL, D.fit, fit_dPair, fit_ints, Bool.and_true, Bool.true_and, Bool.and_self, wo_none, nn_iff, imp_and', and_false, false_and, szOk_0, szOk_1, szOk_2, szOk_3, szOk_4, szOk_5, szOk_6, szOk_7, szOk_8, eqA_int, neA_int, eqA_str, neA_str, eqA_bl, neA_bl, Bool.not_eq_true', Bool.not_true, Bool.not_false, not_false_eq_true, tyOf, isT, String.reduceBEq, Bool.or_false, Bool.false_or, Bool.and_false, Bool.or_true, Bool.true_or, Bool.false_and]
  refine k1 _ _ ?_
  simp only [sAsg, sIf, sRet, sRetN, sNil, sPass, sSet, sExpr, sPar, sBrk, sCnt, dC, dVar, dOp, dUn, dIf, dCB, dCalP, dCalM, dMeth, dMeth0, dAnd, dOr, dNot, dIsi, aNil, aCons, asB, tbAnd, tbOr, tbNot, dChain, gN, gOf, nN, nT, nsCons, nsNil, dTup, dLst, dCell, wo_bnd, wo_some, wo_map, wo_bind, wo_if, bnd_mk, List.getElem?_cons_zero, List.getElem?_cons_succ, List.set_cons_zero, List.set_cons_succ, Option.map_some, Option.bind_some, gAdd, MS.gSub, gMul, gMod, gDiv, gLt, gLe, gGt, gGe, gI, gNeg, cInt, cI, cII, cAbs, cMax2, cMin2, decide_eq_true_eq, if_true, if_false, List.zip_cons_cons, List.zip_nil_right, List.foldl_cons, List.foldl_nil, List.length_cons, List.length_nil, Nat.zero_add, Nat.reduceAdd, Bool.false_eq_true, decide_true, decide_false, true_and, and_true, true_implies, implies_true, false_implies, not_true_eq_false, D.pureL, D.pure, D.fitL, D.fit, fit_dPair, fit_ints, Bool.and_true, Bool.true_and, Bool.and_self, wo_none, nn_iff, imp_and', and_false, false_and, szOk_0, szOk_1, szOk_2, szOk_3, szOk_4, szOk_5, szOk_6, szOk_7, szOk_8, eqA_int, neA_int, eqA_str, neA_str, eqA_bl, neA_bl, Bool.not_eq_true', Bool.not_true, Bool.not_false, not_false_eq_true, tyOf, isT, String.reduceBEq, Bool.or_false, Bool.false_or, Bool.and_false, Bool.or_true, Bool.true_or, Bool.false_and, dv, m1, m2, fdiv_pos (show 0 < 2 * b by omega)]
theorem at_most_ok {a b c d : Int} (h1 : mulOk a d = true) (h2 : mulOk c b = true) : PG.F_is_at_most [dPair (a, b), dPair (c, d)] = some (.bl (decide (a * d ≤ c * b))) := by
  refine bodyP_run rfl rfl ?_
  show Wo (PG.b_is_at_most [some (dPair (a, b)), some (dPair (c, d))] []) _
  unfold PG.b_is_at_most dPair
  simp only [sAsg, sIf, sRet, sRetN, sNil, sPass, sSet, sExpr, sPar, sBrk, sCnt, dC, dVar, dOp, dUn, dIf, dCB, dCalP, dCalM, dMeth, dMeth0, dAnd, dOr, dNot, dIsi, aNil, aCons, asB, tbAnd, tbOr, tbNot, dChain, gN, gOf, nN, nT, nsCons, nsNil, dTup, dLst, dCell, wo_bnd, wo_some, wo_map, wo_bind, wo_if, bnd_mk, List.getElem?_cons_zero, List.getElem?_cons_succ, List.set_cons_zero, List.set_cons_succ, Option.map_some, Option.bind_some, gAdd, MS.gSub, gMul, gMod, gDiv, gLt, gLe, gGt, gGe, gI, gNeg, cInt, cI, cII, cAbs, cMax2, cMin2, decide_eq_true_eq, if_true, if_false, List.zip_cons_cons, List.zip_nil_right, List.foldl_cons, List.foldl_nil, List.length_cons, List.length_nil, Nat.zero_add, Nat.reduceAdd, Bool.false_eq_true, decide_true, decide_false, true_and, and_true, true_implies, implies_true, false_implies, not_true_eq_false, D.pureL, D.pure, D.fitL, D.fit, fit_dPair, fit_ints, Bool.and_true, Bool.true_and, Bool.and_self, wo_none, nn_iff, imp_and', and_false, false_and, szOk_0, szOk_1, szOk_2, szOk_3, szOk_4, szOk_5, szOk_6, szOk_7, szOk_8, eqA_int, neA_int, eqA_str, neA_str, eqA_bl, neA_bl, Bool.not_eq_true', Bool.not_true, Bool.not_false, not_false_eq_true, tyOf, isT, String.reduceBEq, Bool.or_false, Bool.false_or, Bool.and_false, Bool.or_true, Bool.true_or, Bool.false_and, ix0, ix1, h1, h2]
theorem added_ok {a b c d : Int} (h1 : mulOk a d = true) (h2 : mulOk c b = true) (h3 : mulOk b d = true) (hq : b * d ≠ 0) (hs : (b * d).natAbs < 10 ^ 60) : PG.F_fractions_added [dPair (a, b), dPair (c, d)] = some (dPair (low (a * d + c * b) (b * d))) := by
  refine bodyP_run rfl rfl ?_
  show Wo (PG.b_fractions_added [some (dPair (a, b)), some (dPair (c, d))] []) _
  unfold PG.b_fractions_added dPair
  simp only [sAsg, sIf, sRet, sRetN, sNil, sPass, sSet, sExpr, sPar, sBrk, sCnt, dC, dVar, dOp, dUn, dIf, dCB, dCalP, dCalM, dMeth, dMeth0, dAnd, dOr, dNot, dIsi, aNil, aCons, asB, tbAnd, tbOr, tbNot, dChain, gN, gOf, nN, nT, nsCons, nsNil, dTup, dLst, dCell, wo_bnd, wo_some, wo_map, wo_bind, wo_if, bnd_mk, List.getElem?_cons_zero, List.getElem?_cons_succ, List.set_cons_zero, List.set_cons_succ, Option.map_some, Option.bind_some, gAdd, MS.gSub, gMul, gMod, gDiv, gLt, gLe, gGt, gGe, gI, gNeg, cInt, cI, cII, cAbs, cMax2, cMin2, decide_eq_true_eq, if_true, if_false, List.zip_cons_cons, List.zip_nil_right, List.foldl_cons, List.foldl_nil, List.length_cons, List.length_nil, Nat.zero_add, Nat.reduceAdd, Bool.false_eq_true, decide_true, decide_false, true_and, and_true, true_implies, implies_true, false_implies, not_true_eq_false, D.pureL, D.pure, D.fitL, D.fit, fit_dPair, fit_ints, Bool.and_true, Bool.true_and, Bool.and_self, wo_none, nn_iff, imp_and', and_false, false_and, szOk_0, szOk_1, szOk_2, szOk_3, szOk_4, szOk_5, szOk_6, szOk_7, szOk_8, eqA_int, neA_int, eqA_str, neA_str, eqA_bl, neA_bl, Bool.not_eq_true', Bool.not_true, Bool.not_false, not_false_eq_true, tyOf, isT, String.reduceBEq, Bool.or_false, Bool.false_or, Bool.and_false, Bool.or_true, Bool.true_or, Bool.false_and, ix0, ix1, h1, h2, h3, lowest_of_ok hq hs]
  try rfl
theorem far_ok {a b x : Int} (hb : b ≠ 0) (hs : b.natAbs < 10 ^ 60) (h1 : mulOk x b = true) : PG.F_far_of [dPair (a, b), .int x] = some (dPair (absI (low (x * b - a) b).1, (low (x * b - a) b).2)) := by
  refine bodyP_run rfl rfl ?_
  show Wo (PG.b_far_of [some (dPair (a, b)), some (.int x), none, none] []) _
  unfold PG.b_far_of
  refine wo_seqN fun K k1 => ?_
  unfold dPair
  simp only [sAsg, sIf, sRet, sRetN, sNil, sPass, sSet, sExpr, sPar, sBrk, sCnt, dC, dVar, dOp, dUn, dIf, dCB, dCalP, dCalM, dMeth, dMeth0, dAnd, dOr, dNot, dIsi, aNil, aCons, asB, tbAnd, tbOr, tbNot, dChain, gN, gOf, nN, nT, nsCons, nsNil, dTup, dLst, dCell, wo_bnd, wo_some, wo_map, wo_bind, wo_if, bnd_mk, List.getElem?_cons_zero, List.getElem?_cons_succ, List.set_cons_zero, List.set_cons_succ, Option.map_some, Option.bind_some, gAdd, MS.gSub, gMul, gMod, gDiv, gLt, gLe, gGt, gGe, gI, gNeg, cInt, cI, cII, cAbs, cMax2, cMin2, decide_eq_true_eq, if_true, if_false, List.zip_cons_cons, List.zip_nil_right, List.foldl_cons, List.foldl_nil, List.length_cons, List.length_nil, Nat.zero_add, Nat.reduceAdd, Bool.false_eq_true, decide_true, decide_false, true_and, and_true, true_implies, implies_true, false_implies, not_true_eq_false, D.pureL, D.pure, D.fitL, D.fit, fit_dPair, fit_ints, Bool.and_true, Bool.true_and, Bool.and_self, wo_none, nn_iff, imp_and', and_false, false_and, szOk_0, szOk_1, szOk_2, szOk_3, szOk_4, szOk_5, szOk_6, szOk_7, szOk_8, eqA_int, neA_int, eqA_str, neA_str, eqA_bl, neA_bl, Bool.not_eq_true', Bool.not_true, Bool.not_false, not_false_eq_true, tyOf, isT, String.reduceBEq, Bool.or_false, Bool.false_or, Bool.and_false, Bool.or_true, Bool.true_or, Bool.false_and, ix0, ix1, h1, lowest_of_ok hb hs]
  unfold dPair
  simp only [sAsg, sIf, sRet, sRetN, sNil, sPass, sSet, sExpr, sPar, sBrk, sCnt, dC, dVar, dOp, dUn, dIf, dCB, dCalP, dCalM, dMeth, dMeth0, dAnd, dOr, dNot, dIsi, aNil, aCons, asB, tbAnd, tbOr, tbNot, dChain, gN, gOf, nN, nT, nsCons, nsNil, dTup, dLst, dCell, wo_bnd, wo_some, wo_map, wo_bind, wo_if, bnd_mk, List.getElem?_cons_zero, List.getElem?_cons_succ, List.set_cons_zero, List.set_cons_succ, Option.map_some, Option.bind_some, gAdd, MS.gSub, gMul, gMod, gDiv, gLt, gLe, gGt, gGe, gI, gNeg, cInt, cI, cII, cAbs, cMax2, cMin2, decide_eq_true_eq, if_true, if_false, List.zip_cons_cons, List.zip_nil_right, List.foldl_cons, List.foldl_nil, List.length_cons, List.length_nil, Nat.zero_add, Nat.reduceAdd, Bool.false_eq_true, decide_true, decide_false, true_and, and_true, true_implies, implies_true, false_implies, not_true_eq_false, D.pureL, D.pure, D.fitL, D.fit, fit_dPair, fit_ints, Bool.and_true, Bool.true_and, Bool.and_self, wo_none, nn_iff, imp_and', and_false, false_and, szOk_0, szOk_1, szOk_2, szOk_3, szOk_4, szOk_5, szOk_6, szOk_7, szOk_8, eqA_int, neA_int, eqA_str, neA_str, eqA_bl, neA_bl, Bool.not_eq_true', Bool.not_true, Bool.not_false, not_false_eq_true, tyOf, isT, String.reduceBEq, Bool.or_false, Bool.false_or, Bool.and_false, Bool.or_true, Bool.true_or, Bool.false_and]
  refine k1 _ _ ?_
  simp only [sAsg, sIf, sRet, sRetN, sNil, sPass, sSet, sExpr, sPar, sBrk, sCnt, dC, dVar, dOp, dUn, dIf, dCB, dCalP, dCalM, dMeth, dMeth0, dAnd, dOr, dNot, dIsi, aNil, aCons, asB, tbAnd, tbOr, tbNot, dChain, gN, gOf, nN, nT, nsCons, nsNil, dTup, dLst, dCell, wo_bnd, wo_some, wo_map, wo_bind, wo_if, bnd_mk, List.getElem?_cons_zero, List.getElem?_cons_succ, List.set_cons_zero, List.set_cons_succ, Option.map_some, Option.bind_some, gAdd, MS.gSub, gMul, gMod, gDiv, gLt, gLe, gGt, gGe, gI, gNeg, cInt, cI, cII, cAbs, cMax2, cMin2, decide_eq_true_eq, if_true, if_false, List.zip_cons_cons, List.zip_nil_right, List.foldl_cons, List.foldl_nil, List.length_cons, List.length_nil, Nat.zero_add, Nat.reduceAdd, Bool.false_eq_true, decide_true, decide_false, true_and, and_true, true_implies, implies_true, false_implies, not_true_eq_false, D.pureL, D.pure, D.fitL, D.fit, fit_dPair, fit_ints, Bool.and_true, Bool.true_and, Bool.and_self, wo_none, nn_iff, imp_and', and_false, false_and, szOk_0, szOk_1, szOk_2, szOk_3, szOk_4, szOk_5, szOk_6, szOk_7, szOk_8, eqA_int, neA_int, eqA_str, neA_str, eqA_bl, neA_bl, Bool.not_eq_true', Bool.not_true, Bool.not_false, not_false_eq_true, tyOf, isT, String.reduceBEq, Bool.or_false, Bool.false_or, Bool.and_false, Bool.or_true, Bool.true_or, Bool.false_and]
  try rfl
end MS

namespace MS
open PySem PySem.Spec PyProof.Rows L2
theorem cut_take {ds : List D} {k : Nat} : cutD ds none (some (k : Int)) = ds.take k := by
  unfold cutD
  rw [HT.sIx_none, HT.sIx_nat, List.drop_zero, Nat.sub_zero]
  rw [Nat.min_def]
  split
  · rfl
  · rw [List.take_length, List.take_of_length_le (by omega)]
/-- how far x is from a/b, times b -/
def dist (a b x : Int) : Int := absI (x * b - a)
def kd (a b x : Int) : Int × Int := (dist a b x, x)
theorem leP_trans {x y z : Int × Int} (h1 : leP x y = true) (h2 : leP y z = true) : leP x z = true := by
  rw [leP_iff] at *
  omega
section
variable {a b : Int}
theorem near_ok (hb : 0 < b) : (2 * near a b - 1) * b < 2 * a ∧ 2 * a ≤ (2 * near a b + 1) * b := by
  have e := Int.emod_add_mul_ediv (b - 2 * a) (2 * b)
  have h1 := Int.emod_nonneg (b - 2 * a) (show 2 * b ≠ 0 by omega)
  have h2 := Int.emod_lt_of_pos (b - 2 * a) (show 0 < 2 * b by omega)
  unfold near
  generalize (b - 2 * a) / (2 * b) = q at *
  generalize (b - 2 * a) % (2 * b) = r at *
  have e1 : 2 * b * q = 2 * (q * b) := by rw [Int.mul_assoc, Int.mul_comm b q]
  have e2 : (2 * -q - 1) * b = - (2 * (q * b)) - b := by rw [Int.sub_mul, Int.mul_assoc, Int.neg_mul, Int.one_mul]; omega
  have e3 : (2 * -q + 1) * b = - (2 * (q * b)) + b := by rw [Int.add_mul, Int.mul_assoc, Int.neg_mul, Int.one_mul]; omega
  rw [e1] at e
  rw [e2, e3]
  generalize q * b = t at *
  omega
/-- below and above the nearest -/
theorem dist_down (hb : 0 < b) {x : Int} (h : x < near a b) : dist a b x = a - x * b ∧ b < 2 * (a - x * b) := by
  obtain ⟨h1, h2⟩ := near_ok (a := a) hb
  have h3 : x * b ≤ (near a b - 1) * b := Int.mul_le_mul_of_nonneg_right (by omega) (by omega)
  have e2 : (2 * near a b - 1) * b = 2 * (near a b * b) - b := by rw [Int.sub_mul, Int.mul_assoc, Int.one_mul]
  have e3 : (near a b - 1) * b = near a b * b - b := by rw [Int.sub_mul, Int.one_mul]
  unfold dist absI
  generalize near a b * b = t at *
  generalize x * b = u at *
  split <;> omega
theorem dist_up (hb : 0 < b) {x : Int} (h : near a b < x) : dist a b x = x * b - a ∧ b ≤ 2 * (x * b - a) := by
  obtain ⟨h1, h2⟩ := near_ok (a := a) hb
  have h3 : (near a b + 1) * b ≤ x * b := Int.mul_le_mul_of_nonneg_right (by omega) (by omega)
  have e2 : (2 * near a b + 1) * b = 2 * (near a b * b) + b := by rw [Int.add_mul, Int.mul_assoc, Int.one_mul]
  have e3 : (near a b + 1) * b = near a b * b + b := by rw [Int.add_mul, Int.one_mul]
  unfold dist absI
  generalize near a b * b = t at *
  generalize x * b = u at *
  split <;> omega
theorem dist_near (hb : 0 < b) : 2 * dist a b (near a b) ≤ b := by
  obtain ⟨h1, h2⟩ := near_ok (a := a) hb
  have e2 : (2 * near a b + 1) * b = 2 * (near a b * b) + b := by rw [Int.add_mul, Int.mul_assoc, Int.one_mul]
  have e3 : (2 * near a b - 1) * b = 2 * (near a b * b) - b := by rw [Int.sub_mul, Int.mul_assoc, Int.one_mul]
  unfold dist absI
  generalize near a b * b = t at *
  split <;> omega
theorem down_le (hb : 0 < b) {x y : Int} (h : x ≤ y) (hy : y < near a b) : leP (kd a b y) (kd a b x) = true := by
  rw [leP_iff]
  show dist a b y < dist a b x ∨ (dist a b y = dist a b x ∧ y ≤ x)
  rw [(dist_down hb hy).1, (dist_down hb (show x < near a b by omega)).1]
  by_cases e : x = y
  · subst e
    exact .inr ⟨rfl, by omega⟩
  · have : x * b ≤ (y - 1) * b := Int.mul_le_mul_of_nonneg_right (by omega) (by omega)
    rw [Int.sub_mul, Int.one_mul] at this
    omega
theorem up_le (hb : 0 < b) {x y : Int} (h : y ≤ x) (hy : near a b < y) : leP (kd a b y) (kd a b x) = true := by
  rw [leP_iff]
  show dist a b y < dist a b x ∨ (dist a b y = dist a b x ∧ y ≤ x)
  rw [(dist_up hb hy).1, (dist_up hb (show near a b < x by omega)).1]
  by_cases e : x = y
  · subst e
    exact .inr ⟨rfl, by omega⟩
  · have : (y + 1) * b ≤ x * b := Int.mul_le_mul_of_nonneg_right (by omega) (by omega)
    rw [Int.add_mul, Int.one_mul] at this
    omega
theorem near_le (hb : 0 < b) {x : Int} : leP (kd a b (near a b)) (kd a b x) = true := by
  rw [leP_iff]
  show dist a b (near a b) < dist a b x ∨ (dist a b (near a b) = dist a b x ∧ near a b ≤ x)
  have h0 := dist_near (a := a) hb
  rcases Int.lt_trichotomy x (near a b) with h | h | h
  · obtain ⟨h1, h2⟩ := dist_down hb h
    omega
  · rw [h]
    exact .inr ⟨rfl, by omega⟩
  · obtain ⟨h1, h2⟩ := dist_up hb h
    omega
/-- the two ways of comparing -/
theorem far_le (hb : 0 < b) {x y : Int} : absI (low x b).1 * (low y b).2 ≤ absI (low y b).1 * (low x b).2 ↔ absI x ≤ absI y := by
  obtain ⟨g, g0, g1, g2⟩ := low_ok (p := x) (q := b) (by omega)
  obtain ⟨k, k0, k1, k2⟩ := low_ok (p := y) (q := b) (by omega)
  obtain ⟨_, g4, g3⟩ := g2.resolve_right (fun z => by omega)
  obtain ⟨_, k4, k3⟩ := k2.resolve_right (fun z => by omega)
  clear g2 k2
  generalize (low x b).1 = p1 at *
  generalize (low x b).2 = q1 at *
  generalize (low y b).1 = p2 at *
  generalize (low y b).2 = q2 at *
  have ax : absI x = absI p1 * g := by rw [absI_eq, absI_eq, g4, Int.natAbs_mul]; rw [Int.natCast_mul]; rw [show ((g.natAbs : Nat) : Int) = g by omega]
  have ay : absI y = absI p2 * k := by rw [absI_eq, absI_eq, k4, Int.natAbs_mul]; rw [Int.natCast_mul]; rw [show ((k.natAbs : Nat) : Int) = k by omega]
  rw [ax, ay]
  generalize absI p1 = u
  generalize absI p2 = v
  have m : 0 < q1 * k := Int.mul_pos g1 k0
  have e : u * q2 * (g * k) = u * g * b := by rw [k3]; grind
  have e' : v * q1 * (g * k) = v * k * b := by rw [g3]; grind
  have gk : 0 < g * k := Int.mul_pos g0 k0
  constructor
  · intro h
    have h2 := Int.mul_le_mul_of_nonneg_right h (Int.le_of_lt gk)
    rw [e, e'] at h2
    exact Int.le_of_mul_le_mul_right h2 hb
  · intro h
    have h2 := Int.mul_le_mul_of_nonneg_right h (Int.le_of_lt hb)
    rw [← e, ← e'] at h2
    exact Int.le_of_mul_le_mul_right h2 gk
end
/-- the first of a sorted window -/
theorem take_isort {f : Int → Int × Int} {W L : List Int} (nW : W.Nodup) (nL : L.Nodup) (sub : ∀ x ∈ L, x ∈ W) (hs : (L.map f).Pairwise fun p q => leP p q = true) (hr : ∀ l ∈ L, ∀ r ∈ W, r ∉ L → leP (f l) (f r) = true) : (isort leP (W.map f)).take L.length = L.map f := by
  have p1 : (W.filter (fun x => decide (x ∈ L)) ++ W.filter (fun x => !decide (x ∈ L))).Perm W := List.filter_append_perm _ _
  have p2 : (W.filter (fun x => decide (x ∈ L))).Perm L := (List.perm_ext_iff_of_nodup (nW.filter _) nL).mpr fun x => by
    rw [List.mem_filter]
    exact ⟨fun h => of_decide_eq_true h.2, fun h => ⟨sub x h, decide_eq_true h⟩⟩
  generalize hR : W.filter (fun x => !decide (x ∈ L)) = R at *
  have p3 : (L ++ R).Perm W := (p2.symm.append_right R).trans p1
  have tot : ∀ p q : Int × Int, leP p q = true ∨ leP q p = true := fun p q => by simp only [leP_iff]; omega
  have tr : ∀ p q r : Int × Int, leP p q = true → leP q r = true → leP p r = true := fun p q r => leP_trans
  have key : L.map f ++ isort leP (R.map f) = isort leP (W.map f) := by
    refine sortP_eq ?_ ?_
    · exact (((isort_perm leP (R.map f)).append_left (L.map f)).trans (by rw [← List.map_append])).trans (p3.map f)
    · refine List.pairwise_append.mpr ⟨hs, isort_pw tot tr _, fun p hp q hq => ?_⟩
      obtain ⟨l, hl, rfl⟩ := List.mem_map.mp hp
      obtain ⟨r, hr', rfl⟩ := List.mem_map.mp ((isort_perm leP (R.map f)).mem_iff.mp hq)
      rw [← hR, List.mem_filter] at hr'
      exact hr l hl r hr'.1 (by simpa using hr'.2)
  rw [← key]
  have : (L.map f).length = L.length := List.length_map ..
  rw [← this, List.take_left]
/-- what outward_numbers has found -/
structure Outw (a b : Int) (L : List Int) (lo hi : Int) : Prop where
  hlo : lo < near a b
  hhi : near a b < hi
  mem : ∀ x, x ∈ L ↔ lo < x ∧ x < hi
  nd : L.Nodup
  srt : (L.map (kd a b)).Pairwise fun p q => leP p q = true
  below : ∀ l ∈ L, leP (kd a b l) (kd a b lo) = true
  above : ∀ l ∈ L, leP (kd a b l) (kd a b hi) = true
  len : hi - lo - 1 = L.length
section
variable {a b lo hi : Int} {L : List Int}
theorem Outw.start (hb : 0 < b) : Outw a b [near a b] (near a b - 1) (near a b + 1) where
  hlo := by omega
  hhi := by omega
  mem x := by rw [List.mem_singleton]; omega
  nd := by simp
  srt := by simp
  below l hl := by rw [List.mem_singleton.mp hl]; exact near_le hb
  above l hl := by rw [List.mem_singleton.mp hl]; exact near_le hb
  len := by simp; omega
theorem pw_snoc {L : List Int} {x : Int} {f : Int → Int × Int} (h : (L.map f).Pairwise fun p q => leP p q = true) (hx : ∀ l ∈ L, leP (f l) (f x) = true) : ((L ++ [x]).map f).Pairwise fun p q => leP p q = true := by
  rw [List.map_append]
  refine List.pairwise_append.mpr ⟨h, List.pairwise_singleton _ _, fun p hp q hq => ?_⟩
  obtain ⟨l, hl, rfl⟩ := List.mem_map.mp hp
  rw [List.map_cons, List.map_nil, List.mem_singleton] at hq
  rw [hq]
  exact hx l hl
theorem nd_snoc {L : List Int} {x : Int} (h : L.Nodup) (hx : x ∉ L) : (L ++ [x]).Nodup := by
  refine List.nodup_append.mpr ⟨h, by simp, fun p hp q hq => ?_⟩
  rw [List.mem_singleton] at hq
  subst hq
  exact fun e => hx (e ▸ hp)
theorem Outw.down (hb : 0 < b) (h : Outw a b L lo hi) (hd : dist a b lo ≤ dist a b hi) : Outw a b (L ++ [lo]) (lo - 1) hi where
  hlo := by have := h.hlo; omega
  hhi := h.hhi
  mem x := by
    have := h.hlo
    have := h.hhi
    rw [List.mem_append, List.mem_singleton, h.mem]
    omega
  nd := nd_snoc h.nd (by rw [h.mem]; omega)
  srt := pw_snoc h.srt h.below
  below l hl := by
    have z : leP (kd a b lo) (kd a b (lo - 1)) = true := down_le hb (by omega) h.hlo
    rcases List.mem_append.mp hl with hl | hl
    · exact leP_trans (h.below l hl) z
    · rw [List.mem_singleton.mp hl]; exact z
  above l hl := by
    rcases List.mem_append.mp hl with hl | hl
    · exact h.above l hl
    · rw [List.mem_singleton.mp hl, leP_iff]
      have := h.hlo
      have := h.hhi
      show dist a b lo < dist a b hi ∨ (dist a b lo = dist a b hi ∧ lo ≤ hi)
      omega
  len := by
    have := h.len
    rw [List.length_append, List.length_singleton]
    omega
theorem Outw.up (hb : 0 < b) (h : Outw a b L lo hi) (hd : ¬ dist a b lo ≤ dist a b hi) : Outw a b (L ++ [hi]) lo (hi + 1) where
  hlo := h.hlo
  hhi := by have := h.hhi; omega
  mem x := by
    have := h.hlo
    have := h.hhi
    rw [List.mem_append, List.mem_singleton, h.mem]
    omega
  nd := nd_snoc h.nd (by rw [h.mem]; omega)
  srt := pw_snoc h.srt h.above
  above l hl := by
    have z : leP (kd a b hi) (kd a b (hi + 1)) = true := up_le hb (by omega) h.hhi
    rcases List.mem_append.mp hl with hl | hl
    · exact leP_trans (h.above l hl) z
    · rw [List.mem_singleton.mp hl]; exact z
  below l hl := by
    rcases List.mem_append.mp hl with hl | hl
    · exact h.below l hl
    · rw [List.mem_singleton.mp hl, leP_iff]
      show dist a b hi < dist a b lo ∨ _
      omega
  len := by
    have := h.len
    rw [List.length_append, List.length_singleton]
    omega
theorem Outw.take (hb : 0 < b) (h : Outw a b L lo hi) {W : List Int} (nW : W.Nodup) (sub : ∀ x, lo < x → x < hi → x ∈ W) : (isort leP (W.map (kd a b))).take L.length = L.map (kd a b) := by
  refine take_isort nW h.nd (fun x hx => ?_) h.srt fun l hl r hr hn => ?_
  · have := (h.mem x).mp hx
    exact sub x this.1 this.2
  · rw [h.mem] at hn
    by_cases e : r ≤ lo
    · exact leP_trans (h.below l hl) (down_le hb e h.hlo)
    · exact leP_trans (h.above l hl) (up_le hb (by omega) h.hhi)
end
theorem outward_ok {a b many : Int} (hb : 0 < b) (hs : b < 2 ^ 60) (hm : 1 ≤ many) (hm2 : many ≤ 1000) : ∃ L lo hi, PG.F_outward_numbers [dPair (a, b), .int many] = some (.tup (L.map D.int)) ∧ Outw a b L lo hi ∧ (L.length : Int) = many := by
  suffices core : Wo (PG.b_outward_numbers [some (dPair (a, b)), some (.int many), none, none, none, none] []) fun z => ∃ L lo hi, z.1 = .rt (.tup (L.map D.int)) ∧ Outw a b L lo hi ∧ (L.length : Int) = many by
    obtain ⟨⟨o, ρ', S'⟩, e, L, lo, hi, rfl, h1, h2⟩ := core
    exact ⟨L, lo, hi, bodyP_run rfl (fitL_ints 0 L) ⟨_, e, rfl⟩, h1, h2⟩
  have hs60 : (2 : Int) ^ 60 < 10 ^ 60 := by decide
  have p60 : (2 : Int) ^ 60 < ((2 ^ 64 : Nat) : Int) := by decide
  have b64 : b.natAbs < 2 ^ 64 := by omega
  have b250 : b.natAbs < 2 ^ 250 := Nat.lt_trans b64 (by decide)
  have b10 : b.natAbs < 10 ^ 60 := Nat.lt_trans b64 (by decide)
  refine wo_seqN fun K k1 => ?_
  simp only [sAsg, sIf, sRet, sRetN, sNil, sPass, sSet, sExpr, sPar, sBrk, sCnt, dC, dVar, dOp, dUn, dIf, dCB, dCalP, dCalM, dMeth, dMeth0, dAnd, dOr, dNot, dIsi, aNil, aCons, asB, tbAnd, tbOr, tbNot, dChain, gN, gOf, nN, nT, nsCons, nsNil, dTup, dLst, dCell, wo_bnd, wo_some, wo_map, wo_bind, wo_if, bnd_mk, List.getElem?_cons_zero, List.getElem?_cons_succ, List.set_cons_zero, List.set_cons_succ, Option.map_some, Option.bind_some, gAdd, MS.gSub, gMul, gMod, gDiv, gLt, gLe, gGt, gGe, gI, gNeg, cInt, cI, cII, cAbs, cMax2, cMin2, decide_eq_true_eq, if_true, if_false, List.zip_cons_cons, List.zip_nil_right, List.foldl_cons, List.foldl_nil, List.length_cons, List.length_nil, Nat.zero_add, Nat.reduceAdd, Bool.false_eq_true, decide_true, decide_false, true_and, and_true, true_implies, implies_true, false_implies, not_true_eq_false, D.pureL, D.pure, D.fitL, D.fit, fit_dPair, fit_ints, Bool.and_true, Bool.true_and, Bool.and_self, wo_none, nn_iff, imp_and', and_false, false_and, szOk_0, szOk_1, szOk_2, szOk_3, szOk_4, szOk_5, szOk_6, szOk_7, szOk_8, eqA_int, neA_int, eqA_str, neA_str, eqA_bl, neA_bl, Bool.not_eq_true', Bool.not_true, Bool.not_false, not_false_eq_true, tyOf, isT, String.reduceBEq, Bool.or_false, Bool.false_or, Bool.and_false, Bool.or_true, Bool.true_or, Bool.false_and, nearest_ok hb b250]
  refine k1 _ _ ?_
  clear k1
  refine wo_seqN fun K k1 => ?_
  simp only [sAsg, sIf, sRet, sRetN, sNil, sPass, sSet, sExpr, sPar, sBrk, sCnt, dC, dVar, dOp, dUn, dIf, dCB, dCalP, dCalM, dMeth, dMeth0, dAnd, dOr, dNot, dIsi, aNil, aCons, asB, tbAnd, tbOr, tbNot, dChain, gN, gOf, nN, nT, nsCons, nsNil, dTup, dLst, dCell, wo_bnd, wo_some, wo_map, wo_bind, wo_if, bnd_mk, List.getElem?_cons_zero, List.getElem?_cons_succ, List.set_cons_zero, List.set_cons_succ, Option.map_some, Option.bind_some, gAdd, MS.gSub, gMul, gMod, gDiv, gLt, gLe, gGt, gGe, gI, gNeg, cInt, cI, cII, cAbs, cMax2, cMin2, decide_eq_true_eq, if_true, if_false, List.zip_cons_cons, List.zip_nil_right, List.foldl_cons, List.foldl_nil, List.length_cons, List.length_nil, Nat.zero_add, Nat.reduceAdd, Bool.false_eq_true, decide_true, decide_false, true_and, and_true, true_implies, implies_true, false_implies, not_true_eq_false, D.pureL, D.pure, D.fitL, D.fit, fit_dPair, fit_ints, Bool.and_true, Bool.true_and, Bool.and_self, wo_none, nn_iff, imp_and', and_false, false_and, szOk_0, szOk_1, szOk_2, szOk_3, szOk_4, szOk_5, szOk_6, szOk_7, szOk_8, eqA_int, neA_int, eqA_str, neA_str, eqA_bl, neA_bl, Bool.not_eq_true', Bool.not_true, Bool.not_false, not_false_eq_true, tyOf, isT, String.reduceBEq, Bool.or_false, Bool.false_or, Bool.and_false, Bool.or_true, Bool.true_or, Bool.false_and]
  refine k1 _ _ ?_
  clear k1
  refine wo_mid (fun ρ' S' => ∃ L lo hi, ρ' = [some (dPair (a, b)), some (.int many), some (.int (near a b)), some (.ref 0), some (.int lo), some (.int hi)] ∧ S' = [.lst (L.map D.int)] ∧ Outw a b L lo hi ∧ (L.length : Int) = many) ?_ ?_
  · refine wo_while (fun m ρ' S' => ∃ L lo hi, ρ' = [some (dPair (a, b)), some (.int many), some (.int (near a b)), some (.ref 0), some (.int lo), some (.int hi)] ∧ S' = [.lst (L.map D.int)] ∧ Outw a b L lo hi ∧ (L.length : Int) ≤ many ∧ m = (many - L.length).toNat) ⟨[near a b], near a b - 1, near a b + 1, rfl, rfl, .start hb, hm, rfl⟩ (by omega) ?_
    rintro m ρ' S' ⟨L, lo, hi, rfl, rfl, hO, hl, rfl⟩
    have hlen : cLen [.ref 0] [.lst (L.map D.int)] = some (.int L.length, [.lst (L.map D.int)]) := by
      unfold cLen
      simp only [List.getElem?_cons_zero, List.length_map]
    have mb : ∀ x : Int, mulOk x b = true := fun x => mulOk_r b64
    have lb := (low_le (p := lo * b - a) (q := b) (by omega)).1
    have lb' := (low_le (p := hi * b - a) (q := b) (by omega)).1
    have at1 := at_most_ok (a := absI (low (lo * b - a) b).1) (b := (low (lo * b - a) b).2) (c := absI (low (hi * b - a) b).1) (d := (low (hi * b - a) b).2) (mulOk_r (by have := (low_ok (p := hi * b - a) (q := b) (by omega)); obtain ⟨g, g0, g1, _⟩ := this; omega)) (mulOk_r (by have := (low_ok (p := lo * b - a) (q := b) (by omega)); obtain ⟨g, g0, g1, _⟩ := this; omega))
    have app : ∀ x : Int, gAppend (.ref 0) [.int x] [.lst (L.map D.int)] = some (.non, [.lst ((L ++ [x]).map D.int)]) := fun x => by
      unfold gAppend
      simp only [List.getElem?_cons_zero]
      rw [if_pos ⟨by rw [List.length_map, sizeLine_eq]; omega, rfl⟩, List.map_append]
      rfl
    have hL : isL [.lst (L.map D.int)] (.ref 0) = true := rfl
    unfold PG.w1c_outward_numbers
    simp only [sAsg, sIf, sRet, sRetN, sNil, sPass, sSet, sExpr, sPar, sBrk, sCnt, dC, dVar, dOp, dUn, dIf, dCB, dCalP, dCalM, dMeth, dMeth0, dAnd, dOr, dNot, dIsi, aNil, aCons, asB, tbAnd, tbOr, tbNot, dChain, gN, gOf, nN, nT, nsCons, nsNil, dTup, dLst, dCell, wo_bnd, wo_some, wo_map, wo_bind, wo_if, bnd_mk, List.getElem?_cons_zero, List.getElem?_cons_succ, List.set_cons_zero, List.set_cons_succ, Option.map_some, Option.bind_some, gAdd, MS.gSub, gMul, gMod, gDiv, gLt, gLe, gGt, gGe, gI, gNeg, cInt, cI, cII, cAbs, cMax2, cMin2, decide_eq_true_eq, if_true, if_false, List.zip_cons_cons, List.zip_nil_right, List.foldl_cons, List.foldl_nil, List.length_cons, List.length_nil, Nat.zero_add, Nat.reduceAdd, Bool.false_eq_true, decide_true, decide_false, true_and, and_true, true_implies, implies_true, false_implies, not_true_eq_false, D.pureL, D.pure, D.fitL, D.fit, fit_dPair, fit_ints, Bool.and_true, Bool.true_and, Bool.and_self, wo_none, nn_iff, imp_and', and_false, false_and, szOk_0, szOk_1, szOk_2, szOk_3, szOk_4, szOk_5, szOk_6, szOk_7, szOk_8, eqA_int, neA_int, eqA_str, neA_str, eqA_bl, neA_bl, Bool.not_eq_true', Bool.not_true, Bool.not_false, not_false_eq_true, tyOf, isT, String.reduceBEq, Bool.or_false, Bool.false_or, Bool.and_false, Bool.or_true, Bool.true_or, Bool.false_and, hlen]
    refine ⟨fun z => ?_, fun z => ?_⟩
    · unfold PG.w1b_outward_numbers
      simp only [sAsg, sIf, sRet, sRetN, sNil, sPass, sSet, sExpr, sPar, sBrk, sCnt, dC, dVar, dOp, dUn, dIf, dCB, dCalP, dCalM, dMeth, dMeth0, dAnd, dOr, dNot, dIsi, aNil, aCons, asB, tbAnd, tbOr, tbNot, dChain, gN, gOf, nN, nT, nsCons, nsNil, dTup, dLst, dCell, wo_bnd, wo_some, wo_map, wo_bind, wo_if, bnd_mk, List.getElem?_cons_zero, List.getElem?_cons_succ, List.set_cons_zero, List.set_cons_succ, Option.map_some, Option.bind_some, gAdd, MS.gSub, gMul, gMod, gDiv, gLt, gLe, gGt, gGe, gI, gNeg, cInt, cI, cII, cAbs, cMax2, cMin2, decide_eq_true_eq, if_true, if_false, List.zip_cons_cons, List.zip_nil_right, List.foldl_cons, List.foldl_nil, List.length_cons, List.length_nil, Nat.zero_add, Nat.reduceAdd, Bool.false_eq_true, decide_true, decide_false, true_and, and_true, true_implies, implies_true, false_implies, not_true_eq_false, D.pureL, D.pure, D.fitL, D.fit, fit_dPair, fit_ints, Bool.and_true, Bool.true_and, Bool.and_self, wo_none, nn_iff, imp_and', and_false, false_and, szOk_0, szOk_1, szOk_2, szOk_3, szOk_4, szOk_5, szOk_6, szOk_7, szOk_8, eqA_int, neA_int, eqA_str, neA_str, eqA_bl, neA_bl, Bool.not_eq_true', Bool.not_true, Bool.not_false, not_false_eq_true, tyOf, isT, String.reduceBEq, Bool.or_false, Bool.false_or, Bool.and_false, Bool.or_true, Bool.true_or, Bool.false_and, wo_seq, far_ok (a := a) (x := lo) (show b ≠ 0 by omega) b10 (mb lo), far_ok (a := a) (x := hi) (show b ≠ 0 by omega) b10 (mb hi), at1, hL, app]
      rw [far_le hb]
      have e1 : ∀ x : Int, ((L ++ [x]).length : Int) = L.length + 1 := fun x => by rw [List.length_append]; rfl
      exact ⟨fun q => ⟨(many - (L.length + 1)).toNat, by omega, L ++ [lo], lo - 1, hi, rfl, rfl, hO.down hb q, by rw [e1]; omega, by rw [e1]⟩, fun q => ⟨(many - (L.length + 1)).toNat, by omega, L ++ [hi], lo, hi + 1, rfl, rfl, hO.up hb q, by rw [e1]; omega, by rw [e1]⟩⟩
    · have z : ¬ (L.length : Int) < many := of_decide_eq_false z
      exact ⟨L, lo, hi, rfl, rfl, hO, by omega⟩
  · rintro ρ' S' ⟨L, lo, hi, rfl, rfl, hO, hl⟩
    have hc : cutD (L.map D.int) none (some many) = L.map D.int := by
      rw [← hl, cut_take, List.take_of_length_le (by rw [List.length_map]; exact Nat.le_refl _)]
    unfold dSl pNo pAt gSl
    simp only [sAsg, sIf, sRet, sRetN, sNil, sPass, sSet, sExpr, sPar, sBrk, sCnt, dC, dVar, dOp, dUn, dIf, dCB, dCalP, dCalM, dMeth, dMeth0, dAnd, dOr, dNot, dIsi, aNil, aCons, asB, tbAnd, tbOr, tbNot, dChain, gN, gOf, nN, nT, nsCons, nsNil, dTup, dLst, dCell, wo_bnd, wo_some, wo_map, wo_bind, wo_if, bnd_mk, List.getElem?_cons_zero, List.getElem?_cons_succ, List.set_cons_zero, List.set_cons_succ, Option.map_some, Option.bind_some, gAdd, MS.gSub, gMul, gMod, gDiv, gLt, gLe, gGt, gGe, gI, gNeg, cInt, cI, cII, cAbs, cMax2, cMin2, decide_eq_true_eq, if_true, if_false, List.zip_cons_cons, List.zip_nil_right, List.foldl_cons, List.foldl_nil, List.length_cons, List.length_nil, Nat.zero_add, Nat.reduceAdd, Bool.false_eq_true, decide_true, decide_false, true_and, and_true, true_implies, implies_true, false_implies, not_true_eq_false, D.pureL, D.pure, D.fitL, D.fit, fit_dPair, fit_ints, Bool.and_true, Bool.true_and, Bool.and_self, wo_none, nn_iff, imp_and', and_false, false_and, szOk_0, szOk_1, szOk_2, szOk_3, szOk_4, szOk_5, szOk_6, szOk_7, szOk_8, eqA_int, neA_int, eqA_str, neA_str, eqA_bl, neA_bl, Bool.not_eq_true', Bool.not_true, Bool.not_false, not_false_eq_true, tyOf, isT, String.reduceBEq, Bool.or_false, Bool.false_or, Bool.and_false, Bool.or_true, Bool.true_or, Bool.false_and, listOf, hc, cTuple]
    exact ⟨L, lo, hi, rfl, hO, hl⟩
end MS

/-! the checks of a law, statement by statement -/
namespace MS
open PySem PySem.Spec PyProof.Rows L2
variable {ρ ρ' : Env} {S S' : Sto}
theorem wo_step {f g : SDen} {Q : Out × Env × Sto → Prop} (h : f ρ S = some (.nx, ρ', S')) (h2 : Wo (g ρ' S') Q) : Wo (sSeq f g ρ S) Q := wo_seq.mpr (wo_of h h2)
theorem call1 {c : CDen} {f : EDen} {d r : D} (h : f ρ S = some (d, S)) (hc : c [d] S = some (r, S)) : dCB c (aCons f (aNil)) ρ S = some (r, S) := by
  unfold dCB aCons aNil
  rw [h]
  simp only [bnd_mk, hc]
theorem cal1 {F : FP} {f : EDen} {d r : D} (h : f ρ S = some (d, S)) (hp : D.pure d = true) (hF : F [d] = some r) : dCalP F (aCons f (aNil)) ρ S = some (r, S) := by
  have hp' : D.pureL [d] = true := by
    show (D.pure d && true) = true
    rw [hp]
    rfl
  unfold dCalP aCons aNil
  rw [h]
  simp only [bnd_mk, hp', if_true, hF, Option.map_some]
theorem cal2 {F : FP} {f g : EDen} {d e r : D} (h : f ρ S = some (d, S)) (h' : g ρ S = some (e, S)) (hp : D.pure d = true) (hp' : D.pure e = true) (hF : F [d, e] = some r) : dCalP F (aCons f (aCons g (aNil))) ρ S = some (r, S) := by
  have q : D.pureL [d, e] = true := by
    show (D.pure d && (D.pure e && true)) = true
    rw [hp, hp']
    rfl
  unfold dCalP aCons aNil
  rw [h]
  simp only [bnd_mk, h', q, if_true, hF, Option.map_some]
theorem cal3 {F : FP} {f g k : EDen} {d e i r : D} (h : f ρ S = some (d, S)) (h' : g ρ S = some (e, S)) (h'' : k ρ S = some (i, S)) (hp : D.pure d = true) (hp' : D.pure e = true) (hp'' : D.pure i = true) (hF : F [d, e, i] = some r) : dCalP F (aCons f (aCons g (aCons k (aNil)))) ρ S = some (r, S) := by
  have q : D.pureL [d, e, i] = true := by
    show (D.pure d && (D.pure e && (D.pure i && true))) = true
    rw [hp, hp', hp'']
    rfl
  unfold dCalP aCons aNil
  rw [h]
  simp only [bnd_mk, h', h'', q, if_true, hF, Option.map_some]
theorem op2 {o : Op2} {f g : EDen} {d e r : D} (h : f ρ S = some (d, S)) (h' : g ρ S = some (e, S)) (ho : o d e S = some (r, S)) : dOp o f g ρ S = some (r, S) := by
  unfold dOp
  rw [h, bnd_mk, h', bnd_mk, ho]
theorem as_b {f : EDen} {b : Bool} (h : f ρ S = some (.bl b, S)) : asB f ρ S = some (b, S) := by
  unfold asB
  rw [h, bnd_mk]
theorem var_at {v : Nat} {d : D} (h : ρ[v]? = some (some d)) : dVar v ρ S = some (d, S) := by
  unfold dVar
  rw [h]
theorem ctup_fl {L : List D} : cTuple [.fl L] S = some (.tup L, S) := rfl
theorem ne_repr {f g : EDen} {d : D} {s : Str} (h : f ρ S = some (d, S)) (h' : g ρ S = some (d, S)) (hr : cRepr [d] S = some (.str s, S)) : asB (dOp gNeA (dCB cRepr (aCons f (aNil))) (dCB cRepr (aCons g (aNil)))) ρ S = some (false, S) := by
  refine as_b (op2 (call1 h hr) (call1 h' hr) ?_)
  rw [neA_str, decide_eq_true rfl]
  rfl
theorem if_no {t : TDen} {a b : SDen} (h : t ρ S = some (false, S)) : sIf t a b ρ S = b ρ S := by
  unfold sIf
  rw [h, bnd_mk]
  rfl
theorem if_yes {t : TDen} {a b : SDen} (h : t ρ S = some (true, S)) : sIf t a b ρ S = a ρ S := by
  unfold sIf
  rw [h, bnd_mk]
  rfl
theorem if_nil {t : TDen} {a : SDen} (h : t ρ S = some (false, S)) : sIf t a (sNil) ρ S = some (.nx, ρ, S) := if_no h
theorem and_no {t u : TDen} (h : t ρ S = some (false, S)) : tbAnd t u ρ S = some (false, S) := by
  unfold tbAnd
  rw [h, bnd_mk]
  rfl
theorem and_go {t u : TDen} (h : t ρ S = some (true, S)) : tbAnd t u ρ S = u ρ S := by
  unfold tbAnd
  rw [h, bnd_mk]
  rfl
theorem or_go {t u : TDen} (h : t ρ S = some (false, S)) : tbOr t u ρ S = u ρ S := by
  unfold tbOr
  rw [h, bnd_mk]
  rfl
theorem asg {f : EDen} {v : Nat} {d : D} (h : f ρ S = some (d, S')) : sAsg f (gN v) ρ S = some (.nx, ρ.set v (some d), S') := by
  unfold sAsg
  rw [h, bnd_mk]
  rfl
end MS

namespace k71
open PySem PySem.Spec PyProof.Rows L2 MS
def top (i : Nat) : Stmt := PySem.Challenge.pw_leastwholes_k71_whole_squares_and_quadru.main.body.getD i (.Pass ⟨0, 0, 0, 0⟩)
abbrev FnP (K : PySem.W.Frag) (x : Str) (st : Stmt) (f : Addr) (fd : FuncData) : Prop := FunD K x x (defArgs st) (defBody st) (defScope st) [] [] f fd
/-! ### _law_source -/
abbrev S_n_law_source : Stmt := top 22
abbrev N_n_law_source : List Str := ["script", "stirred", "cell", "cells"]
theorem sc_n_law_source : FnScope N_n_law_source ["script"] (defScope S_n_law_source) := ⟨rfl, rfl, rfl, by decide +kernel, rfl, by decide +kernel, by decide +kernel⟩
theorem ok_n_law_source {P : Program} {w : World} {K : PySem.W.Frag} {mg : Str → Option Value} {base : Heap} {f : Addr} {fd : FuncData} (FD : FnP K "_law_source" S_n_law_source f fd) (g_int : mg "int" = none) (g_abs : mg "abs" = none) :
    FnG P w K mg base CX0 1 f fd ["script"] (spM K PG.F_n_law_source) := by
  have sc := sc_n_law_source
  refine fnN_of (N := N_n_law_source) FD sc_n_law_source fun cdv A outer s H E hr => ?_
  exact mss_cons (ms_set (i := 1) sc.nd rfl (me_int)) <|
  mss_cons (ms_for PassesOwn.never rfl (mi_seq (me_var 0)) (mg_of (mn_name sc.nd rfl)) (mss_one (ms_set (i := 1) sc.nd rfl (me_op o_mod m_mod (me_ct call_int1 mc_int rfl g_int (by decide +kernel) (ma_cons (me_op (o_add op_add_str) m_add (me_op (o_add op_add_str) m_add (me_op o_mul m_mul (me_var 1) (me_int)) (me_op o_mul m_mul (me_var 2) (me_int))) (me_int)) (ma_nil))) (me_int))))) <|
  mss_cons (ms_setLc (i := 3) rfl sc.nd rfl rfl (sw_true rfl rfl rfl rfl) (own := [("cell", 2)]) (by decide) (mi_seq (me_var 0)) (blk_mk N_n_law_source (defScope S_n_law_source) rfl rfl rfl (by decide +kernel) (by decide +kernel) (by decide +kernel) (by decide +kernel)) (fun _ _ _ _ _ => mn_name sc.nd rfl) (fun _ _ _ _ _ => mts_nil) (fun _ _ _ _ _ => me_cb call_abs mc_abs rfl g_abs (by decide +kernel) (ma_cons (me_var 2) (ma_nil)))) <|
  mss_one (ms_ret (me_disp (mps_cons pe_str (me_revC (me_var 3)) (mps_cons pe_str (me_int) (mps_cons pe_str (me_var 1) (mps_cons pe_str (me_int) (mps_nil))))) (by decide +kernel)))
theorem cal_n_law_source {P : Program} {w : World} {K : PySem.W.Frag} {mg : Str → Option Value} {base : Heap} {f : Addr} {fd : FuncData} (FD : FnP K "_law_source" S_n_law_source f fd) (hm : mg "_law_source" = some (.ref f)) (g_int : mg "int" = none) (g_abs : mg "abs" = none) :
    Cal P w K mg base 1 "_law_source" (spM K PG.F_n_law_source) := ⟨f, fd, _, ok_n_law_source FD g_int g_abs, hm, FD.kp, FD.bindsN fun _ _ _ _ _ _ us hl => match us, hl with | [_], _ => rfl⟩
/-! ### _law_quadruples -/
abbrev S_n_law_quadruples : Stmt := top 24
abbrev N_n_law_quadruples : List Str := ["m", "found", "d", "e", "late", "one", "f"]
theorem sc_n_law_quadruples : FnScope N_n_law_quadruples ["m"] (defScope S_n_law_quadruples) := ⟨rfl, rfl, rfl, by decide +kernel, rfl, by decide +kernel, by decide +kernel⟩
def f1b_n_law_quadruples : SDen :=
  sSeq (sAsg (dOp gSub (dOp gMul (dC (.int 2)) (dVar 0)) (dOp gMul (dVar 2) (dVar 3))) (gN 4)) <|
  sAsg (dOp gAdd (dVar 1) (dLc (iRange3 (aCons (dC (.int 1)) (aCons (dOp gAdd (dVar 4) (dC (.int 1))) (aCons (dC (.int 2)) (aNil))))) (nN 6) (asB (dOp gEqA (dOp gMod (dCB cInt (aCons (dVar 4) (aNil))) (dVar 6)) (dC (.int 0)))) (dTup (aCons (dVar 2) (aCons (dVar 3) (aCons (dVar 6) (aCons (dOp gDiv (dVar 4) (dVar 6)) (aNil)))))) [6])) (gN 1)
def f2b_n_law_quadruples : SDen :=
  sFor (iSeq (dLc (iRange3 (aCons (dC (.int 1)) (aCons (dOp gMul (dC (.int 2)) (dVar 0)) (aCons (dC (.int 2)) (aNil))))) (nN 3) (asB (dOp gLt (dOp gMul (dVar 2) (dVar 3)) (dOp gMul (dC (.int 2)) (dVar 0)))) (dVar 3) [3])) (gOf (nN 3)) (f1b_n_law_quadruples)
def b_n_law_quadruples : SDen :=
  sSeq (sAsg (dLst (aNil)) (gN 1)) <|
  sSeq (sFor (iRange3 (aCons (dC (.int 1)) (aCons (dOp gMul (dC (.int 2)) (dVar 0)) (aCons (dC (.int 2)) (aNil))))) (gOf (nN 2)) (f2b_n_law_quadruples)) <|
  sRet (dLc (iSeq (dCB cSortedG (aCons (dVar 1) (aNil)))) (nN 5) (asB (dOp gEqA (dOp gMod (dCB cInt (aCons (dOp gIx (dVar 5) (dC (.int 3))) (aNil))) (dC (.int 2))) (dC (.int 1)))) (dVar 5) [5])
def F_n_law_quadruples : FP := bodyP 1 7 b_n_law_quadruples
theorem ok_n_law_quadruples {P : Program} {w : World} {K : PySem.W.Frag} {mg : Str → Option Value} {base : Heap} {f : Addr} {fd : FuncData} (FD : FnP K "_law_quadruples" S_n_law_quadruples f fd) (g_range : mg "range" = none) (g_int : mg "int" = none) (g_sorted : mg "sorted" = none) :
    FnG P w K mg base CX0 1 f fd ["m"] (spP K F_n_law_quadruples) := by
  have sc := sc_n_law_quadruples
  refine fnP_of (N := N_n_law_quadruples) FD sc_n_law_quadruples fun cdv A outer s H E hr => ?_
  exact mss_cons (ms_set (i := 1) sc.nd rfl (me_lst (ma_nil))) <|
  mss_cons (ms_for PassesOwn.never rfl (mi_range3 rfl g_range (ma_cons (me_int) (ma_cons (me_op o_mul m_mul (me_int) (me_var 0)) (ma_cons (me_int) (ma_nil))))) (mg_of (mn_name sc.nd rfl)) (mss_one (ms_for PassesOwn.never rfl (mi_seq (me_lc rfl sc.nd (own := [("e", 3)]) (by decide) (mi_range3 rfl g_range (ma_cons (me_int) (ma_cons (me_op o_mul m_mul (me_int) (me_var 0)) (ma_cons (me_int) (ma_nil))))) (blk_mk N_n_law_quadruples (defScope S_n_law_quadruples) rfl rfl rfl (by decide +kernel) (by decide +kernel) (by decide +kernel) (by decide +kernel)) (fun _ _ _ _ _ => mn_name sc.nd rfl) (fun _ _ _ _ _ => mts_one (mt_cmp op_lt m_lt (me_op o_mul m_mul (me_var 2) (me_var 3)) (me_op o_mul m_mul (me_int) (me_var 0)) (nomark _))) (fun _ _ _ _ _ => me_var 3))) (mg_of (mn_name sc.nd rfl)) (mss_cons (ms_set (i := 4) sc.nd rfl (me_op o_sub m_sub (me_op o_mul m_mul (me_int) (me_var 0)) (me_op o_mul m_mul (me_var 2) (me_var 3)))) <|
  mss_one (ms_set (i := 1) sc.nd rfl (me_op (o_add op_add_str) m_add (me_var 1) (me_lc rfl sc.nd (own := [("f", 6)]) (by decide) (mi_range3 rfl g_range (ma_cons (me_int) (ma_cons (me_op (o_add op_add_str) m_add (me_var 4) (me_int)) (ma_cons (me_int) (ma_nil))))) (blk_mk N_n_law_quadruples (defScope S_n_law_quadruples) rfl rfl rfl (by decide +kernel) (by decide +kernel) (by decide +kernel) (by decide +kernel)) (fun _ _ _ _ _ => mn_name sc.nd rfl) (fun _ _ _ _ _ => mts_one (mt_cmp (o_eqA hr.u64) m_eqA (me_op o_mod m_mod (me_ct call_int1 mc_int rfl g_int (by decide +kernel) (ma_cons (me_var 4) (ma_nil))) (me_var 6)) (me_int) (nomark _))) (fun _ _ _ _ _ => me_tup (ma_cons (me_var 2) (ma_cons (me_var 3) (ma_cons (me_var 6) (ma_cons (me_op o_div m_div (me_var 4) (me_var 6)) (ma_nil))))))))))))) <|
  mss_one (ms_ret (me_lc rfl sc.nd (own := [("one", 5)]) (by decide) (mi_seq (me_cb (c_sortedG hr.u64) mc_sortedG rfl g_sorted (by decide +kernel) (ma_cons (me_var 1) (ma_nil)))) (blk_mk N_n_law_quadruples (defScope S_n_law_quadruples) rfl rfl rfl (by decide +kernel) (by decide +kernel) (by decide +kernel) (by decide +kernel)) (fun _ _ _ _ _ => mn_name sc.nd rfl) (fun _ _ _ _ _ => mts_one (mt_cmp (o_eqA hr.u64) m_eqA (me_op o_mod m_mod (me_ct call_int1 mc_int rfl g_int (by decide +kernel) (ma_cons (me_ix (me_var 5) (me_int)) (ma_nil))) (me_int)) (me_int) (nomark _))) (fun _ _ _ _ _ => me_var 5)))
theorem cal_n_law_quadruples {P : Program} {w : World} {K : PySem.W.Frag} {mg : Str → Option Value} {base : Heap} {f : Addr} {fd : FuncData} (FD : FnP K "_law_quadruples" S_n_law_quadruples f fd) (hm : mg "_law_quadruples" = some (.ref f)) (g_range : mg "range" = none) (g_int : mg "int" = none) (g_sorted : mg "sorted" = none) :
    Cal P w K mg base 1 "_law_quadruples" (spP K F_n_law_quadruples) := ⟨f, fd, _, ok_n_law_quadruples FD g_range g_int g_sorted, hm, FD.kp, FD.bindsN fun _ _ _ _ _ _ us hl => match us, hl with | [_], _ => rfl⟩
/-! ### _law_pick -/
abbrev S_n_law_pick : Stmt := top 23
abbrev N_n_law_pick : List Str := ["source", "most", "cells", "others", "lap", "stirred"]
theorem sc_n_law_pick : FnScope N_n_law_pick ["source", "most"] (defScope S_n_law_pick) := ⟨rfl, rfl, rfl, by decide +kernel, rfl, by decide +kernel, by decide +kernel⟩
theorem ok_n_law_pick {P : Program} {w : World} {K : PySem.W.Frag} {mg : Str → Option Value} {base : Heap} {f : Addr} {fd : FuncData} (FD : FnP K "_law_pick" S_n_law_pick f fd) (g_len : mg "len" = none) (g_int : mg "int" = none) :
    FnG P w K mg base CX0 1 f fd ["source", "most"] (spM K PG.F_n_law_pick) := by
  have sc := sc_n_law_pick
  refine fnM_of (N := N_n_law_pick) FD sc_n_law_pick fun cdv A outer s H E hr => ?_
  exact mss_cons (ms_if (mt_cmp op_lt m_lt (me_var 1) (me_int) (nomark _)) (mss_one (ms_ret (me_int))) (mss_nil)) <|
  mss_cons (ms_set (i := 2) sc.nd rfl (me_item hr.u1 (me_var 0) (me_str))) <|
  mss_cons (ms_while 1000000000000000000000000000000000000000000000000000000000000 PassesOwn.never (MW.pt (mw_and (mt_cmp op_lt m_lt (me_item hr.u1 (me_var 0) (me_str)) (me_int) (nomark _)) (mw_and1 (mt_cmp op_gt m_gt (me_cb c_len mc_len rfl g_len (by decide +kernel) (ma_cons (me_var 2) (ma_nil))) (me_int) (nomark _))))) (mss_one (ms_setItem hr.u1 (me_var 0) (me_str) (me_meth0 F.slot_list_pop rfl mt_pop mm_pop (me_var 2))))) <|
  mss_cons (ms_set (i := 3) sc.nd rfl (me_item hr.u1 (me_var 0) (me_str))) <|
  mss_cons (ms_if (mt_cmp op_gt m_gt (me_var 3) (me_int) (nomark _)) (mss_cons (ms_setItem hr.u1 (me_var 0) (me_str) (me_op o_div m_div (me_var 3) (me_var 1))) <|
  mss_one (ms_ret (me_op o_mod m_mod (me_ct call_int1 mc_int rfl g_int (by decide +kernel) (ma_cons (me_var 3) (ma_nil))) (me_var 1)))) (mss_nil)) <|
  mss_cons (ms_setItem hr.u1 (me_var 0) (me_str) (me_op (o_add op_add_str) m_add (me_item hr.u1 (me_var 0) (me_str)) (me_int))) <|
  mss_cons (ms_set (i := 4) sc.nd rfl (me_item hr.u1 (me_var 0) (me_str))) <|
  mss_cons (ms_set (i := 5) sc.nd rfl (me_op o_mod m_mod (me_ct call_int1 mc_int rfl g_int (by decide +kernel) (ma_cons (me_op (o_add op_add_str) m_add (me_item hr.u1 (me_var 0) (me_str)) (me_op o_mul m_mul (me_var 4) (me_int))) (ma_nil))) (me_int))) <|
  mss_cons (ms_set (i := 5) sc.nd rfl (me_op o_mod m_mod (me_ct call_int1 mc_int rfl g_int (by decide +kernel) (ma_cons (me_op (o_add op_add_str) m_add (me_op o_mul m_mul (me_var 5) (me_var 5)) (me_op o_mul m_mul (me_var 4) (me_int))) (ma_nil))) (me_int))) <|
  mss_one (ms_ret (me_op o_mod m_mod (me_ct call_int1 mc_int rfl g_int (by decide +kernel) (ma_cons (me_op o_div m_div (me_var 5) (me_int)) (ma_nil))) (me_var 1)))
theorem cal_n_law_pick {P : Program} {w : World} {K : PySem.W.Frag} {mg : Str → Option Value} {base : Heap} {f : Addr} {fd : FuncData} (FD : FnP K "_law_pick" S_n_law_pick f fd) (hm : mg "_law_pick" = some (.ref f)) (g_len : mg "len" = none) (g_int : mg "int" = none) :
    Cal P w K mg base 1 "_law_pick" (spM K PG.F_n_law_pick) := ⟨f, fd, _, ok_n_law_pick FD g_len g_int, hm, FD.kp, FD.bindsN fun _ _ _ _ _ _ us hl => match us, hl with | [_, _], _ => rfl⟩
/-! ### halved -/
abbrev S_halved : Stmt := top 20
abbrev N_halved : List Str := ["one", "x", "y", "z", "w"]
theorem sc_halved : FnScope N_halved ["one"] (defScope S_halved) := ⟨rfl, rfl, rfl, by decide +kernel, rfl, by decide +kernel, by decide +kernel⟩
def b_halved : SDen :=
  sSeq (sAsg (dVar 0) (gOf (nT 4 (nsCons (nN 1) (nsCons (nN 2) (nsCons (nN 3) (nsCons (nN 4) (nsNil)))))))) <|
  sSeq (sIf (asB (dOp gEqA (dOp gMod (dOp gAdd (dVar 1) (dVar 2)) (dC (.int 2))) (dC (.int 1)))) (sRet (dC .non)) (sNil)) <|
  sSeq (sIf (asB (dOp gEqA (dOp gMod (dOp gAdd (dVar 3) (dVar 4)) (dC (.int 2))) (dC (.int 1)))) (sRet (dC .non)) (sNil)) <|
  sRet (dTup (aCons (dOp gDiv (dOp gAdd (dVar 1) (dVar 2)) (dC (.int 2))) (aCons (dOp gDiv (dOp gSub (dVar 1) (dVar 2)) (dC (.int 2))) (aCons (dOp gDiv (dOp gAdd (dVar 3) (dVar 4)) (dC (.int 2))) (aCons (dOp gDiv (dOp gSub (dVar 3) (dVar 4)) (dC (.int 2))) (aNil))))))
def F_halved : FP := bodyP 1 5 b_halved
theorem ok_halved {P : Program} {w : World} {K : PySem.W.Frag} {mg : Str → Option Value} {base : Heap} {f : Addr} {fd : FuncData} (FD : FnP K "halved" S_halved f fd) :
    FnG P w K mg base CX0 1 f fd ["one"] (spP K F_halved) := by
  have sc := sc_halved
  refine fnP_of (N := N_halved) FD sc_halved fun cdv A outer s H E hr => ?_
  exact mss_cons (ms_asg (me_var 0) (mg_of (mn_tup rfl (mns_cons (mn_name sc.nd rfl) (mns_cons (mn_name sc.nd rfl) (mns_cons (mn_name sc.nd rfl) (mns_cons (mn_name sc.nd rfl) (mns_nil)))))))) <|
  mss_cons (ms_if (mt_cmp (o_eqA hr.u64) m_eqA (me_op o_mod m_mod (me_op (o_add op_add_str) m_add (me_var 1) (me_var 2)) (me_int)) (me_int) (nomark _)) (mss_one (ms_ret (me_non))) (mss_nil)) <|
  mss_cons (ms_if (mt_cmp (o_eqA hr.u64) m_eqA (me_op o_mod m_mod (me_op (o_add op_add_str) m_add (me_var 3) (me_var 4)) (me_int)) (me_int) (nomark _)) (mss_one (ms_ret (me_non))) (mss_nil)) <|
  mss_one (ms_ret (me_tup (ma_cons (me_op o_div m_div (me_op (o_add op_add_str) m_add (me_var 1) (me_var 2)) (me_int)) (ma_cons (me_op o_div m_div (me_op o_sub m_sub (me_var 1) (me_var 2)) (me_int)) (ma_cons (me_op o_div m_div (me_op (o_add op_add_str) m_add (me_var 3) (me_var 4)) (me_int)) (ma_cons (me_op o_div m_div (me_op o_sub m_sub (me_var 3) (me_var 4)) (me_int)) (ma_nil)))))))
theorem cal_halved {P : Program} {w : World} {K : PySem.W.Frag} {mg : Str → Option Value} {base : Heap} {f : Addr} {fd : FuncData} (FD : FnP K "halved" S_halved f fd) (hm : mg "halved" = some (.ref f)) :
    Cal P w K mg base 1 "halved" (spP K F_halved) := ⟨f, fd, _, ok_halved FD, hm, FD.kp, FD.bindsN fun _ _ _ _ _ _ us hl => match us, hl with | [_], _ => rfl⟩
/-! ### _law_pairs -/
abbrev S_n_law_pairs : Stmt := top 26
abbrev N_n_law_pairs : List Str := ["m", "some", "square", "many"]
theorem sc_n_law_pairs : FnScope N_n_law_pairs ["m", "some"] (defScope S_n_law_pairs) := ⟨rfl, rfl, rfl, by decide +kernel, rfl, by decide +kernel, by decide +kernel⟩
def b_n_law_pairs : SDen :=
  sRet (dCB cSumA (aCons (dLock 1 (dLc (iItemsL (dVar 1)) (nT 2 (nsCons (nN 2) (nsCons (nN 3) (nsNil)))) (tYesD) (dOp gMul (dVar 3) (dGet (some (dC (.int 0))) (dVar 1) (dOp gSub (dVar 0) (dVar 2)))) [2, 3])) (aNil)))
def F_n_law_pairs : FM := bodyM 2 4 b_n_law_pairs
theorem ok_n_law_pairs {P : Program} {w : World} {K : PySem.W.Frag} {mg : Str → Option Value} {base : Heap} {f : Addr} {fd : FuncData} (FD : FnP K "_law_pairs" S_n_law_pairs f fd) (g_sum : mg "sum" = none) :
    FnG P w K mg base CX0 1 f fd ["m", "some"] (spM K F_n_law_pairs) := by
  have sc := sc_n_law_pairs
  refine fnM_of (N := N_n_law_pairs) FD sc_n_law_pairs fun cdv A outer s H E hr => ?_
  exact mss_one (ms_ret (me_cb (c_sumA rfl) mc_sumA rfl g_sum (by decide +kernel) (ma_cons (me_lock 1 (me_lc rfl sc.nd (own := [("square", 2), ("many", 3)]) (by decide) (mi_items (me_var 1)) (blk_mk N_n_law_pairs (defScope S_n_law_pairs) rfl rfl rfl (by decide +kernel) (by decide +kernel) (by decide +kernel) (by decide +kernel)) (fun _ _ _ _ _ => mn_tup rfl (mns_cons (mn_name sc.nd rfl) (mns_cons (mn_name sc.nd rfl) (mns_nil)))) (fun _ _ _ _ _ => mts_nil) (fun _ _ _ _ _ => me_op o_mul m_mul (me_var 3) (me_get2 hr.u1 (me_var 1) (me_op o_sub m_sub (me_var 0) (me_var 2)) (me_int) ⟨rfl, rfl, rfl, rfl⟩)))) (ma_nil))))
theorem cal_n_law_pairs {P : Program} {w : World} {K : PySem.W.Frag} {mg : Str → Option Value} {base : Heap} {f : Addr} {fd : FuncData} (FD : FnP K "_law_pairs" S_n_law_pairs f fd) (hm : mg "_law_pairs" = some (.ref f)) (g_sum : mg "sum" = none) :
    Cal P w K mg base 1 "_law_pairs" (spM K F_n_law_pairs) := ⟨f, fd, _, ok_n_law_pairs FD g_sum, hm, FD.kp, FD.bindsN fun _ _ _ _ _ _ us hl => match us, hl with | [_, _], _ => rfl⟩
/-! ### turned_down -/
abbrev S_turned_down : Stmt := top 16
abbrev N_turned_down : List Str := ["one", "q", "d", "e", "f", "g", "apart", "both"]
theorem sc_turned_down : FnScope N_turned_down ["one"] (defScope S_turned_down) := ⟨rfl, rfl, rfl, by decide +kernel, rfl, by decide +kernel, by decide +kernel⟩
def b_turned_down : SDen :=
  sSeq (sAsg (dVar 0) (gOf (nT 4 (nsCons (nN 2) (nsCons (nN 3) (nsCons (nN 4) (nsCons (nN 5) (nsNil)))))))) <|
  sSeq (sPar [6, 7] (aCons (dOp gSub (dVar 2) (dVar 4)) (aCons (dOp gAdd (dVar 3) (dVar 5)) (aNil)))) <|
  sSeq (sAsg (dOp gDiv (dVar 4) (dVar 6)) (gN 1)) <|
  sRet (dTup (aCons (dOp gAdd (dVar 3) (dOp gMul (dOp gAdd (dVar 1) (dC (.int 1))) (dVar 7))) (aCons (dOp gSub (dVar 4) (dOp gMul (dVar 1) (dVar 6))) (aCons (dOp gAdd (dVar 3) (dOp gMul (dVar 1) (dVar 7))) (aCons (dOp gSub (dOp gMul (dOp gAdd (dVar 1) (dC (.int 1))) (dVar 6)) (dVar 4)) (aNil))))))
def F_turned_down : FP := bodyP 1 8 b_turned_down
theorem ok_turned_down {P : Program} {w : World} {K : PySem.W.Frag} {mg : Str → Option Value} {base : Heap} {f : Addr} {fd : FuncData} (FD : FnP K "turned_down" S_turned_down f fd) :
    FnG P w K mg base CX0 1 f fd ["one"] (spP K F_turned_down) := by
  have sc := sc_turned_down
  refine fnP_of (N := N_turned_down) FD sc_turned_down fun cdv A outer s H E hr => ?_
  exact mss_cons (ms_asg (me_var 0) (mg_of (mn_tup rfl (mns_cons (mn_name sc.nd rfl) (mns_cons (mn_name sc.nd rfl) (mns_cons (mn_name sc.nd rfl) (mns_cons (mn_name sc.nd rfl) (mns_nil)))))))) <|
  mss_cons (ms_par (i := 6) (j := 7) rfl sc.nd rfl rfl (ma_cons (me_op o_sub m_sub (me_var 2) (me_var 4)) (ma_cons (me_op (o_add op_add_str) m_add (me_var 3) (me_var 5)) (ma_nil)))) <|
  mss_cons (ms_set (i := 1) sc.nd rfl (me_op o_div m_div (me_var 4) (me_var 6))) <|
  mss_one (ms_ret (me_tup (ma_cons (me_op (o_add op_add_str) m_add (me_var 3) (me_op o_mul m_mul (me_op (o_add op_add_str) m_add (me_var 1) (me_int)) (me_var 7))) (ma_cons (me_op o_sub m_sub (me_var 4) (me_op o_mul m_mul (me_var 1) (me_var 6))) (ma_cons (me_op (o_add op_add_str) m_add (me_var 3) (me_op o_mul m_mul (me_var 1) (me_var 7))) (ma_cons (me_op o_sub m_sub (me_op o_mul m_mul (me_op (o_add op_add_str) m_add (me_var 1) (me_int)) (me_var 6)) (me_var 4)) (ma_nil)))))))
theorem cal_turned_down {P : Program} {w : World} {K : PySem.W.Frag} {mg : Str → Option Value} {base : Heap} {f : Addr} {fd : FuncData} (FD : FnP K "turned_down" S_turned_down f fd) (hm : mg "turned_down" = some (.ref f)) :
    Cal P w K mg base 1 "turned_down" (spP K F_turned_down) := ⟨f, fd, _, ok_turned_down FD, hm, FD.kp, FD.bindsN fun _ _ _ _ _ _ us hl => match us, hl with | [_], _ => rfl⟩
/-! ### pairs_exchanged -/
abbrev S_pairs_exchanged : Stmt := top 14
abbrev N_pairs_exchanged : List Str := ["one"]
theorem sc_pairs_exchanged : FnScope N_pairs_exchanged ["one"] (defScope S_pairs_exchanged) := ⟨rfl, rfl, rfl, by decide +kernel, rfl, by decide +kernel, by decide +kernel⟩
def b_pairs_exchanged : SDen :=
  sRet (dTup (aCons (dOp gIx (dVar 0) (dC (.int 2))) (aCons (dOp gIx (dVar 0) (dC (.int 3))) (aCons (dOp gIx (dVar 0) (dC (.int 0))) (aCons (dOp gIx (dVar 0) (dC (.int 1))) (aNil))))))
def F_pairs_exchanged : FP := bodyP 1 1 b_pairs_exchanged
theorem ok_pairs_exchanged {P : Program} {w : World} {K : PySem.W.Frag} {mg : Str → Option Value} {base : Heap} {f : Addr} {fd : FuncData} (FD : FnP K "pairs_exchanged" S_pairs_exchanged f fd) :
    FnG P w K mg base CX0 1 f fd ["one"] (spP K F_pairs_exchanged) := by
  have sc := sc_pairs_exchanged
  refine fnP_of (N := N_pairs_exchanged) FD sc_pairs_exchanged fun cdv A outer s H E hr => ?_
  exact mss_one (ms_ret (me_tup (ma_cons (me_ix (me_var 0) (me_int)) (ma_cons (me_ix (me_var 0) (me_int)) (ma_cons (me_ix (me_var 0) (me_int)) (ma_cons (me_ix (me_var 0) (me_int)) (ma_nil)))))))
theorem cal_pairs_exchanged {P : Program} {w : World} {K : PySem.W.Frag} {mg : Str → Option Value} {base : Heap} {f : Addr} {fd : FuncData} (FD : FnP K "pairs_exchanged" S_pairs_exchanged f fd) (hm : mg "pairs_exchanged" = some (.ref f)) :
    Cal P w K mg base 1 "pairs_exchanged" (spP K F_pairs_exchanged) := ⟨f, fd, _, ok_pairs_exchanged FD, hm, FD.kp, FD.bindsN fun _ _ _ _ _ _ us hl => match us, hl with | [_], _ => rfl⟩
/-! ### turned_quadruple -/
abbrev S_turned_quadruple : Stmt := top 15
abbrev N_turned_quadruple : List Str := ["one"]
theorem sc_turned_quadruple : FnScope N_turned_quadruple ["one"] (defScope S_turned_quadruple) := ⟨rfl, rfl, rfl, by decide +kernel, rfl, by decide +kernel, by decide +kernel⟩
def b_turned_quadruple : SDen :=
  sSeq (sIf (asB (dOp gLt (dOp gIx (dVar 0) (dC (.int 0))) (dOp gIx (dVar 0) (dC (.int 2))))) (sRet (dCalP F_pairs_exchanged (aCons (dCalP F_turned_down (aCons (dCalP F_pairs_exchanged (aCons (dVar 0) (aNil))) (aNil))) (aNil)))) (sNil)) <|
  sRet (dCalP F_turned_down (aCons (dVar 0) (aNil)))
def F_turned_quadruple : FP := bodyP 1 1 b_turned_quadruple
theorem ok_turned_quadruple {P : Program} {w : World} {K : PySem.W.Frag} {mg : Str → Option Value} {base : Heap} {f : Addr} {fd : FuncData} (FD : FnP K "turned_quadruple" S_turned_quadruple f fd) (c_pairs_exchanged : Cal P w K mg base 1 "pairs_exchanged" (spP K F_pairs_exchanged)) (c_turned_down : Cal P w K mg base 1 "turned_down" (spP K F_turned_down)) :
    FnG P w K mg base CX0 2 f fd ["one"] (spP K F_turned_quadruple) := by
  have sc := sc_turned_quadruple
  refine fnP_of (N := N_turned_quadruple) FD sc_turned_quadruple fun cdv A outer s H E hr => ?_
  exact mss_cons (ms_if (mt_cmp op_lt m_lt (me_ix (me_var 0) (me_int)) (me_ix (me_var 0) (me_int)) (nomark _)) (mss_one (ms_ret (me_calP c_pairs_exchanged hr (by decide) rfl (ma_cons (me_calP c_turned_down hr (by decide) rfl (ma_cons (me_calP c_pairs_exchanged hr (by decide) rfl (ma_cons (me_var 0) (ma_nil))) (ma_nil))) (ma_nil))))) (mss_nil)) <|
  mss_one (ms_ret (me_calP c_turned_down hr (by decide) rfl (ma_cons (me_var 0) (ma_nil))))
theorem cal_turned_quadruple {P : Program} {w : World} {K : PySem.W.Frag} {mg : Str → Option Value} {base : Heap} {f : Addr} {fd : FuncData} (FD : FnP K "turned_quadruple" S_turned_quadruple f fd) (hm : mg "turned_quadruple" = some (.ref f)) (c_pairs_exchanged : Cal P w K mg base 1 "pairs_exchanged" (spP K F_pairs_exchanged)) (c_turned_down : Cal P w K mg base 1 "turned_down" (spP K F_turned_down)) :
    Cal P w K mg base 2 "turned_quadruple" (spP K F_turned_quadruple) := ⟨f, fd, _, ok_turned_quadruple FD c_pairs_exchanged c_turned_down, hm, FD.kp, FD.bindsN fun _ _ _ _ _ _ us hl => match us, hl with | [_], _ => rfl⟩
/-! ### quadruple_sign -/
abbrev S_quadruple_sign : Stmt := top 13
abbrev N_quadruple_sign : List Str := ["one", "half"]
theorem sc_quadruple_sign : FnScope N_quadruple_sign ["one"] (defScope S_quadruple_sign) := ⟨rfl, rfl, rfl, by decide +kernel, rfl, by decide +kernel, by decide +kernel⟩
def b_quadruple_sign : SDen :=
  sSeq (sAsg (dOp gDiv (dOp gSub (dOp gIx (dVar 0) (dC (.int 0))) (dOp gIx (dVar 0) (dC (.int 2)))) (dC (.int 2))) (gN 1)) <|
  sSeq (sIf (asB (dOp gEqA (dOp gMod (dVar 1) (dC (.int 2))) (dC (.int 0)))) (sRet (dC (.int 1))) (sNil)) <|
  sRet (dUn gNeg (dC (.int 1)))
def F_quadruple_sign : FP := bodyP 1 2 b_quadruple_sign
theorem ok_quadruple_sign {P : Program} {w : World} {K : PySem.W.Frag} {mg : Str → Option Value} {base : Heap} {f : Addr} {fd : FuncData} (FD : FnP K "quadruple_sign" S_quadruple_sign f fd) :
    FnG P w K mg base CX0 1 f fd ["one"] (spP K F_quadruple_sign) := by
  have sc := sc_quadruple_sign
  refine fnP_of (N := N_quadruple_sign) FD sc_quadruple_sign fun cdv A outer s H E hr => ?_
  exact mss_cons (ms_set (i := 1) sc.nd rfl (me_op o_div m_div (me_op o_sub m_sub (me_ix (me_var 0) (me_int)) (me_ix (me_var 0) (me_int))) (me_int))) <|
  mss_cons (ms_if (mt_cmp (o_eqA hr.u64) m_eqA (me_op o_mod m_mod (me_var 1) (me_int)) (me_int) (nomark _)) (mss_one (ms_ret (me_int))) (mss_nil)) <|
  mss_one (ms_ret (me_un un_neg m_neg (me_int)))
theorem cal_quadruple_sign {P : Program} {w : World} {K : PySem.W.Frag} {mg : Str → Option Value} {base : Heap} {f : Addr} {fd : FuncData} (FD : FnP K "quadruple_sign" S_quadruple_sign f fd) (hm : mg "quadruple_sign" = some (.ref f)) :
    Cal P w K mg base 1 "quadruple_sign" (spP K F_quadruple_sign) := ⟨f, fd, _, ok_quadruple_sign FD, hm, FD.kp, FD.bindsN fun _ _ _ _ _ _ us hl => match us, hl with | [_], _ => rfl⟩
/-! ### whole_root -/
abbrev S_whole_root : Stmt := top 1
abbrev N_whole_root : List Str := ["number", "low", "high", "middle"]
theorem sc_whole_root : FnScope N_whole_root ["number"] (defScope S_whole_root) := ⟨rfl, rfl, rfl, by decide +kernel, rfl, by decide +kernel, by decide +kernel⟩
theorem ok_whole_root {P : Program} {w : World} {K : PySem.W.Frag} {mg : Str → Option Value} {base : Heap} {f : Addr} {fd : FuncData} (FD : FnP K "whole_root" S_whole_root f fd) :
    FnG P w K mg base CX0 1 f fd ["number"] (spP K PG.F_whole_root) := by
  have sc := sc_whole_root
  refine fnP_of (N := N_whole_root) FD sc_whole_root fun cdv A outer s H E hr => ?_
  exact mss_cons (ms_asg (me_tup (ma_cons (me_int) (ma_cons (me_int) (ma_nil)))) (mg_of (mn_tup rfl (mns_cons (mn_name sc.nd rfl) (mns_cons (mn_name sc.nd rfl) (mns_nil)))))) <|
  mss_cons (ms_while 1000000000000000000000000000000000000000000000000000000000000 PassesOwn.never (mt_cmp op_le m_le (me_op o_mul m_mul (me_var 2) (me_var 2)) (me_var 0) (nomark _)) (mss_one (ms_set (i := 2) sc.nd rfl (me_op o_mul m_mul (me_int) (me_var 2))))) <|
  mss_cons (ms_while 1000000000000000000000000000000000000000000000000000000000000 PassesOwn.never (mt_cmp op_gt m_gt (me_op o_sub m_sub (me_var 2) (me_var 1)) (me_int) (nomark _)) (mss_cons (ms_set (i := 3) sc.nd rfl (me_op o_div m_div (me_op (o_add op_add_str) m_add (me_var 1) (me_var 2)) (me_int))) <|
  mss_one (ms_if (mt_cmp op_le m_le (me_op o_mul m_mul (me_var 3) (me_var 3)) (me_var 0) (nomark _)) (mss_one (ms_set (i := 1) sc.nd rfl (me_var 3))) (mss_one (ms_set (i := 2) sc.nd rfl (me_var 3)))))) <|
  mss_one (ms_ret (me_var 1))
theorem cal_whole_root {P : Program} {w : World} {K : PySem.W.Frag} {mg : Str → Option Value} {base : Heap} {f : Addr} {fd : FuncData} (FD : FnP K "whole_root" S_whole_root f fd) (hm : mg "whole_root" = some (.ref f)) :
    Cal P w K mg base 1 "whole_root" (spP K PG.F_whole_root) := ⟨f, fd, _, ok_whole_root FD, hm, FD.kp, FD.bindsN fun _ _ _ _ _ _ us hl => match us, hl with | [_], _ => rfl⟩
/-! ### divisors_of -/
abbrev S_divisors_of : Stmt := top 3
abbrev N_divisors_of : List Str := ["m", "low", "high", "d"]
theorem sc_divisors_of : FnScope N_divisors_of ["m"] (defScope S_divisors_of) := ⟨rfl, rfl, rfl, by decide +kernel, rfl, by decide +kernel, by decide +kernel⟩
def b_divisors_of : SDen :=
  sSeq (sAsg (dLc (iRange2 (aCons (dC (.int 1)) (aCons (dOp gAdd (dCalP PG.F_whole_root (aCons (dVar 0) (aNil))) (dC (.int 1))) (aNil)))) (nN 3) (asB (dOp gEqA (dOp gMod (dVar 0) (dVar 3)) (dC (.int 0)))) (dVar 3) [3]) (gN 1)) <|
  sSeq (sAsg (dLc (iSeq (dRev (dVar 1))) (nN 3) (asB (dOp gNeA (dOp gMul (dVar 3) (dVar 3)) (dVar 0))) (dOp gDiv (dVar 0) (dVar 3)) [3]) (gN 2)) <|
  sRet (dCB cTuple (aCons (dOp gAdd (dVar 1) (dVar 2)) (aNil)))
def F_divisors_of : FP := bodyP 1 4 b_divisors_of
theorem ok_divisors_of {P : Program} {w : World} {K : PySem.W.Frag} {mg : Str → Option Value} {base : Heap} {f : Addr} {fd : FuncData} (FD : FnP K "divisors_of" S_divisors_of f fd) (c_whole_root : Cal P w K mg base 1 "whole_root" (spP K PG.F_whole_root)) (g_range : mg "range" = none) (g_tuple : mg "tuple" = none) :
    FnG P w K mg base CX0 2 f fd ["m"] (spP K F_divisors_of) := by
  have sc := sc_divisors_of
  refine fnP_of (N := N_divisors_of) FD sc_divisors_of fun cdv A outer s H E hr => ?_
  exact mss_cons (ms_setLc (i := 1) rfl sc.nd rfl rfl (sw_true rfl rfl rfl rfl) (own := [("d", 3)]) (by decide) (mi_range2 rfl g_range (ma_cons (me_int) (ma_cons (me_op (o_add op_add_str) m_add (me_calP c_whole_root hr (by decide) rfl (ma_cons (me_var 0) (ma_nil))) (me_int)) (ma_nil)))) (blk_mk N_divisors_of (defScope S_divisors_of) rfl rfl rfl (by decide +kernel) (by decide +kernel) (by decide +kernel) (by decide +kernel)) (fun _ _ _ _ _ => mn_name sc.nd rfl) (fun _ _ _ _ _ => mts_one (mt_cmp (o_eqA hr.u64) m_eqA (me_op o_mod m_mod (me_var 0) (me_var 3)) (me_int) (nomark _))) (fun _ _ _ _ _ => me_var 3)) <|
  mss_cons (ms_setLc (i := 2) rfl sc.nd rfl rfl (sw_true rfl rfl rfl rfl) (own := [("d", 3)]) (by decide) (mi_seq (me_rev (me_var 1))) (blk_mk N_divisors_of (defScope S_divisors_of) rfl rfl rfl (by decide +kernel) (by decide +kernel) (by decide +kernel) (by decide +kernel)) (fun _ _ _ _ _ => mn_name sc.nd rfl) (fun _ _ _ _ _ => mts_one (mt_cmp (o_neA hr.u64) m_neA (me_op o_mul m_mul (me_var 3) (me_var 3)) (me_var 0) (nomark _))) (fun _ _ _ _ _ => me_op o_div m_div (me_var 0) (me_var 3))) <|
  mss_one (ms_ret (me_ct call_tuple_of mc_tuple rfl g_tuple (by decide +kernel) (ma_cons (me_op (o_add op_add_str) m_add (me_var 1) (me_var 2)) (ma_nil))))
theorem cal_divisors_of {P : Program} {w : World} {K : PySem.W.Frag} {mg : Str → Option Value} {base : Heap} {f : Addr} {fd : FuncData} (FD : FnP K "divisors_of" S_divisors_of f fd) (hm : mg "divisors_of" = some (.ref f)) (c_whole_root : Cal P w K mg base 1 "whole_root" (spP K PG.F_whole_root)) (g_range : mg "range" = none) (g_tuple : mg "tuple" = none) :
    Cal P w K mg base 2 "divisors_of" (spP K F_divisors_of) := ⟨f, fd, _, ok_divisors_of FD c_whole_root g_range g_tuple, hm, FD.kp, FD.bindsN fun _ _ _ _ _ _ us hl => match us, hl with | [_], _ => rfl⟩
/-! ### odd_divisors -/
abbrev S_odd_divisors : Stmt := top 11
abbrev N_odd_divisors : List Str := ["number", "d"]
theorem sc_odd_divisors : FnScope N_odd_divisors ["number"] (defScope S_odd_divisors) := ⟨rfl, rfl, rfl, by decide +kernel, rfl, by decide +kernel, by decide +kernel⟩
def b_odd_divisors : SDen :=
  sRet (dLc (iSeq (dCalP F_divisors_of (aCons (dVar 0) (aNil)))) (nN 1) (asB (dOp gEqA (dOp gMod (dVar 1) (dC (.int 2))) (dC (.int 1)))) (dVar 1) [1])
def F_odd_divisors : FP := bodyP 1 2 b_odd_divisors
theorem ok_odd_divisors {P : Program} {w : World} {K : PySem.W.Frag} {mg : Str → Option Value} {base : Heap} {f : Addr} {fd : FuncData} (FD : FnP K "odd_divisors" S_odd_divisors f fd) (c_divisors_of : Cal P w K mg base 2 "divisors_of" (spP K F_divisors_of)) :
    FnG P w K mg base CX0 3 f fd ["number"] (spP K F_odd_divisors) := by
  have sc := sc_odd_divisors
  refine fnP_of (N := N_odd_divisors) FD sc_odd_divisors fun cdv A outer s H E hr => ?_
  exact mss_one (ms_ret (me_lc rfl sc.nd (own := [("d", 1)]) (by decide) (mi_seq (me_calP c_divisors_of hr (by decide) rfl (ma_cons (me_var 0) (ma_nil)))) (blk_mk N_odd_divisors (defScope S_odd_divisors) rfl rfl rfl (by decide +kernel) (by decide +kernel) (by decide +kernel) (by decide +kernel)) (fun _ _ _ _ _ => mn_name sc.nd rfl) (fun _ _ _ _ _ => mts_one (mt_cmp (o_eqA hr.u64) m_eqA (me_op o_mod m_mod (me_var 1) (me_int)) (me_int) (nomark _))) (fun _ _ _ _ _ => me_var 1)))
theorem cal_odd_divisors {P : Program} {w : World} {K : PySem.W.Frag} {mg : Str → Option Value} {base : Heap} {f : Addr} {fd : FuncData} (FD : FnP K "odd_divisors" S_odd_divisors f fd) (hm : mg "odd_divisors" = some (.ref f)) (c_divisors_of : Cal P w K mg base 2 "divisors_of" (spP K F_divisors_of)) :
    Cal P w K mg base 3 "odd_divisors" (spP K F_odd_divisors) := ⟨f, fd, _, ok_odd_divisors FD c_divisors_of, hm, FD.kp, FD.bindsN fun _ _ _ _ _ _ us hl => match us, hl with | [_], _ => rfl⟩
/-! ### odd_quadruples -/
abbrev S_odd_quadruples : Stmt := top 12
abbrev N_odd_quadruples : List Str := ["m", "found", "first", "late", "d", "f"]
theorem sc_odd_quadruples : FnScope N_odd_quadruples ["m"] (defScope S_odd_quadruples) := ⟨rfl, rfl, rfl, by decide +kernel, rfl, by decide +kernel, by decide +kernel⟩
def f1b_odd_quadruples : SDen :=
  sExpr (dMeth gExtend (dVar 1) (aCons (dLc (iSeq (dCalP F_odd_divisors (aCons (dVar 3) (aNil)))) (nN 5) (tYesD) (dTup (aCons (dVar 4) (aCons (dOp gDiv (dVar 2) (dVar 4)) (aCons (dVar 5) (aCons (dOp gDiv (dVar 3) (dVar 5)) (aNil)))))) [5]) (aNil)))
def f2b_odd_quadruples : SDen :=
  sSeq (sAsg (dOp gSub (dOp gMul (dC (.int 2)) (dVar 0)) (dVar 2)) (gN 3)) <|
  sFor (iSeq (dCalP F_odd_divisors (aCons (dVar 2) (aNil)))) (gOf (nN 4)) (f1b_odd_quadruples)
def b_odd_quadruples : SDen :=
  sSeq (sAsg (dCell (aNil)) (gN 1)) <|
  sSeq (sFor (iRange3 (aCons (dC (.int 1)) (aCons (dOp gMul (dC (.int 2)) (dVar 0)) (aCons (dC (.int 2)) (aNil))))) (gOf (nN 2)) (f2b_odd_quadruples)) <|
  sRet (dCB cTuple (aCons (dCB cSortedG (aCons (dVar 1) (aNil))) (aNil)))
def F_odd_quadruples : FP := bodyP 1 6 b_odd_quadruples
theorem ok_odd_quadruples {P : Program} {w : World} {K : PySem.W.Frag} {mg : Str → Option Value} {base : Heap} {f : Addr} {fd : FuncData} (FD : FnP K "odd_quadruples" S_odd_quadruples f fd) (c_odd_divisors : Cal P w K mg base 3 "odd_divisors" (spP K F_odd_divisors)) (g_range : mg "range" = none) (g_sorted : mg "sorted" = none) (g_tuple : mg "tuple" = none) :
    FnG P w K mg base CX0 4 f fd ["m"] (spP K F_odd_quadruples) := by
  have sc := sc_odd_quadruples
  refine fnP_of (N := N_odd_quadruples) FD sc_odd_quadruples fun cdv A outer s H E hr => ?_
  exact mss_cons (ms_set (i := 1) sc.nd rfl (me_cell (ma_nil))) <|
  mss_cons (ms_for PassesOwn.never rfl (mi_range3 rfl g_range (ma_cons (me_int) (ma_cons (me_op o_mul m_mul (me_int) (me_var 0)) (ma_cons (me_int) (ma_nil))))) (mg_of (mn_name sc.nd rfl)) (mss_cons (ms_set (i := 3) sc.nd rfl (me_op o_sub m_sub (me_op o_mul m_mul (me_int) (me_var 0)) (me_var 2))) <|
  mss_one (ms_for PassesOwn.never rfl (mi_seq (me_calP c_odd_divisors hr (by decide) rfl (ma_cons (me_var 2) (ma_nil)))) (mg_of (mn_name sc.nd rfl)) (mss_one (ms_expr (me_meth F.slot_list_extend rfl mt_extend mm_extend (me_var 1) (ma_cons (me_lc rfl sc.nd (own := [("f", 5)]) (by decide) (mi_seq (me_calP c_odd_divisors hr (by decide) rfl (ma_cons (me_var 3) (ma_nil)))) (blk_mk N_odd_quadruples (defScope S_odd_quadruples) rfl rfl rfl (by decide +kernel) (by decide +kernel) (by decide +kernel) (by decide +kernel)) (fun _ _ _ _ _ => mn_name sc.nd rfl) (fun _ _ _ _ _ => mts_nil) (fun _ _ _ _ _ => me_tup (ma_cons (me_var 4) (ma_cons (me_op o_div m_div (me_var 2) (me_var 4)) (ma_cons (me_var 5) (ma_cons (me_op o_div m_div (me_var 3) (me_var 5)) (ma_nil))))))) (ma_nil)))))))) <|
  mss_one (ms_ret (me_ct call_tuple_of mc_tuple rfl g_tuple (by decide +kernel) (ma_cons (me_cb (c_sortedG hr.u64) mc_sortedG rfl g_sorted (by decide +kernel) (ma_cons (me_var 1) (ma_nil))) (ma_nil))))
theorem cal_odd_quadruples {P : Program} {w : World} {K : PySem.W.Frag} {mg : Str → Option Value} {base : Heap} {f : Addr} {fd : FuncData} (FD : FnP K "odd_quadruples" S_odd_quadruples f fd) (hm : mg "odd_quadruples" = some (.ref f)) (c_odd_divisors : Cal P w K mg base 3 "odd_divisors" (spP K F_odd_divisors)) (g_range : mg "range" = none) (g_sorted : mg "sorted" = none) (g_tuple : mg "tuple" = none) :
    Cal P w K mg base 4 "odd_quadruples" (spP K F_odd_quadruples) := ⟨f, fd, _, ok_odd_quadruples FD c_odd_divisors g_range g_sorted g_tuple, hm, FD.kp, FD.bindsN fun _ _ _ _ _ _ us hl => match us, hl with | [_], _ => rfl⟩
/-! ### signs_added -/
abbrev S_signs_added : Stmt := top 17
abbrev N_signs_added : List Str := ["m", "one"]
theorem sc_signs_added : FnScope N_signs_added ["m"] (defScope S_signs_added) := ⟨rfl, rfl, rfl, by decide +kernel, rfl, by decide +kernel, by decide +kernel⟩
def b_signs_added : SDen :=
  sRet (dCB cSumA (aCons (dLc (iSeq (dCalP F_odd_quadruples (aCons (dVar 0) (aNil)))) (nN 1) (tYesD) (dCalP F_quadruple_sign (aCons (dVar 1) (aNil))) [1]) (aNil)))
def F_signs_added : FP := bodyP 1 2 b_signs_added
theorem ok_signs_added {P : Program} {w : World} {K : PySem.W.Frag} {mg : Str → Option Value} {base : Heap} {f : Addr} {fd : FuncData} (FD : FnP K "signs_added" S_signs_added f fd) (c_odd_quadruples : Cal P w K mg base 4 "odd_quadruples" (spP K F_odd_quadruples)) (c_quadruple_sign : Cal P w K mg base 1 "quadruple_sign" (spP K F_quadruple_sign)) (g_sum : mg "sum" = none) :
    FnG P w K mg base CX0 5 f fd ["m"] (spP K F_signs_added) := by
  have sc := sc_signs_added
  refine fnP_of (N := N_signs_added) FD sc_signs_added fun cdv A outer s H E hr => ?_
  exact mss_one (ms_ret (me_cb (c_sumA rfl) mc_sumA rfl g_sum (by decide +kernel) (ma_cons (me_lc rfl sc.nd (own := [("one", 1)]) (by decide) (mi_seq (me_calP c_odd_quadruples hr (by decide) rfl (ma_cons (me_var 0) (ma_nil)))) (blk_mk N_signs_added (defScope S_signs_added) rfl rfl rfl (by decide +kernel) (by decide +kernel) (by decide +kernel) (by decide +kernel)) (fun _ _ _ _ _ => mn_name sc.nd rfl) (fun _ _ _ _ _ => mts_nil) (fun _ _ _ _ _ => me_calP c_quadruple_sign hr (by decide) rfl (ma_cons (me_var 1) (ma_nil)))) (ma_nil))))
theorem cal_signs_added {P : Program} {w : World} {K : PySem.W.Frag} {mg : Str → Option Value} {base : Heap} {f : Addr} {fd : FuncData} (FD : FnP K "signs_added" S_signs_added f fd) (hm : mg "signs_added" = some (.ref f)) (c_odd_quadruples : Cal P w K mg base 4 "odd_quadruples" (spP K F_odd_quadruples)) (c_quadruple_sign : Cal P w K mg base 1 "quadruple_sign" (spP K F_quadruple_sign)) (g_sum : mg "sum" = none) :
    Cal P w K mg base 5 "signs_added" (spP K F_signs_added) := ⟨f, fd, _, ok_signs_added FD c_odd_quadruples c_quadruple_sign g_sum, hm, FD.kp, FD.bindsN fun _ _ _ _ _ _ us hl => match us, hl with | [_], _ => rfl⟩
/-! ### odd_tuples -/
abbrev S_odd_tuples : Stmt := top 18
abbrev N_odd_tuples : List Str := ["m"]
theorem sc_odd_tuples : FnScope N_odd_tuples ["m"] (defScope S_odd_tuples) := ⟨rfl, rfl, rfl, by decide +kernel, rfl, by decide +kernel, by decide +kernel⟩
def b_odd_tuples : SDen :=
  sRet (dCB cSumA (aCons (dCalP F_divisors_of (aCons (dVar 0) (aNil))) (aNil)))
def F_odd_tuples : FP := bodyP 1 1 b_odd_tuples
theorem ok_odd_tuples {P : Program} {w : World} {K : PySem.W.Frag} {mg : Str → Option Value} {base : Heap} {f : Addr} {fd : FuncData} (FD : FnP K "odd_tuples" S_odd_tuples f fd) (c_divisors_of : Cal P w K mg base 2 "divisors_of" (spP K F_divisors_of)) (g_sum : mg "sum" = none) :
    FnG P w K mg base CX0 3 f fd ["m"] (spP K F_odd_tuples) := by
  have sc := sc_odd_tuples
  refine fnP_of (N := N_odd_tuples) FD sc_odd_tuples fun cdv A outer s H E hr => ?_
  exact mss_one (ms_ret (me_cb (c_sumA rfl) mc_sumA rfl g_sum (by decide +kernel) (ma_cons (me_calP c_divisors_of hr (by decide) rfl (ma_cons (me_var 0) (ma_nil))) (ma_nil))))
theorem cal_odd_tuples {P : Program} {w : World} {K : PySem.W.Frag} {mg : Str → Option Value} {base : Heap} {f : Addr} {fd : FuncData} (FD : FnP K "odd_tuples" S_odd_tuples f fd) (hm : mg "odd_tuples" = some (.ref f)) (c_divisors_of : Cal P w K mg base 2 "divisors_of" (spP K F_divisors_of)) (g_sum : mg "sum" = none) :
    Cal P w K mg base 3 "odd_tuples" (spP K F_odd_tuples) := ⟨f, fd, _, ok_odd_tuples FD c_divisors_of g_sum, hm, FD.kp, FD.bindsN fun _ _ _ _ _ _ us hl => match us, hl with | [_], _ => rfl⟩
/-! ### _law_sign -/
abbrev S_n_law_sign : Stmt := top 25
abbrev N_n_law_sign : List Str := ["one"]
theorem sc_n_law_sign : FnScope N_n_law_sign ["one"] (defScope S_n_law_sign) := ⟨rfl, rfl, rfl, by decide +kernel, rfl, by decide +kernel, by decide +kernel⟩
def b_n_law_sign : SDen :=
  sRet (dOp gSub (dC (.int 1)) (dOp gMul (dC (.int 2)) (dOp gMod (dCB cInt (aCons (dOp gDiv (dOp gSub (dOp gIx (dVar 0) (dC (.int 0))) (dOp gIx (dVar 0) (dC (.int 2)))) (dC (.int 2))) (aNil))) (dC (.int 2)))))
def F_n_law_sign : FP := bodyP 1 1 b_n_law_sign
theorem ok_n_law_sign {P : Program} {w : World} {K : PySem.W.Frag} {mg : Str → Option Value} {base : Heap} {f : Addr} {fd : FuncData} (FD : FnP K "_law_sign" S_n_law_sign f fd) (g_int : mg "int" = none) :
    FnG P w K mg base CX0 1 f fd ["one"] (spP K F_n_law_sign) := by
  have sc := sc_n_law_sign
  refine fnP_of (N := N_n_law_sign) FD sc_n_law_sign fun cdv A outer s H E hr => ?_
  exact mss_one (ms_ret (me_op o_sub m_sub (me_int) (me_op o_mul m_mul (me_int) (me_op o_mod m_mod (me_ct call_int1 mc_int rfl g_int (by decide +kernel) (ma_cons (me_op o_div m_div (me_op o_sub m_sub (me_ix (me_var 0) (me_int)) (me_ix (me_var 0) (me_int))) (me_int)) (ma_nil))) (me_int)))))
theorem cal_n_law_sign {P : Program} {w : World} {K : PySem.W.Frag} {mg : Str → Option Value} {base : Heap} {f : Addr} {fd : FuncData} (FD : FnP K "_law_sign" S_n_law_sign f fd) (hm : mg "_law_sign" = some (.ref f)) (g_int : mg "int" = none) :
    Cal P w K mg base 1 "_law_sign" (spP K F_n_law_sign) := ⟨f, fd, _, ok_n_law_sign FD g_int, hm, FD.kp, FD.bindsN fun _ _ _ _ _ _ us hl => match us, hl with | [_], _ => rfl⟩
/-! ### sign_by_four -/
abbrev S_sign_by_four : Stmt := top 4
abbrev N_sign_by_four : List Str := ["d"]
theorem sc_sign_by_four : FnScope N_sign_by_four ["d"] (defScope S_sign_by_four) := ⟨rfl, rfl, rfl, by decide +kernel, rfl, by decide +kernel, by decide +kernel⟩
def b_sign_by_four : SDen :=
  sRet (dOp gIx (dTup (aCons (dC (.int 0)) (aCons (dC (.int 1)) (aCons (dC (.int 0)) (aCons (dUn gNeg (dC (.int 1))) (aNil)))))) (dOp gMod (dVar 0) (dC (.int 4))))
def F_sign_by_four : FP := bodyP 1 1 b_sign_by_four
theorem ok_sign_by_four {P : Program} {w : World} {K : PySem.W.Frag} {mg : Str → Option Value} {base : Heap} {f : Addr} {fd : FuncData} (FD : FnP K "sign_by_four" S_sign_by_four f fd) :
    FnG P w K mg base CX0 1 f fd ["d"] (spP K F_sign_by_four) := by
  have sc := sc_sign_by_four
  refine fnP_of (N := N_sign_by_four) FD sc_sign_by_four fun cdv A outer s H E hr => ?_
  exact mss_one (ms_ret (me_ix (me_tup (ma_cons (me_int) (ma_cons (me_int) (ma_cons (me_int) (ma_cons (me_un un_neg m_neg (me_int)) (ma_nil)))))) (me_op o_mod m_mod (me_var 0) (me_int))))
theorem cal_sign_by_four {P : Program} {w : World} {K : PySem.W.Frag} {mg : Str → Option Value} {base : Heap} {f : Addr} {fd : FuncData} (FD : FnP K "sign_by_four" S_sign_by_four f fd) (hm : mg "sign_by_four" = some (.ref f)) :
    Cal P w K mg base 1 "sign_by_four" (spP K F_sign_by_four) := ⟨f, fd, _, ok_sign_by_four FD, hm, FD.kp, FD.bindsN fun _ _ _ _ _ _ us hl => match us, hl with | [_], _ => rfl⟩
/-! ### signs_by_four -/
abbrev S_signs_by_four : Stmt := top 5
abbrev N_signs_by_four : List Str := ["m", "d"]
theorem sc_signs_by_four : FnScope N_signs_by_four ["m"] (defScope S_signs_by_four) := ⟨rfl, rfl, rfl, by decide +kernel, rfl, by decide +kernel, by decide +kernel⟩
def b_signs_by_four : SDen :=
  sRet (dCB cSumA (aCons (dLc (iSeq (dCalP F_divisors_of (aCons (dVar 0) (aNil)))) (nN 1) (tYesD) (dCalP F_sign_by_four (aCons (dVar 1) (aNil))) [1]) (aNil)))
def F_signs_by_four : FP := bodyP 1 2 b_signs_by_four
theorem ok_signs_by_four {P : Program} {w : World} {K : PySem.W.Frag} {mg : Str → Option Value} {base : Heap} {f : Addr} {fd : FuncData} (FD : FnP K "signs_by_four" S_signs_by_four f fd) (c_divisors_of : Cal P w K mg base 2 "divisors_of" (spP K F_divisors_of)) (c_sign_by_four : Cal P w K mg base 1 "sign_by_four" (spP K F_sign_by_four)) (g_sum : mg "sum" = none) :
    FnG P w K mg base CX0 3 f fd ["m"] (spP K F_signs_by_four) := by
  have sc := sc_signs_by_four
  refine fnP_of (N := N_signs_by_four) FD sc_signs_by_four fun cdv A outer s H E hr => ?_
  exact mss_one (ms_ret (me_cb (c_sumA rfl) mc_sumA rfl g_sum (by decide +kernel) (ma_cons (me_lc rfl sc.nd (own := [("d", 1)]) (by decide) (mi_seq (me_calP c_divisors_of hr (by decide) rfl (ma_cons (me_var 0) (ma_nil)))) (blk_mk N_signs_by_four (defScope S_signs_by_four) rfl rfl rfl (by decide +kernel) (by decide +kernel) (by decide +kernel) (by decide +kernel)) (fun _ _ _ _ _ => mn_name sc.nd rfl) (fun _ _ _ _ _ => mts_nil) (fun _ _ _ _ _ => me_calP c_sign_by_four hr (by decide) rfl (ma_cons (me_var 1) (ma_nil)))) (ma_nil))))
theorem cal_signs_by_four {P : Program} {w : World} {K : PySem.W.Frag} {mg : Str → Option Value} {base : Heap} {f : Addr} {fd : FuncData} (FD : FnP K "signs_by_four" S_signs_by_four f fd) (hm : mg "signs_by_four" = some (.ref f)) (c_divisors_of : Cal P w K mg base 2 "divisors_of" (spP K F_divisors_of)) (c_sign_by_four : Cal P w K mg base 1 "sign_by_four" (spP K F_sign_by_four)) (g_sum : mg "sum" = none) :
    Cal P w K mg base 3 "signs_by_four" (spP K F_signs_by_four) := ⟨f, fd, _, ok_signs_by_four FD c_divisors_of c_sign_by_four g_sum, hm, FD.kp, FD.bindsN fun _ _ _ _ _ _ us hl => match us, hl with | [_], _ => rfl⟩
/-! ### count_two_squares -/
abbrev S_count_two_squares : Stmt := top 6
abbrev N_count_two_squares : List Str := ["m"]
theorem sc_count_two_squares : FnScope N_count_two_squares ["m"] (defScope S_count_two_squares) := ⟨rfl, rfl, rfl, by decide +kernel, rfl, by decide +kernel, by decide +kernel⟩
def b_count_two_squares : SDen :=
  sSeq (sIf (asB (dOp gEqA (dVar 0) (dC (.int 0)))) (sRet (dC (.int 1))) (sNil)) <|
  sRet (dOp gMul (dC (.int 4)) (dCalP F_signs_by_four (aCons (dVar 0) (aNil))))
def F_count_two_squares : FP := bodyP 1 1 b_count_two_squares
theorem ok_count_two_squares {P : Program} {w : World} {K : PySem.W.Frag} {mg : Str → Option Value} {base : Heap} {f : Addr} {fd : FuncData} (FD : FnP K "count_two_squares" S_count_two_squares f fd) (c_signs_by_four : Cal P w K mg base 3 "signs_by_four" (spP K F_signs_by_four)) :
    FnG P w K mg base CX0 4 f fd ["m"] (spP K F_count_two_squares) := by
  have sc := sc_count_two_squares
  refine fnP_of (N := N_count_two_squares) FD sc_count_two_squares fun cdv A outer s H E hr => ?_
  exact mss_cons (ms_if (mt_cmp (o_eqA hr.u64) m_eqA (me_var 0) (me_int) (nomark _)) (mss_one (ms_ret (me_int))) (mss_nil)) <|
  mss_one (ms_ret (me_op o_mul m_mul (me_int) (me_calP c_signs_by_four hr (by decide) rfl (ma_cons (me_var 0) (ma_nil)))))
theorem cal_count_two_squares {P : Program} {w : World} {K : PySem.W.Frag} {mg : Str → Option Value} {base : Heap} {f : Addr} {fd : FuncData} (FD : FnP K "count_two_squares" S_count_two_squares f fd) (hm : mg "count_two_squares" = some (.ref f)) (c_signs_by_four : Cal P w K mg base 3 "signs_by_four" (spP K F_signs_by_four)) :
    Cal P w K mg base 4 "count_two_squares" (spP K F_count_two_squares) := ⟨f, fd, _, ok_count_two_squares FD c_signs_by_four, hm, FD.kp, FD.bindsN fun _ _ _ _ _ _ us hl => match us, hl with | [_], _ => rfl⟩
/-! ### odd_part -/
abbrev S_odd_part : Stmt := top 8
abbrev N_odd_part : List Str := ["m"]
theorem sc_odd_part : FnScope N_odd_part ["m"] (defScope S_odd_part) := ⟨rfl, rfl, rfl, by decide +kernel, rfl, by decide +kernel, by decide +kernel⟩
def w1c_odd_part : TDen := asB (dOp gEqA (dOp gMod (dVar 0) (dC (.int 2))) (dC (.int 0)))
def w1b_odd_part : SDen :=
  sAsg (dOp gDiv (dVar 0) (dC (.int 2))) (gN 0)
def b_odd_part : SDen :=
  sSeq (whileN (w1c_odd_part) (w1b_odd_part) 1000000000000000000000000000000000000000000000000000000000000) <|
  sRet (dVar 0)
def F_odd_part : FP := bodyP 1 1 b_odd_part
theorem ok_odd_part {P : Program} {w : World} {K : PySem.W.Frag} {mg : Str → Option Value} {base : Heap} {f : Addr} {fd : FuncData} (FD : FnP K "odd_part" S_odd_part f fd) :
    FnG P w K mg base CX0 1 f fd ["m"] (spP K F_odd_part) := by
  have sc := sc_odd_part
  refine fnP_of (N := N_odd_part) FD sc_odd_part fun cdv A outer s H E hr => ?_
  exact mss_cons (ms_while 1000000000000000000000000000000000000000000000000000000000000 PassesOwn.never (mt_cmp (o_eqA hr.u64) m_eqA (me_op o_mod m_mod (me_var 0) (me_int)) (me_int) (nomark _)) (mss_one (ms_set (i := 0) sc.nd rfl (me_op o_div m_div (me_var 0) (me_int))))) <|
  mss_one (ms_ret (me_var 0))
theorem cal_odd_part {P : Program} {w : World} {K : PySem.W.Frag} {mg : Str → Option Value} {base : Heap} {f : Addr} {fd : FuncData} (FD : FnP K "odd_part" S_odd_part f fd) (hm : mg "odd_part" = some (.ref f)) :
    Cal P w K mg base 1 "odd_part" (spP K F_odd_part) := ⟨f, fd, _, ok_odd_part FD, hm, FD.kp, FD.bindsN fun _ _ _ _ _ _ us hl => match us, hl with | [_], _ => rfl⟩
/-! ### count_four_squares -/
abbrev S_count_four_squares : Stmt := top 9
abbrev N_count_four_squares : List Str := ["m", "total"]
theorem sc_count_four_squares : FnScope N_count_four_squares ["m"] (defScope S_count_four_squares) := ⟨rfl, rfl, rfl, by decide +kernel, rfl, by decide +kernel, by decide +kernel⟩
def b_count_four_squares : SDen :=
  sSeq (sIf (asB (dOp gEqA (dVar 0) (dC (.int 0)))) (sRet (dC (.int 1))) (sNil)) <|
  sSeq (sAsg (dCB cSumA (aCons (dCalP F_divisors_of (aCons (dCalP F_odd_part (aCons (dVar 0) (aNil))) (aNil))) (aNil))) (gN 1)) <|
  sSeq (sIf (asB (dOp gEqA (dOp gMod (dVar 0) (dC (.int 2))) (dC (.int 1)))) (sRet (dOp gMul (dC (.int 8)) (dVar 1))) (sNil)) <|
  sRet (dOp gMul (dC (.int 24)) (dVar 1))
def F_count_four_squares : FP := bodyP 1 2 b_count_four_squares
theorem ok_count_four_squares {P : Program} {w : World} {K : PySem.W.Frag} {mg : Str → Option Value} {base : Heap} {f : Addr} {fd : FuncData} (FD : FnP K "count_four_squares" S_count_four_squares f fd) (c_divisors_of : Cal P w K mg base 2 "divisors_of" (spP K F_divisors_of)) (c_odd_part : Cal P w K mg base 1 "odd_part" (spP K F_odd_part)) (g_sum : mg "sum" = none) :
    FnG P w K mg base CX0 3 f fd ["m"] (spP K F_count_four_squares) := by
  have sc := sc_count_four_squares
  refine fnP_of (N := N_count_four_squares) FD sc_count_four_squares fun cdv A outer s H E hr => ?_
  exact mss_cons (ms_if (mt_cmp (o_eqA hr.u64) m_eqA (me_var 0) (me_int) (nomark _)) (mss_one (ms_ret (me_int))) (mss_nil)) <|
  mss_cons (ms_set (i := 1) sc.nd rfl (me_cb (c_sumA rfl) mc_sumA rfl g_sum (by decide +kernel) (ma_cons (me_calP c_divisors_of hr (by decide) rfl (ma_cons (me_calP c_odd_part hr (by decide) rfl (ma_cons (me_var 0) (ma_nil))) (ma_nil))) (ma_nil)))) <|
  mss_cons (ms_if (mt_cmp (o_eqA hr.u64) m_eqA (me_op o_mod m_mod (me_var 0) (me_int)) (me_int) (nomark _)) (mss_one (ms_ret (me_op o_mul m_mul (me_int) (me_var 1)))) (mss_nil)) <|
  mss_one (ms_ret (me_op o_mul m_mul (me_int) (me_var 1)))
theorem cal_count_four_squares {P : Program} {w : World} {K : PySem.W.Frag} {mg : Str → Option Value} {base : Heap} {f : Addr} {fd : FuncData} (FD : FnP K "count_four_squares" S_count_four_squares f fd) (hm : mg "count_four_squares" = some (.ref f)) (c_divisors_of : Cal P w K mg base 2 "divisors_of" (spP K F_divisors_of)) (c_odd_part : Cal P w K mg base 1 "odd_part" (spP K F_odd_part)) (g_sum : mg "sum" = none) :
    Cal P w K mg base 3 "count_four_squares" (spP K F_count_four_squares) := ⟨f, fd, _, ok_count_four_squares FD c_divisors_of c_odd_part g_sum, hm, FD.kp, FD.bindsN fun _ _ _ _ _ _ us hl => match us, hl with | [_], _ => rfl⟩
/-! ### has_two_squares -/
abbrev S_has_two_squares : Stmt := top 7
abbrev N_has_two_squares : List Str := ["m"]
theorem sc_has_two_squares : FnScope N_has_two_squares ["m"] (defScope S_has_two_squares) := ⟨rfl, rfl, rfl, by decide +kernel, rfl, by decide +kernel, by decide +kernel⟩
def b_has_two_squares : SDen :=
  sRet (dOp gGt (dCalP F_signs_by_four (aCons (dVar 0) (aNil))) (dC (.int 0)))
def F_has_two_squares : FP := bodyP 1 1 b_has_two_squares
theorem ok_has_two_squares {P : Program} {w : World} {K : PySem.W.Frag} {mg : Str → Option Value} {base : Heap} {f : Addr} {fd : FuncData} (FD : FnP K "has_two_squares" S_has_two_squares f fd) (c_signs_by_four : Cal P w K mg base 3 "signs_by_four" (spP K F_signs_by_four)) :
    FnG P w K mg base CX0 4 f fd ["m"] (spP K F_has_two_squares) := by
  have sc := sc_has_two_squares
  refine fnP_of (N := N_has_two_squares) FD sc_has_two_squares fun cdv A outer s H E hr => ?_
  exact mss_one (ms_ret (me_cmp op_gt m_gt (me_calP c_signs_by_four hr (by decide) rfl (ma_cons (me_var 0) (ma_nil))) (me_int) (nomark _)))
theorem cal_has_two_squares {P : Program} {w : World} {K : PySem.W.Frag} {mg : Str → Option Value} {base : Heap} {f : Addr} {fd : FuncData} (FD : FnP K "has_two_squares" S_has_two_squares f fd) (hm : mg "has_two_squares" = some (.ref f)) (c_signs_by_four : Cal P w K mg base 3 "signs_by_four" (spP K F_signs_by_four)) :
    Cal P w K mg base 4 "has_two_squares" (spP K F_has_two_squares) := ⟨f, fd, _, ok_has_two_squares FD c_signs_by_four, hm, FD.kp, FD.bindsN fun _ _ _ _ _ _ us hl => match us, hl with | [_], _ => rfl⟩
/-! ### doubled -/
abbrev S_doubled : Stmt := top 19
abbrev N_doubled : List Str := ["one", "x", "y", "z", "w"]
theorem sc_doubled : FnScope N_doubled ["one"] (defScope S_doubled) := ⟨rfl, rfl, rfl, by decide +kernel, rfl, by decide +kernel, by decide +kernel⟩
def b_doubled : SDen :=
  sSeq (sAsg (dVar 0) (gOf (nT 4 (nsCons (nN 1) (nsCons (nN 2) (nsCons (nN 3) (nsCons (nN 4) (nsNil)))))))) <|
  sRet (dTup (aCons (dOp gAdd (dVar 1) (dVar 2)) (aCons (dOp gSub (dVar 1) (dVar 2)) (aCons (dOp gAdd (dVar 3) (dVar 4)) (aCons (dOp gSub (dVar 3) (dVar 4)) (aNil))))))
def F_doubled : FP := bodyP 1 5 b_doubled
theorem ok_doubled {P : Program} {w : World} {K : PySem.W.Frag} {mg : Str → Option Value} {base : Heap} {f : Addr} {fd : FuncData} (FD : FnP K "doubled" S_doubled f fd) :
    FnG P w K mg base CX0 1 f fd ["one"] (spP K F_doubled) := by
  have sc := sc_doubled
  refine fnP_of (N := N_doubled) FD sc_doubled fun cdv A outer s H E hr => ?_
  exact mss_cons (ms_asg (me_var 0) (mg_of (mn_tup rfl (mns_cons (mn_name sc.nd rfl) (mns_cons (mn_name sc.nd rfl) (mns_cons (mn_name sc.nd rfl) (mns_cons (mn_name sc.nd rfl) (mns_nil)))))))) <|
  mss_one (ms_ret (me_tup (ma_cons (me_op (o_add op_add_str) m_add (me_var 1) (me_var 2)) (ma_cons (me_op o_sub m_sub (me_var 1) (me_var 2)) (ma_cons (me_op (o_add op_add_str) m_add (me_var 3) (me_var 4)) (ma_cons (me_op o_sub m_sub (me_var 3) (me_var 4)) (ma_nil)))))))
theorem cal_doubled {P : Program} {w : World} {K : PySem.W.Frag} {mg : Str → Option Value} {base : Heap} {f : Addr} {fd : FuncData} (FD : FnP K "doubled" S_doubled f fd) (hm : mg "doubled" = some (.ref f)) :
    Cal P w K mg base 1 "doubled" (spP K F_doubled) := ⟨f, fd, _, ok_doubled FD, hm, FD.kp, FD.bindsN fun _ _ _ _ _ _ us hl => match us, hl with | [_], _ => rfl⟩
/-! ### law -/
abbrev S_law : Stmt := top 27
abbrev N_law : List Str := ["script", "source", "m", "every", "divisors", "one", "x", "k", "squares", "two", "s", "told", "fits", "odd", "pairs", "y", "z", "w", "d", "late", "i", "a"]
theorem sc_law : FnScope N_law ["script"] (defScope S_law) := ⟨rfl, rfl, rfl, by decide +kernel, rfl, by decide +kernel, by decide +kernel⟩
def f1b_law : SDen :=
  sSeq (sIf (asB (dOp gNeA (dCB cRepr (aCons (dCalP F_quadruple_sign (aCons (dVar 5) (aNil))) (aNil))) (dCB cRepr (aCons (dCalP F_n_law_sign (aCons (dVar 5) (aNil))) (aNil))))) (sRet (dC (.bl false))) (sNil)) <|
  sIf (asB (dOp gNeA (dOp gIx (dVar 5) (dC (.int 0))) (dOp gIx (dVar 5) (dC (.int 2))))) (sSeq (sAsg (dCalP F_turned_quadruple (aCons (dVar 5) (aNil))) (gN 19)) <|
  sSeq (sIf (tbOr (asB (dOp gNotIn (dVar 19) (dVar 3))) (tbOr (asB (dOp gEqA (dCalP F_n_law_sign (aCons (dVar 19) (aNil))) (dCalP F_n_law_sign (aCons (dVar 5) (aNil))))) (asB (dOp gNeA (dCalP F_turned_quadruple (aCons (dVar 19) (aNil))) (dVar 5))))) (sRet (dC (.bl false))) (sNil)) <|
  sIf (tbOr (asB (dOp gNeA (dOp gGt (dOp gIx (dVar 19) (dC (.int 0))) (dOp gIx (dVar 19) (dC (.int 2)))) (dOp gGt (dOp gIx (dVar 5) (dC (.int 0))) (dOp gIx (dVar 5) (dC (.int 2)))))) (asB (dOp gNeA (dCB cAbs (aCons (dOp gSub (dOp gIx (dVar 19) (dC (.int 0))) (dOp gIx (dVar 19) (dC (.int 2)))) (aNil))) (dOp gAdd (dOp gIx (dVar 5) (dC (.int 1))) (dOp gIx (dVar 5) (dC (.int 3))))))) (sRet (dC (.bl false))) (sNil)) (sNil)
def f2b_law : SDen :=
  sSet (dVar 14) (dOp gAdd (dVar 6) (dVar 15)) (dOp gAdd (dGet (some (dC (.int 0))) (dVar 14) (dOp gAdd (dVar 6) (dVar 15))) (dC (.int 1)))
def f3b_law : SDen :=
  sFor (iSeq (dVar 13)) (gOf (nN 15)) (f2b_law)
def f4b_law : SDen :=
  sSet (dVar 8) (dOp gMul (dVar 6) (dVar 6)) (dC (.int 2))
def f5b_law : SDen :=
  sSet (dVar 9) (dVar 10) (dCalM F_n_law_pairs (aCons (dVar 10) (aCons (dVar 8) (aNil))))
def b_law : SDen :=
  sSeq (sAsg (dCalM PG.F_n_law_source (aCons (dVar 0) (aNil))) (gN 1)) <|
  sSeq (sAsg (dOp gAdd (dC (.int 1)) (dOp gMul (dC (.int 2)) (dCalM PG.F_n_law_pick (aCons (dVar 1) (aCons (dC (.int 14)) (aNil)))))) (gN 2)) <|
  sSeq (sAsg (dCalP F_n_law_quadruples (aCons (dVar 2) (aNil))) (gN 3)) <|
  sSeq (sAsg (dLc (iRange2 (aCons (dC (.int 1)) (aCons (dOp gAdd (dVar 2) (dC (.int 1))) (aNil)))) (nN 18) (asB (dOp gEqA (dOp gMod (dCB cInt (aCons (dVar 2) (aNil))) (dVar 18)) (dC (.int 0)))) (dVar 18) [18]) (gN 4)) <|
  sSeq (sIf (tbOr (asB (dOp gNeA (dCB cRepr (aCons (dCalP F_odd_quadruples (aCons (dVar 2) (aNil))) (aNil))) (dCB cRepr (aCons (dCB cTuple (aCons (dVar 3) (aNil))) (aNil))))) (asB (dOp gNeA (dCB cRepr (aCons (dCalP F_divisors_of (aCons (dVar 2) (aNil))) (aNil))) (dCB cRepr (aCons (dCB cTuple (aCons (dVar 4) (aNil))) (aNil)))))) (sRet (dC (.bl false))) (sNil)) <|
  sSeq (sFor (iSeq (dVar 3)) (gOf (nN 5)) (f1b_law)) <|
  sSeq (sIf (asB (dOp gNeA (dCB cRepr (aCons (dCalP F_signs_added (aCons (dVar 2) (aNil))) (aNil))) (dCB cRepr (aCons (dCB cSumA (aCons (dLc (iSeq (dVar 3)) (nN 5) (tYesD) (dCalP F_n_law_sign (aCons (dVar 5) (aNil))) [5]) (aNil))) (aNil))))) (sRet (dC (.bl false))) (sNil)) <|
  sSeq (sPar [13, 14] (aCons (dLc (iRange3 (aCons (dC (.int 1)) (aCons (dOp gAdd (dOp gMul (dC (.int 2)) (dVar 2)) (dC (.int 2))) (aCons (dC (.int 2)) (aNil))))) (nN 6) (tYesD) (dOp gMul (dVar 6) (dVar 6)) [6]) (aCons (dNewD) (aNil)))) <|
  sSeq (sFor (iSeq (dVar 13)) (gOf (nN 6)) (f3b_law)) <|
  sSeq (sIf (asB (dOp gNeA (dCB cRepr (aCons (dCalP F_odd_tuples (aCons (dVar 2) (aNil))) (aNil))) (dCB cRepr (aCons (dCalM F_n_law_pairs (aCons (dOp gMul (dC (.int 4)) (dVar 2)) (aCons (dVar 14) (aNil)))) (aNil))))) (sRet (dC (.bl false))) (sNil)) <|
  sSeq (sAsg (dCalM PG.F_n_law_pick (aCons (dVar 1) (aCons (dC (.int 200)) (aNil)))) (gN 7)) <|
  sSeq (sAsg (dDisp [(.inl 0, dC (.int 1))]) (gN 8)) <|
  sSeq (sFor (iRange2 (aCons (dC (.int 1)) (aCons (dC (.int 15)) (aNil)))) (gOf (nN 6)) (f4b_law)) <|
  sSeq (sAsg (dNewD) (gN 9)) <|
  sSeq (sFor (iRange1 (aCons (dOp gAdd (dVar 7) (dC (.int 1))) (aNil))) (gOf (nN 10)) (f5b_law)) <|
  sSeq (sIf (asB (dOp gNeA (dCB cRepr (aCons (dLst (aCons (dCalP F_count_two_squares (aCons (dVar 7) (aNil))) (aCons (dCalP F_count_four_squares (aCons (dVar 7) (aNil))) (aNil)))) (aNil))) (dCB cRepr (aCons (dLst (aCons (dOp gItem (dVar 9) (dVar 7)) (aCons (dCalM F_n_law_pairs (aCons (dVar 7) (aCons (dVar 9) (aNil)))) (aNil)))) (aNil))))) (sRet (dC (.bl false))) (sNil)) <|
  sSeq (sIf (tbAnd (asB (dOp gGt (dVar 7) (dC (.int 0)))) (asB (dOp gNeA (dCB cRepr (aCons (dCalP F_has_two_squares (aCons (dVar 7) (aNil))) (aNil))) (dCB cRepr (aCons (dOp gGt (dOp gItem (dVar 9) (dVar 7)) (dC (.int 0))) (aNil)))))) (sRet (dC (.bl false))) (sNil)) <|
  sSeq (sIf (tbAnd (asB (dOp gGt (dVar 7) (dC (.int 0)))) (asB (dOp gNeA (dCB cRepr (aCons (dCalP F_divisors_of (aCons (dVar 7) (aNil))) (aNil))) (dCB cRepr (aCons (dCB cTuple (aCons (dLc (iRange2 (aCons (dC (.int 1)) (aCons (dOp gAdd (dVar 7) (dC (.int 1))) (aNil)))) (nN 18) (asB (dOp gEqA (dOp gMod (dCB cInt (aCons (dVar 7) (aNil))) (dVar 18)) (dC (.int 0)))) (dVar 18) [18]) (aNil))) (aNil)))))) (sRet (dC (.bl false))) (sNil)) <|
  sSeq (sAsg (dCB cTuple (aCons (dLc (iRange1 (aCons (dC (.int 4)) (aNil))) (nN 20) (tYesD) (dOp gSub (dCalM PG.F_n_law_pick (aCons (dVar 1) (aCons (dC (.int 200)) (aNil)))) (dC (.int 100))) [20]) (aNil))) (gN 5)) <|
  sSeq (sAsg (dVar 5) (gOf (nT 4 (nsCons (nN 6) (nsCons (nN 15) (nsCons (nN 16) (nsCons (nN 17) (nsNil)))))))) <|
  sSeq (sIf (tbOr (asB (dOp gNeA (dCB cRepr (aCons (dCalP F_doubled (aCons (dVar 5) (aNil))) (aNil))) (dCB cRepr (aCons (dTup (aCons (dOp gAdd (dVar 6) (dVar 15)) (aCons (dOp gSub (dVar 6) (dVar 15)) (aCons (dOp gAdd (dVar 16) (dVar 17)) (aCons (dOp gSub (dVar 16) (dVar 17)) (aNil)))))) (aNil))))) (asB (dOp gNeA (dCalP F_halved (aCons (dCalP F_doubled (aCons (dVar 5) (aNil))) (aNil))) (dVar 5)))) (sRet (dC (.bl false))) (sNil)) <|
  sSeq (sIf (asB (dOp gNeA (dCB cSumA (aCons (dLc (iSeq (dCalP F_doubled (aCons (dVar 5) (aNil)))) (nN 21) (tYesD) (dOp gMul (dVar 21) (dVar 21)) [21]) (aNil))) (dOp gMul (dC (.int 2)) (dCB cSumA (aCons (dLc (iSeq (dVar 5)) (nN 21) (tYesD) (dOp gMul (dVar 21) (dVar 21)) [21]) (aNil)))))) (sRet (dC (.bl false))) (sNil)) <|
  sSeq (sAsg (dCalP F_halved (aCons (dVar 5) (aNil))) (gN 11)) <|
  sSeq (sAsg (dAnd (dOp gEqA (dOp gMod (dCB cInt (aCons (dOp gSub (dVar 6) (dVar 15)) (aNil))) (dC (.int 2))) (dC (.int 0))) (dOp gEqA (dOp gMod (dCB cInt (aCons (dOp gSub (dVar 16) (dVar 17)) (aNil))) (dC (.int 2))) (dC (.int 0)))) (gN 12)) <|
  sRet (dAnd (dOp gEqA (dOp gNotN (dVar 11) (dC .non)) (dVar 12)) (dOr (dOp gIsN (dVar 11) (dC .non)) (dOp gEqA (dCalP F_doubled (aCons (dVar 11) (aNil))) (dVar 5))))
def F_law : FP := bodyP 1 22 b_law
theorem ok_law {P : Program} {w : World} {K : PySem.W.Frag} {mg : Str → Option Value} {base : Heap} {f : Addr} {fd : FuncData} (FD : FnP K "law" S_law f fd) (c_n_law_source : Cal P w K mg base 1 "_law_source" (spM K PG.F_n_law_source)) (c_n_law_pick : Cal P w K mg base 1 "_law_pick" (spM K PG.F_n_law_pick)) (c_n_law_quadruples : Cal P w K mg base 1 "_law_quadruples" (spP K F_n_law_quadruples)) (c_odd_quadruples : Cal P w K mg base 4 "odd_quadruples" (spP K F_odd_quadruples)) (c_divisors_of : Cal P w K mg base 2 "divisors_of" (spP K F_divisors_of)) (c_quadruple_sign : Cal P w K mg base 1 "quadruple_sign" (spP K F_quadruple_sign)) (c_n_law_sign : Cal P w K mg base 1 "_law_sign" (spP K F_n_law_sign)) (c_turned_quadruple : Cal P w K mg base 2 "turned_quadruple" (spP K F_turned_quadruple)) (c_signs_added : Cal P w K mg base 5 "signs_added" (spP K F_signs_added)) (c_odd_tuples : Cal P w K mg base 3 "odd_tuples" (spP K F_odd_tuples)) (c_n_law_pairs : Cal P w K mg base 1 "_law_pairs" (spM K F_n_law_pairs)) (c_count_four_squares : Cal P w K mg base 3 "count_four_squares" (spP K F_count_four_squares)) (c_count_two_squares : Cal P w K mg base 4 "count_two_squares" (spP K F_count_two_squares)) (c_has_two_squares : Cal P w K mg base 4 "has_two_squares" (spP K F_has_two_squares)) (c_doubled : Cal P w K mg base 1 "doubled" (spP K F_doubled)) (c_halved : Cal P w K mg base 1 "halved" (spP K F_halved)) (g_range : mg "range" = none) (g_int : mg "int" = none) (g_repr : mg "repr" = none) (g_tuple : mg "tuple" = none) (g_abs : mg "abs" = none) (g_sum : mg "sum" = none) :
    FnG P w K mg base CX0 6 f fd ["script"] (spP K F_law) := by
  have sc := sc_law
  refine fnP_of (N := N_law) FD sc_law fun cdv A outer s H E hr => ?_
  exact mss_cons (ms_set (i := 1) sc.nd rfl (me_calM c_n_law_source hr (by decide) rfl (ma_cons (me_var 0) (ma_nil)))) <|
  mss_cons (ms_set (i := 2) sc.nd rfl (me_op (o_add op_add_str) m_add (me_int) (me_op o_mul m_mul (me_int) (me_calM c_n_law_pick hr (by decide) rfl (ma_cons (me_var 1) (ma_cons (me_int) (ma_nil))))))) <|
  mss_cons (ms_set (i := 3) sc.nd rfl (me_calP c_n_law_quadruples hr (by decide) rfl (ma_cons (me_var 2) (ma_nil)))) <|
  mss_cons (ms_setLc (i := 4) rfl sc.nd rfl rfl (sw_true rfl rfl rfl rfl) (own := [("d", 18)]) (by decide) (mi_range2 rfl g_range (ma_cons (me_int) (ma_cons (me_op (o_add op_add_str) m_add (me_var 2) (me_int)) (ma_nil)))) (blk_mk N_law (defScope S_law) rfl rfl rfl (by decide +kernel) (by decide +kernel) (by decide +kernel) (by decide +kernel)) (fun _ _ _ _ _ => mn_name sc.nd rfl) (fun _ _ _ _ _ => mts_one (mt_cmp (o_eqA hr.u64) m_eqA (me_op o_mod m_mod (me_ct call_int1 mc_int rfl g_int (by decide +kernel) (ma_cons (me_var 2) (ma_nil))) (me_var 18)) (me_int) (nomark _))) (fun _ _ _ _ _ => me_var 18)) <|
  mss_cons (ms_if (MW.pt (mw_or (mt_cmp (o_neA hr.u64) m_neA (me_cb (c_repr hr.gd hr.u64) mc_repr rfl g_repr (by decide +kernel) (ma_cons (me_calP c_odd_quadruples hr (by decide) rfl (ma_cons (me_var 2) (ma_nil))) (ma_nil))) (me_cb (c_repr hr.gd hr.u64) mc_repr rfl g_repr (by decide +kernel) (ma_cons (me_ct call_tuple_of mc_tuple rfl g_tuple (by decide +kernel) (ma_cons (me_var 3) (ma_nil))) (ma_nil))) (nomark _)) (mw_or1 (mt_cmp (o_neA hr.u64) m_neA (me_cb (c_repr hr.gd hr.u64) mc_repr rfl g_repr (by decide +kernel) (ma_cons (me_calP c_divisors_of hr (by decide) rfl (ma_cons (me_var 2) (ma_nil))) (ma_nil))) (me_cb (c_repr hr.gd hr.u64) mc_repr rfl g_repr (by decide +kernel) (ma_cons (me_ct call_tuple_of mc_tuple rfl g_tuple (by decide +kernel) (ma_cons (me_var 4) (ma_nil))) (ma_nil))) (nomark _))))) (mss_one (ms_ret (me_bl))) (mss_nil)) <|
  mss_cons (ms_for PassesOwn.never rfl (mi_seq (me_var 3)) (mg_of (mn_name sc.nd rfl)) (mss_cons (ms_if (mt_cmp (o_neA hr.u64) m_neA (me_cb (c_repr hr.gd hr.u64) mc_repr rfl g_repr (by decide +kernel) (ma_cons (me_calP c_quadruple_sign hr (by decide) rfl (ma_cons (me_var 5) (ma_nil))) (ma_nil))) (me_cb (c_repr hr.gd hr.u64) mc_repr rfl g_repr (by decide +kernel) (ma_cons (me_calP c_n_law_sign hr (by decide) rfl (ma_cons (me_var 5) (ma_nil))) (ma_nil))) (nomark _)) (mss_one (ms_ret (me_bl))) (mss_nil)) <|
  mss_one (ms_if (mt_cmp (o_neA hr.u64) m_neA (me_ix (me_var 5) (me_int)) (me_ix (me_var 5) (me_int)) (nomark _)) (mss_cons (ms_set (i := 19) sc.nd rfl (me_calP c_turned_quadruple hr (by decide) rfl (ma_cons (me_var 5) (ma_nil)))) <|
  mss_cons (ms_if (MW.pt (mw_or (mt_cmp (o_notIn1 hr.u65) m_notIn (me_var 19) (me_var 3) (by rfl)) (mw_or (mt_cmp (o_eqA hr.u64) m_eqA (me_calP c_n_law_sign hr (by decide) rfl (ma_cons (me_var 19) (ma_nil))) (me_calP c_n_law_sign hr (by decide) rfl (ma_cons (me_var 5) (ma_nil))) (nomark _)) (mw_or1 (mt_cmp (o_neA hr.u64) m_neA (me_calP c_turned_quadruple hr (by decide) rfl (ma_cons (me_var 19) (ma_nil))) (me_var 5) (nomark _)))))) (mss_one (ms_ret (me_bl))) (mss_nil)) <|
  mss_one (ms_if (MW.pt (mw_or (mt_cmp (o_neA hr.u64) m_neA (me_cmp op_gt m_gt (me_ix (me_var 19) (me_int)) (me_ix (me_var 19) (me_int)) (nomark _)) (me_cmp op_gt m_gt (me_ix (me_var 5) (me_int)) (me_ix (me_var 5) (me_int)) (nomark _)) (nomark _)) (mw_or1 (mt_cmp (o_neA hr.u64) m_neA (me_cb call_abs mc_abs rfl g_abs (by decide +kernel) (ma_cons (me_op o_sub m_sub (me_ix (me_var 19) (me_int)) (me_ix (me_var 19) (me_int))) (ma_nil))) (me_op (o_add op_add_str) m_add (me_ix (me_var 5) (me_int)) (me_ix (me_var 5) (me_int))) (nomark _))))) (mss_one (ms_ret (me_bl))) (mss_nil))) (mss_nil)))) <|
  mss_cons (ms_if (mt_cmp (o_neA hr.u64) m_neA (me_cb (c_repr hr.gd hr.u64) mc_repr rfl g_repr (by decide +kernel) (ma_cons (me_calP c_signs_added hr (by decide) rfl (ma_cons (me_var 2) (ma_nil))) (ma_nil))) (me_cb (c_repr hr.gd hr.u64) mc_repr rfl g_repr (by decide +kernel) (ma_cons (me_cb (c_sumA rfl) mc_sumA rfl g_sum (by decide +kernel) (ma_cons (me_lc rfl sc.nd (own := [("one", 5)]) (by decide) (mi_seq (me_var 3)) (blk_mk N_law (defScope S_law) rfl rfl rfl (by decide +kernel) (by decide +kernel) (by decide +kernel) (by decide +kernel)) (fun _ _ _ _ _ => mn_name sc.nd rfl) (fun _ _ _ _ _ => mts_nil) (fun _ _ _ _ _ => me_calP c_n_law_sign hr (by decide) rfl (ma_cons (me_var 5) (ma_nil)))) (ma_nil))) (ma_nil))) (nomark _)) (mss_one (ms_ret (me_bl))) (mss_nil)) <|
  mss_cons (ms_par (i := 13) (j := 14) rfl sc.nd rfl rfl (ma_cons (me_lc rfl sc.nd (own := [("x", 6)]) (by decide) (mi_range3 rfl g_range (ma_cons (me_int) (ma_cons (me_op (o_add op_add_str) m_add (me_op o_mul m_mul (me_int) (me_var 2)) (me_int)) (ma_cons (me_int) (ma_nil))))) (blk_mk N_law (defScope S_law) rfl rfl rfl (by decide +kernel) (by decide +kernel) (by decide +kernel) (by decide +kernel)) (fun _ _ _ _ _ => mn_name sc.nd rfl) (fun _ _ _ _ _ => mts_nil) (fun _ _ _ _ _ => me_op o_mul m_mul (me_var 6) (me_var 6))) (ma_cons (me_newD) (ma_nil)))) <|
  mss_cons (ms_for PassesOwn.never rfl (mi_seq (me_var 13)) (mg_of (mn_name sc.nd rfl)) (mss_one (ms_for PassesOwn.never rfl (mi_seq (me_var 13)) (mg_of (mn_name sc.nd rfl)) (mss_one (ms_setItem hr.u1 (me_var 14) (me_op (o_add op_add_str) m_add (me_var 6) (me_var 15)) (me_op (o_add op_add_str) m_add (me_get2 hr.u1 (me_var 14) (me_op (o_add op_add_str) m_add (me_var 6) (me_var 15)) (me_int) ⟨rfl, rfl, rfl, rfl⟩) (me_int))))))) <|
  mss_cons (ms_if (mt_cmp (o_neA hr.u64) m_neA (me_cb (c_repr hr.gd hr.u64) mc_repr rfl g_repr (by decide +kernel) (ma_cons (me_calP c_odd_tuples hr (by decide) rfl (ma_cons (me_var 2) (ma_nil))) (ma_nil))) (me_cb (c_repr hr.gd hr.u64) mc_repr rfl g_repr (by decide +kernel) (ma_cons (me_calM c_n_law_pairs hr (by decide) rfl (ma_cons (me_op o_mul m_mul (me_int) (me_var 2)) (ma_cons (me_var 14) (ma_nil)))) (ma_nil))) (nomark _)) (mss_one (ms_ret (me_bl))) (mss_nil)) <|
  mss_cons (ms_set (i := 7) sc.nd rfl (me_calM c_n_law_pick hr (by decide) rfl (ma_cons (me_var 1) (ma_cons (me_int) (ma_nil))))) <|
  mss_cons (ms_set (i := 8) sc.nd rfl (me_disp (mps_cons pe_int (me_int) (mps_nil)) (by decide +kernel))) <|
  mss_cons (ms_for PassesOwn.never rfl (mi_range2 rfl g_range (ma_cons (me_int) (ma_cons (me_int) (ma_nil)))) (mg_of (mn_name sc.nd rfl)) (mss_one (ms_setItem hr.u1 (me_var 8) (me_op o_mul m_mul (me_var 6) (me_var 6)) (me_int)))) <|
  mss_cons (ms_set (i := 9) sc.nd rfl (me_newD)) <|
  mss_cons (ms_for PassesOwn.never rfl (mi_range1 rfl g_range (ma_cons (me_op (o_add op_add_str) m_add (me_var 7) (me_int)) (ma_nil))) (mg_of (mn_name sc.nd rfl)) (mss_one (ms_setItem hr.u1 (me_var 9) (me_var 10) (me_calM c_n_law_pairs hr (by decide) rfl (ma_cons (me_var 10) (ma_cons (me_var 8) (ma_nil))))))) <|
  mss_cons (ms_if (mt_cmp (o_neA hr.u64) m_neA (me_cb (c_repr hr.gd hr.u64) mc_repr rfl g_repr (by decide +kernel) (ma_cons (me_lst (ma_cons (me_calP c_count_two_squares hr (by decide) rfl (ma_cons (me_var 7) (ma_nil))) (ma_cons (me_calP c_count_four_squares hr (by decide) rfl (ma_cons (me_var 7) (ma_nil))) (ma_nil)))) (ma_nil))) (me_cb (c_repr hr.gd hr.u64) mc_repr rfl g_repr (by decide +kernel) (ma_cons (me_lst (ma_cons (me_item hr.u1 (me_var 9) (me_var 7)) (ma_cons (me_calM c_n_law_pairs hr (by decide) rfl (ma_cons (me_var 7) (ma_cons (me_var 9) (ma_nil)))) (ma_nil)))) (ma_nil))) (nomark _)) (mss_one (ms_ret (me_bl))) (mss_nil)) <|
  mss_cons (ms_if (MW.pt (mw_and (mt_cmp op_gt m_gt (me_var 7) (me_int) (nomark _)) (mw_and1 (mt_cmp (o_neA hr.u64) m_neA (me_cb (c_repr hr.gd hr.u64) mc_repr rfl g_repr (by decide +kernel) (ma_cons (me_calP c_has_two_squares hr (by decide) rfl (ma_cons (me_var 7) (ma_nil))) (ma_nil))) (me_cb (c_repr hr.gd hr.u64) mc_repr rfl g_repr (by decide +kernel) (ma_cons (me_cmp op_gt m_gt (me_item hr.u1 (me_var 9) (me_var 7)) (me_int) (nomark _)) (ma_nil))) (nomark _))))) (mss_one (ms_ret (me_bl))) (mss_nil)) <|
  mss_cons (ms_if (MW.pt (mw_and (mt_cmp op_gt m_gt (me_var 7) (me_int) (nomark _)) (mw_and1 (mt_cmp (o_neA hr.u64) m_neA (me_cb (c_repr hr.gd hr.u64) mc_repr rfl g_repr (by decide +kernel) (ma_cons (me_calP c_divisors_of hr (by decide) rfl (ma_cons (me_var 7) (ma_nil))) (ma_nil))) (me_cb (c_repr hr.gd hr.u64) mc_repr rfl g_repr (by decide +kernel) (ma_cons (me_ct call_tuple_of mc_tuple rfl g_tuple (by decide +kernel) (ma_cons (me_lc rfl sc.nd (own := [("d", 18)]) (by decide) (mi_range2 rfl g_range (ma_cons (me_int) (ma_cons (me_op (o_add op_add_str) m_add (me_var 7) (me_int)) (ma_nil)))) (blk_mk N_law (defScope S_law) rfl rfl rfl (by decide +kernel) (by decide +kernel) (by decide +kernel) (by decide +kernel)) (fun _ _ _ _ _ => mn_name sc.nd rfl) (fun _ _ _ _ _ => mts_one (mt_cmp (o_eqA hr.u64) m_eqA (me_op o_mod m_mod (me_ct call_int1 mc_int rfl g_int (by decide +kernel) (ma_cons (me_var 7) (ma_nil))) (me_var 18)) (me_int) (nomark _))) (fun _ _ _ _ _ => me_var 18)) (ma_nil))) (ma_nil))) (nomark _))))) (mss_one (ms_ret (me_bl))) (mss_nil)) <|
  mss_cons (ms_set (i := 5) sc.nd rfl (me_ct call_tuple_of mc_tuple rfl g_tuple (by decide +kernel) (ma_cons (me_lc rfl sc.nd (own := [("i", 20)]) (by decide) (mi_range1 rfl g_range (ma_cons (me_int) (ma_nil))) (blk_mk N_law (defScope S_law) rfl rfl rfl (by decide +kernel) (by decide +kernel) (by decide +kernel) (by decide +kernel)) (fun _ _ _ _ _ => mn_name sc.nd rfl) (fun _ _ _ _ _ => mts_nil) (fun _ _ _ _ _ => me_op o_sub m_sub (me_calM c_n_law_pick hr (by decide) rfl (ma_cons (me_var 1) (ma_cons (me_int) (ma_nil)))) (me_int))) (ma_nil)))) <|
  mss_cons (ms_asg (me_var 5) (mg_of (mn_tup rfl (mns_cons (mn_name sc.nd rfl) (mns_cons (mn_name sc.nd rfl) (mns_cons (mn_name sc.nd rfl) (mns_cons (mn_name sc.nd rfl) (mns_nil)))))))) <|
  mss_cons (ms_if (MW.pt (mw_or (mt_cmp (o_neA hr.u64) m_neA (me_cb (c_repr hr.gd hr.u64) mc_repr rfl g_repr (by decide +kernel) (ma_cons (me_calP c_doubled hr (by decide) rfl (ma_cons (me_var 5) (ma_nil))) (ma_nil))) (me_cb (c_repr hr.gd hr.u64) mc_repr rfl g_repr (by decide +kernel) (ma_cons (me_tup (ma_cons (me_op (o_add op_add_str) m_add (me_var 6) (me_var 15)) (ma_cons (me_op o_sub m_sub (me_var 6) (me_var 15)) (ma_cons (me_op (o_add op_add_str) m_add (me_var 16) (me_var 17)) (ma_cons (me_op o_sub m_sub (me_var 16) (me_var 17)) (ma_nil)))))) (ma_nil))) (nomark _)) (mw_or1 (mt_cmp (o_neA hr.u64) m_neA (me_calP c_halved hr (by decide) rfl (ma_cons (me_calP c_doubled hr (by decide) rfl (ma_cons (me_var 5) (ma_nil))) (ma_nil))) (me_var 5) (nomark _))))) (mss_one (ms_ret (me_bl))) (mss_nil)) <|
  mss_cons (ms_if (mt_cmp (o_neA hr.u64) m_neA (me_cb (c_sumA rfl) mc_sumA rfl g_sum (by decide +kernel) (ma_cons (me_lc rfl sc.nd (own := [("a", 21)]) (by decide) (mi_seq (me_calP c_doubled hr (by decide) rfl (ma_cons (me_var 5) (ma_nil)))) (blk_mk N_law (defScope S_law) rfl rfl rfl (by decide +kernel) (by decide +kernel) (by decide +kernel) (by decide +kernel)) (fun _ _ _ _ _ => mn_name sc.nd rfl) (fun _ _ _ _ _ => mts_nil) (fun _ _ _ _ _ => me_op o_mul m_mul (me_var 21) (me_var 21))) (ma_nil))) (me_op o_mul m_mul (me_int) (me_cb (c_sumA rfl) mc_sumA rfl g_sum (by decide +kernel) (ma_cons (me_lc rfl sc.nd (own := [("a", 21)]) (by decide) (mi_seq (me_var 5)) (blk_mk N_law (defScope S_law) rfl rfl rfl (by decide +kernel) (by decide +kernel) (by decide +kernel) (by decide +kernel)) (fun _ _ _ _ _ => mn_name sc.nd rfl) (fun _ _ _ _ _ => mts_nil) (fun _ _ _ _ _ => me_op o_mul m_mul (me_var 21) (me_var 21))) (ma_nil)))) (nomark _)) (mss_one (ms_ret (me_bl))) (mss_nil)) <|
  mss_cons (ms_set (i := 11) sc.nd rfl (me_calP c_halved hr (by decide) rfl (ma_cons (me_var 5) (ma_nil)))) <|
  mss_cons (ms_set (i := 12) sc.nd rfl (me_and (me_cmp (o_eqA hr.u64) m_eqA (me_op o_mod m_mod (me_ct call_int1 mc_int rfl g_int (by decide +kernel) (ma_cons (me_op o_sub m_sub (me_var 6) (me_var 15)) (ma_nil))) (me_int)) (me_int) (nomark _)) (me_one (me_cmp (o_eqA hr.u64) m_eqA (me_op o_mod m_mod (me_ct call_int1 mc_int rfl g_int (by decide +kernel) (ma_cons (me_op o_sub m_sub (me_var 16) (me_var 17)) (ma_nil))) (me_int)) (me_int) (nomark _))))) <|
  mss_one (ms_ret (me_and (me_cmp (o_eqA hr.u64) m_eqA (me_cmp op_notN m_notN (me_var 11) (me_non) (nomark _)) (me_var 12) (nomark _)) (me_one (me_or (me_cmp op_isN m_isN (me_var 11) (me_non) (nomark _)) (me_one (me_cmp (o_eqA hr.u64) m_eqA (me_calP c_doubled hr (by decide) rfl (ma_cons (me_var 11) (ma_nil))) (me_var 5) (nomark _)))))))
theorem cal_law {P : Program} {w : World} {K : PySem.W.Frag} {mg : Str → Option Value} {base : Heap} {f : Addr} {fd : FuncData} (FD : FnP K "law" S_law f fd) (hm : mg "law" = some (.ref f)) (c_n_law_source : Cal P w K mg base 1 "_law_source" (spM K PG.F_n_law_source)) (c_n_law_pick : Cal P w K mg base 1 "_law_pick" (spM K PG.F_n_law_pick)) (c_n_law_quadruples : Cal P w K mg base 1 "_law_quadruples" (spP K F_n_law_quadruples)) (c_odd_quadruples : Cal P w K mg base 4 "odd_quadruples" (spP K F_odd_quadruples)) (c_divisors_of : Cal P w K mg base 2 "divisors_of" (spP K F_divisors_of)) (c_quadruple_sign : Cal P w K mg base 1 "quadruple_sign" (spP K F_quadruple_sign)) (c_n_law_sign : Cal P w K mg base 1 "_law_sign" (spP K F_n_law_sign)) (c_turned_quadruple : Cal P w K mg base 2 "turned_quadruple" (spP K F_turned_quadruple)) (c_signs_added : Cal P w K mg base 5 "signs_added" (spP K F_signs_added)) (c_odd_tuples : Cal P w K mg base 3 "odd_tuples" (spP K F_odd_tuples)) (c_n_law_pairs : Cal P w K mg base 1 "_law_pairs" (spM K F_n_law_pairs)) (c_count_four_squares : Cal P w K mg base 3 "count_four_squares" (spP K F_count_four_squares)) (c_count_two_squares : Cal P w K mg base 4 "count_two_squares" (spP K F_count_two_squares)) (c_has_two_squares : Cal P w K mg base 4 "has_two_squares" (spP K F_has_two_squares)) (c_doubled : Cal P w K mg base 1 "doubled" (spP K F_doubled)) (c_halved : Cal P w K mg base 1 "halved" (spP K F_halved)) (g_range : mg "range" = none) (g_int : mg "int" = none) (g_repr : mg "repr" = none) (g_tuple : mg "tuple" = none) (g_abs : mg "abs" = none) (g_sum : mg "sum" = none) :
    Cal P w K mg base 6 "law" (spP K F_law) := ⟨f, fd, _, ok_law FD c_n_law_source c_n_law_pick c_n_law_quadruples c_odd_quadruples c_divisors_of c_quadruple_sign c_n_law_sign c_turned_quadruple c_signs_added c_odd_tuples c_n_law_pairs c_count_four_squares c_count_two_squares c_has_two_squares c_doubled c_halved g_range g_int g_repr g_tuple g_abs g_sum, hm, FD.kp, FD.bindsN fun _ _ _ _ _ _ us hl => match us, hl with | [_], _ => rfl⟩
end k71

/-! k71: what is looked at by the kernel -/
namespace k71
open PySem PySem.Spec PyProof.Rows L2 MS
def dvN (m : Nat) : List Nat := ((List.range m).filter fun d => m % (d + 1) == 0).map (· + 1)
def intD (n : Nat) : D := .int (n : Nat)
def okDv (k : Nat) : Bool := match F_divisors_of [.int k] with
  | some (.tup ds) => D.sameL ds ((dvN k).map intD)
  | _ => false
def loopQ : SDen := sSeq (sAsg (dLst (aNil)) (gN 1)) (sFor (iRange3 (aCons (dC (.int 1)) (aCons (dOp gMul (dC (.int 2)) (dVar 0)) (aCons (dC (.int 2)) (aNil))))) (gOf (nN 2)) (f2b_n_law_quadruples))
def loopO : SDen := sSeq (sAsg (dCell (aNil)) (gN 1)) (sFor (iRange3 (aCons (dC (.int 1)) (aCons (dOp gMul (dC (.int 2)) (dVar 0)) (aCons (dC (.int 2)) (aNil))))) (gOf (nN 2)) (f2b_odd_quadruples))
def encQ (n : Nat) : D := .tup [.int (n / 262144 : Nat), .int (n / 4096 % 64 : Nat), .int (n / 64 % 64 : Nat), .int (n % 64 : Nat)]
def resQ (l : List Nat) : Option (Out × MS.Env × Sto) → Bool
  | some (.nx, [_, some (.fl q), _, _, _, _, _], []) => D.sameL q (l.map encQ)
  | _ => false
def runQ (m : Nat) : Option (Out × MS.Env × Sto) := loopQ [some (.int m), none, none, none, none, none, none] []
def runO (m : Nat) : Option (Out × MS.Env × Sto) := loopO [some (.int m), none, none, none, none, none] []
def okQ (m : Nat) (l : List Nat) : Bool := resQ l (runQ m)
def resO (l : List Nat) : Option (Out × MS.Env × Sto) → Bool
  | some (.nx, [_, some (.ref 0), _, _, _, _], [.lst q]) => D.sameL q (l.map encQ)
  | _ => false
def okO (m : Nat) (l : List Nat) : Bool := resO l (runO m)
theorem resQ_ok {l : List Nat} {x : Option (Out × MS.Env × Sto)} (h : resQ l x = true) : ∃ x0 x2 x3 x4 x5 x6, x = some (.nx, [x0, some (.fl (l.map encQ)), x2, x3, x4, x5, x6], []) := by
  unfold resQ at h
  split at h
  · rename_i x0 q x2 x3 x4 x5 x6
    have hq := D.sameL_eq h
    subst hq
    exact ⟨_, _, _, _, _, _, rfl⟩
  · cases h
theorem resO_ok {l : List Nat} {x : Option (Out × MS.Env × Sto)} (h : resO l x = true) : ∃ x0 x2 x3 x4 x5, x = some (.nx, [x0, some (.ref 0), x2, x3, x4, x5], [.lst (l.map encQ)]) := by
  unfold resO at h
  split at h
  · rename_i x0 x2 x3 x4 x5 q
    have hq := D.sameL_eq h
    subst hq
    exact ⟨_, _, _, _, _, rfl⟩
  · cases h
def signOf (n : Nat) : Int := 1 - 2 * ((((n / 262144 : Nat) : Int) - ((n / 64 % 64 : Nat) : Int)) / 2 % 2)
def okSign (n : Nat) : Bool := match F_quadruple_sign [encQ n], F_n_law_sign [encQ n] with
  | some (.int s), some (.int t) => decide (s = signOf n) && decide (t = signOf n)
  | _, _ => false
def okTurn (n t : Nat) : Bool := match F_turned_quadruple [encQ n] with
  | some d => D.same d (encQ t)
  | none => false
def okOne (l : List Nat) (p : Nat × Nat) : Bool := okSign p.1 && (p.1 / 262144 == p.1 / 64 % 64 || (okTurn p.1 p.2 && l.elem p.2 && okSign p.2 && decide (signOf p.2 ≠ signOf p.1) && okTurn p.2 p.1 &&
  (decide (p.2 / 64 % 64 < p.2 / 262144) == decide (p.1 / 64 % 64 < p.1 / 262144)) && decide (((((p.2 / 262144 : Nat) : Int) - ((p.2 / 64 % 64 : Nat) : Int)).natAbs : Int) = ((p.1 / 4096 % 64 : Nat) : Int) + ((p.1 % 64 : Nat) : Int))))
def cq1 : List Nat := [266305]
def co1 : List Nat := [266305]
def qs1 : List Nat := [266305]
def ts1 : List (Nat × Nat) := [(266305, 0)]
theorem okQ1 : okQ 1 cq1 = true := by decide +kernel
theorem okO1 : okO 1 co1 = true := by decide +kernel
theorem srt1 : (isort Nat.ble cq1).filter (fun n => n % 2 == 1) = qs1 ∧ isort Nat.ble co1 = qs1 ∧ ts1.map (·.1) = qs1 := by decide +kernel
theorem one1 : ts1.all (okOne qs1) = true := by decide +kernel
def cq3 : List Nat := [266309, 266561, 274499, 274625, 282689, 790595, 790721, 1314881]
def co3 : List Nat := [266309, 266561, 274499, 274625, 790595, 790721, 282689, 1314881]
def qs3 : List Nat := [266309, 266561, 274499, 274625, 282689, 790595, 790721, 1314881]
def ts3 : List (Nat × Nat) := [(266309, 0), (266561, 274625), (274499, 0), (274625, 266561), (282689, 0), (790595, 1314881), (790721, 0), (1314881, 790595)]
theorem okQ3 : okQ 3 cq3 = true := by decide +kernel
theorem okO3 : okO 3 co3 = true := by decide +kernel
theorem srt3 : (isort Nat.ble cq3).filter (fun n => n % 2 == 1) = qs3 ∧ isort Nat.ble co3 = qs3 ∧ ts3.map (·.1) = qs3 := by decide +kernel
theorem one3 : ts3.all (okOne qs3) = true := by decide +kernel
def cq5 : List Nat := [266313, 266435, 266817, 274503, 274881, 282693, 282945, 290883, 291009, 299073, 790599, 790977, 798785, 1314885, 1315137, 1839171, 1839297, 2363457]
def co5 : List Nat := [266313, 266435, 266817, 274503, 274881, 790599, 790977, 282693, 282945, 1314885, 1315137, 290883, 291009, 1839171, 1839297, 299073, 798785, 2363457]
def qs5 : List Nat := [266313, 266435, 266817, 274503, 274881, 282693, 282945, 290883, 291009, 299073, 790599, 790977, 798785, 1314885, 1315137, 1839171, 1839297, 2363457]
def ts5 : List (Nat × Nat) := [(266313, 0), (266435, 790977), (266817, 291009), (274503, 0), (274881, 282945), (282693, 0), (282945, 274881), (290883, 0), (291009, 266817), (299073, 0), (790599, 2363457), (790977, 266435), (798785, 1839297), (1314885, 1839171), (1315137, 0), (1839171, 1314885), (1839297, 798785), (2363457, 790599)]
theorem okQ5 : okQ 5 cq5 = true := by decide +kernel
theorem okO5 : okO 5 co5 = true := by decide +kernel
theorem srt5 : (isort Nat.ble cq5).filter (fun n => n % 2 == 1) = qs5 ∧ isort Nat.ble co5 = qs5 ∧ ts5.map (·.1) = qs5 := by decide +kernel
theorem one5 : ts5.all (okOne qs5) = true := by decide +kernel
def cq7 : List Nat := [266317, 267073, 274507, 275137, 282697, 282819, 283201, 290887, 291265, 299077, 299329, 307267, 307393, 315457, 790603, 791233, 798789, 799041, 1314889, 1315011, 1315393, 1839175, 1839553, 2363461, 2363713, 2887747, 2887873, 3412033]
def co7 : List Nat := [266317, 267073, 274507, 275137, 790603, 791233, 282697, 282819, 283201, 1314889, 1315011, 1315393, 290887, 291265, 1839175, 1839553, 299077, 299329, 798789, 799041, 2363461, 2363713, 307267, 307393, 2887747, 2887873, 315457, 3412033]
def qs7 : List Nat := [266317, 267073, 274507, 275137, 282697, 282819, 283201, 290887, 291265, 299077, 299329, 307267, 307393, 315457, 790603, 791233, 798789, 799041, 1314889, 1315011, 1315393, 1839175, 1839553, 2363461, 2363713, 2887747, 2887873, 3412033]
def ts7 : List (Nat × Nat) := [(266317, 0), (267073, 307393), (274507, 0), (275137, 299329), (282697, 0), (282819, 791233), (283201, 291265), (290887, 0), (291265, 283201), (299077, 0), (299329, 275137), (307267, 0), (307393, 267073), (315457, 0), (790603, 3412033), (791233, 282819), (798789, 2887873), (799041, 1315393), (1314889, 2887747), (1315011, 2363713), (1315393, 799041), (1839175, 2363461), (1839553, 0), (2363461, 1839175), (2363713, 1315011), (2887747, 1314889), (2887873, 798789), (3412033, 790603)]
theorem okQ7 : okQ 7 cq7 = true := by decide +kernel
theorem okO7 : okO 7 co7 = true := by decide +kernel
theorem srt7 : (isort Nat.ble cq7).filter (fun n => n % 2 == 1) = qs7 ∧ isort Nat.ble co7 = qs7 ∧ ts7.map (·.1) = qs7 := by decide +kernel
theorem one7 : ts7.all (okOne qs7) = true := by decide +kernel
def cq9 : List Nat := [266321, 267329, 274511, 274629, 274755, 275393, 282701, 283457, 290891, 291521, 299081, 299203, 299585, 307271, 307649, 315461, 315713, 323651, 323777, 331841, 790607, 790725, 790851, 791489, 798793, 798915, 799297, 806979, 807105, 1314893, 1315649, 1323075, 1323201, 1839179, 1839809, 2363465, 2363587, 2363969, 2887751, 2888129, 3412037, 3412289, 3936323, 3936449, 4460609]
def co9 : List Nat := [266321, 267329, 274511, 274629, 274755, 275393, 790607, 790725, 790851, 791489, 282701, 283457, 1314893, 1315649, 290891, 291521, 1839179, 1839809, 299081, 299203, 299585, 798793, 798915, 799297, 2363465, 2363587, 2363969, 307271, 307649, 2887751, 2888129, 315461, 315713, 3412037, 3412289, 323651, 323777, 806979, 807105, 1323075, 1323201, 3936323, 3936449, 331841, 4460609]
def qs9 : List Nat := [266321, 267329, 274511, 274629, 274755, 275393, 282701, 283457, 290891, 291521, 299081, 299203, 299585, 307271, 307649, 315461, 315713, 323651, 323777, 331841, 790607, 790725, 790851, 791489, 798793, 798915, 799297, 806979, 807105, 1314893, 1315649, 1323075, 1323201, 1839179, 1839809, 2363465, 2363587, 2363969, 2887751, 2888129, 3412037, 3412289, 3936323, 3936449, 4460609]
def ts9 : List (Nat × Nat) := [(266321, 0), (267329, 323777), (274511, 0), (274629, 1315649), (274755, 799297), (275393, 315713), (282701, 0), (283457, 307649), (290891, 0), (291521, 299585), (299081, 0), (299203, 791489), (299585, 291521), (307271, 0), (307649, 283457), (315461, 0), (315713, 275393), (323651, 0), (323777, 267329), (331841, 0), (790607, 4460609), (790725, 0), (790851, 1839809), (791489, 299203), (798793, 3936449), (798915, 0), (799297, 274755), (806979, 3412289), (807105, 0), (1314893, 3936323), (1315649, 274629), (1323075, 2363587), (1323201, 2888129), (1839179, 3412037), (1839809, 790851), (2363465, 2887751), (2363587, 1323075), (2363969, 0), (2887751, 2363465), (2888129, 1323201), (3412037, 1839179), (3412289, 806979), (3936323, 1314893), (3936449, 798793), (4460609, 790607)]
theorem okQ9 : okQ 9 cq9 = true := by decide +kernel
theorem okO9 : okO 9 co9 = true := by decide +kernel
theorem srt9 : (isort Nat.ble cq9).filter (fun n => n % 2 == 1) = qs9 ∧ isort Nat.ble co9 = qs9 ∧ ts9.map (·.1) = qs9 := by decide +kernel
theorem one9 : ts9.all (okOne qs9) = true := by decide +kernel
def cq11 : List Nat := [266325, 266439, 266691, 267585, 274515, 275649, 282705, 283713, 290895, 291013, 291139, 291777, 299085, 299841, 307275, 307905, 315465, 315587, 315969, 323655, 324033, 331845, 332097, 340035, 340161, 348225, 790611, 791745, 798797, 799553, 806983, 807361, 815169, 1314897, 1315905, 1323079, 1323457, 1839183, 1839301, 1839427, 1840065, 1847361, 2363469, 2364225, 2887755, 2888385, 3412041, 3412163, 3412545, 3936327, 3936705, 4460613, 4460865, 4984899, 4985025, 5509185]
def co11 : List Nat := [266325, 266439, 266691, 267585, 274515, 275649, 790611, 791745, 282705, 283713, 1314897, 1315905, 290895, 291013, 291139, 291777, 1839183, 1839301, 1839427, 1840065, 299085, 299841, 798797, 799553, 2363469, 2364225, 307275, 307905, 2887755, 2888385, 315465, 315587, 315969, 3412041, 3412163, 3412545, 323655, 324033, 806983, 807361, 1323079, 1323457, 3936327, 3936705, 331845, 332097, 4460613, 4460865, 340035, 340161, 4984899, 4985025, 348225, 815169, 1847361, 5509185]
def qs11 : List Nat := [266325, 266439, 266691, 267585, 274515, 275649, 282705, 283713, 290895, 291013, 291139, 291777, 299085, 299841, 307275, 307905, 315465, 315587, 315969, 323655, 324033, 331845, 332097, 340035, 340161, 348225, 790611, 791745, 798797, 799553, 806983, 807361, 815169, 1314897, 1315905, 1323079, 1323457, 1839183, 1839301, 1839427, 1840065, 1847361, 2363469, 2364225, 2887755, 2888385, 3412041, 3412163, 3412545, 3936327, 3936705, 4460613, 4460865, 4984899, 4985025, 5509185]
def ts11 : List (Nat × Nat) := [(266325, 0), (266439, 1840065), (266691, 807361), (267585, 340161), (274515, 0), (275649, 332097), (282705, 0), (283713, 324033), (290895, 0), (291013, 1315905), (291139, 799553), (291777, 315969), (299085, 0), (299841, 307905), (307275, 0), (307905, 299841), (315465, 0), (315587, 791745), (315969, 291777), (323655, 0), (324033, 283713), (331845, 0), (332097, 275649), (340035, 0), (340161, 267585), (348225, 0), (790611, 5509185), (791745, 315587), (798797, 4985025), (799553, 291139), (806983, 4460865), (807361, 266691), (815169, 3936705), (1314897, 4984899), (1315905, 291013), (1323079, 3412163), (1323457, 2364225), (1839183, 4460613), (1839301, 1847361), (1839427, 3412545), (1840065, 266439), (1847361, 1839301), (2363469, 3936327), (2364225, 1323457), (2887755, 3412041), (2888385, 0), (3412041, 2887755), (3412163, 1323079), (3412545, 1839427), (3936327, 2363469), (3936705, 815169), (4460613, 1839183), (4460865, 806983), (4984899, 1314897), (4985025, 798797), (5509185, 790611)]
theorem okQ11 : okQ 11 cq11 = true := by decide +kernel
theorem okO11 : okO 11 co11 = true := by decide +kernel
theorem srt11 : (isort Nat.ble cq11).filter (fun n => n % 2 == 1) = qs11 ∧ isort Nat.ble co11 = qs11 ∧ ts11.map (·.1) = qs11 := by decide +kernel
theorem one11 : ts11.all (okOne qs11) = true := by decide +kernel
def cq13 : List Nat := [266329, 266565, 267841, 274519, 275905, 282709, 282823, 283075, 283969, 290899, 292033, 299089, 300097, 307279, 307397, 307523, 308161, 315469, 316225, 323659, 324289, 331849, 331971, 332353, 340039, 340417, 348229, 348481, 356419, 356545, 364609, 790615, 792001, 798801, 799809, 806987, 807617, 815173, 815425, 1314901, 1315015, 1315267, 1316161, 1323083, 1323713, 1331265, 1839187, 1840321, 1847365, 1847617, 2363473, 2364481, 2887759, 2887877, 2888003, 2888641, 3412045, 3412801, 3936331, 3936961, 4460617, 4460739, 4461121, 4984903, 4985281, 5509189, 5509441, 6033475, 6033601, 6557761]
def co13 : List Nat := [266329, 266565, 267841, 274519, 275905, 790615, 792001, 282709, 282823, 283075, 283969, 1314901, 1315015, 1315267, 1316161, 290899, 292033, 1839187, 1840321, 299089, 300097, 798801, 799809, 2363473, 2364481, 307279, 307397, 307523, 308161, 2887759, 2887877, 2888003, 2888641, 315469, 316225, 3412045, 3412801, 323659, 324289, 806987, 807617, 1323083, 1323713, 3936331, 3936961, 331849, 331971, 332353, 4460617, 4460739, 4461121, 340039, 340417, 4984903, 4985281, 348229, 348481, 815173, 815425, 1847365, 1847617, 5509189, 5509441, 356419, 356545, 6033475, 6033601, 364609, 1331265, 6557761]
def qs13 : List Nat := [266329, 266565, 267841, 274519, 275905, 282709, 282823, 283075, 283969, 290899, 292033, 299089, 300097, 307279, 307397, 307523, 308161, 315469, 316225, 323659, 324289, 331849, 331971, 332353, 340039, 340417, 348229, 348481, 356419, 356545, 364609, 790615, 792001, 798801, 799809, 806987, 807617, 815173, 815425, 1314901, 1315015, 1315267, 1316161, 1323083, 1323713, 1331265, 1839187, 1840321, 1847365, 1847617, 2363473, 2364481, 2887759, 2887877, 2888003, 2888641, 3412045, 3412801, 3936331, 3936961, 4460617, 4460739, 4461121, 4984903, 4985281, 5509189, 5509441, 6033475, 6033601, 6557761]
def ts13 : List (Nat × Nat) := [(266329, 0), (266565, 1323713), (267841, 356545), (274519, 0), (275905, 348481), (282709, 0), (282823, 1840321), (283075, 807617), (283969, 340417), (290899, 0), (292033, 332353), (299089, 0), (300097, 324289), (307279, 0), (307397, 1316161), (307523, 799809), (308161, 316225), (315469, 0), (316225, 308161), (323659, 0), (324289, 300097), (331849, 0), (331971, 792001), (332353, 292033), (340039, 0), (340417, 283969), (348229, 0), (348481, 275905), (356419, 0), (356545, 267841), (364609, 0), (790615, 6557761), (792001, 331971), (798801, 6033601), (799809, 307523), (806987, 5509441), (807617, 283075), (815173, 4985281), (815425, 2364481), (1314901, 6033475), (1315015, 4461121), (1315267, 2888641), (1316161, 307397), (1323083, 4460739), (1323713, 266565), (1331265, 2888003), (1839187, 5509189), (1840321, 282823), (1847365, 2887877), (1847617, 3936961), (2363473, 4984903), (2364481, 815425), (2887759, 4460617), (2887877, 1847365), (2888003, 1331265), (2888641, 1315267), (3412045, 3936331), (3412801, 0), (3936331, 3412045), (3936961, 1847617), (4460617, 2887759), (4460739, 1323083), (4461121, 1315015), (4984903, 2363473), (4985281, 815173), (5509189, 1839187), (5509441, 806987), (6033475, 1314901), (6033601, 798801), (6557761, 790615)]
theorem okQ13 : okQ 13 cq13 = true := by decide +kernel
theorem okO13 : okO 13 co13 = true := by decide +kernel
theorem srt13 : (isort Nat.ble cq13).filter (fun n => n % 2 == 1) = qs13 ∧ isort Nat.ble co13 = qs13 ∧ ts13.map (·.1) = qs13 := by decide +kernel
theorem one13 : ts13.all (okOne qs13) = true := by decide +kernel
def cq15 : List Nat := [266333, 268097, 274523, 274633, 275011, 276161, 282713, 282949, 284225, 290903, 292289, 299093, 299207, 299459, 300353, 307283, 308417, 315473, 316481, 323663, 323781, 323907, 324545, 331853, 332609, 340043, 340673, 348233, 348355, 348737, 356423, 356801, 364613, 364865, 372803, 372929, 380993, 790619, 790729, 791107, 792257, 798805, 798919, 799171, 800065, 806991, 807109, 807235, 807873, 815177, 815299, 815681, 823363, 823489, 1314905, 1315141, 1316417, 1323087, 1323205, 1323331, 1323969, 1331269, 1331521, 1839191, 1840577, 1847369, 1847491, 1847873, 2363477, 2363591, 2363843, 2364737, 2371651, 2371777, 2887763, 2888897, 3412049, 3413057, 3936335, 3936453, 3936579, 3937217, 4460621, 4461377, 4984907, 4985537, 5509193, 5509315, 5509697, 6033479, 6033857, 6557765, 6558017, 7082051, 7082177, 7606337]
def co15 : List Nat := [266333, 268097, 274523, 274633, 275011, 276161, 790619, 790729, 791107, 792257, 282713, 282949, 284225, 1314905, 1315141, 1316417, 290903, 292289, 1839191, 1840577, 299093, 299207, 299459, 300353, 798805, 798919, 799171, 800065, 2363477, 2363591, 2363843, 2364737, 307283, 308417, 2887763, 2888897, 315473, 316481, 3412049, 3413057, 323663, 323781, 323907, 324545, 806991, 807109, 807235, 807873, 1323087, 1323205, 1323331, 1323969, 3936335, 3936453, 3936579, 3937217, 331853, 332609, 4460621, 4461377, 340043, 340673, 4984907, 4985537, 348233, 348355, 348737, 815177, 815299, 815681, 1847369, 1847491, 1847873, 5509193, 5509315, 5509697, 356423, 356801, 6033479, 6033857, 364613, 364865, 1331269, 1331521, 6557765, 6558017, 372803, 372929, 823363, 823489, 2371651, 2371777, 7082051, 7082177, 380993, 7606337]
def qs15 : List Nat := [266333, 268097, 274523, 274633, 275011, 276161, 282713, 282949, 284225, 290903, 292289, 299093, 299207, 299459, 300353, 307283, 308417, 315473, 316481, 323663, 323781, 323907, 324545, 331853, 332609, 340043, 340673, 348233, 348355, 348737, 356423, 356801, 364613, 364865, 372803, 372929, 380993, 790619, 790729, 791107, 792257, 798805, 798919, 799171, 800065, 806991, 807109, 807235, 807873, 815177, 815299, 815681, 823363, 823489, 1314905, 1315141, 1316417, 1323087, 1323205, 1323331, 1323969, 1331269, 1331521, 1839191, 1840577, 1847369, 1847491, 1847873, 2363477, 2363591, 2363843, 2364737, 2371651, 2371777, 2887763, 2888897, 3412049, 3413057, 3936335, 3936453, 3936579, 3937217, 4460621, 4461377, 4984907, 4985537, 5509193, 5509315, 5509697, 6033479, 6033857, 6557765, 6558017, 7082051, 7082177, 7606337]
def ts15 : List (Nat × Nat) := [(266333, 0), (268097, 372929), (274523, 0), (274633, 2364737), (275011, 815681), (276161, 364865), (282713, 0), (282949, 1323969), (284225, 356801), (290903, 0), (292289, 348737), (299093, 0), (299207, 1840577), (299459, 807873), (300353, 340673), (307283, 0), (308417, 332609), (315473, 0), (316481, 324545), (323663, 0), (323781, 1316417), (323907, 800065), (324545, 316481), (331853, 0), (332609, 308417), (340043, 0), (340673, 300353), (348233, 0), (348355, 792257), (348737, 292289), (356423, 0), (356801, 284225), (364613, 0), (364865, 276161), (372803, 0), (372929, 268097), (380993, 0), (790619, 7606337), (790729, 0), (791107, 799171), (792257, 348355), (798805, 7082177), (798919, 0), (799171, 791107), (800065, 323907), (806991, 6558017), (807109, 0), (807235, 2888897), (807873, 299459), (815177, 6033857), (815299, 0), (815681, 275011), (823363, 5509697), (823489, 0), (1314905, 7082051), (1315141, 0), (1316417, 323781), (1323087, 5509315), (1323205, 4985537), (1323331, 0), (1323969, 282949), (1331269, 3936579), (1331521, 0), (1839191, 6557765), (1840577, 299207), (1847369, 3936453), (1847491, 2371777), (1847873, 3413057), (2363477, 6033479), (2363591, 2371651), (2363843, 4461377), (2364737, 274633), (2371651, 2363591), (2371777, 1847491), (2887763, 5509193), (2888897, 807235), (3412049, 4984907), (3413057, 1847873), (3936335, 4460621), (3936453, 1847369), (3936579, 1331269), (3937217, 0), (4460621, 3936335), (4461377, 2363843), (4984907, 3412049), (4985537, 1323205), (5509193, 2887763), (5509315, 1323087), (5509697, 823363), (6033479, 2363477), (6033857, 815177), (6557765, 1839191), (6558017, 806991), (7082051, 1314905), (7082177, 798805), (7606337, 790619)]
theorem okQ15 : okQ 15 cq15 = true := by decide +kernel
theorem okO15 : okO 15 co15 = true := by decide +kernel
theorem srt15 : (isort Nat.ble cq15).filter (fun n => n % 2 == 1) = qs15 ∧ isort Nat.ble co15 = qs15 ∧ ts15.map (·.1) = qs15 := by decide +kernel
theorem one15 : ts15.all (okOne qs15) = true := by decide +kernel
def cq17 : List Nat := [266337, 266443, 266947, 268353, 274527, 276417, 282717, 284481, 290907, 291017, 291395, 292545, 299097, 299333, 300609, 307287, 308673, 315477, 315591, 315843, 316737, 323667, 324801, 331857, 332865, 340047, 340165, 340291, 340929, 348237, 348993, 356427, 357057, 364617, 364739, 365121, 372807, 373185, 380997, 381249, 389187, 389313, 397377, 790623, 792513, 798809, 799045, 800321, 806995, 808129, 815181, 815937, 823367, 823745, 831553, 1314909, 1316673, 1323091, 1324225, 1331273, 1331395, 1331777, 1839195, 1839305, 1839683, 1840833, 1847373, 1848129, 2363481, 2363717, 2364993, 2371655, 2372033, 2887767, 2889153, 2895937, 3412053, 3412167, 3412419, 3413313, 3936339, 3937473, 4460625, 4461633, 4984911, 4985029, 4985155, 4985793, 5509197, 5509953, 6033483, 6034113, 6557769, 6557891, 6558273, 7082055, 7082433, 7606341, 7606593, 8130627, 8130753, 8654913]
def co17 : List Nat := [266337, 266443, 266947, 268353, 274527, 276417, 790623, 792513, 282717, 284481, 1314909, 1316673, 290907, 291017, 291395, 292545, 1839195, 1839305, 1839683, 1840833, 299097, 299333, 300609, 798809, 799045, 800321, 2363481, 2363717, 2364993, 307287, 308673, 2887767, 2889153, 315477, 315591, 315843, 316737, 3412053, 3412167, 3412419, 3413313, 323667, 324801, 806995, 808129, 1323091, 1324225, 3936339, 3937473, 331857, 332865, 4460625, 4461633, 340047, 340165, 340291, 340929, 4984911, 4985029, 4985155, 4985793, 348237, 348993, 815181, 815937, 1847373, 1848129, 5509197, 5509953, 356427, 357057, 6033483, 6034113, 364617, 364739, 365121, 1331273, 1331395, 1331777, 6557769, 6557891, 6558273, 372807, 373185, 823367, 823745, 2371655, 2372033, 7082055, 7082433, 380997, 381249, 7606341, 7606593, 389187, 389313, 8130627, 8130753, 397377, 831553, 2895937, 8654913]
def qs17 : List Nat := [266337, 266443, 266947, 268353, 274527, 276417, 282717, 284481, 290907, 291017, 291395, 292545, 299097, 299333, 300609, 307287, 308673, 315477, 315591, 315843, 316737, 323667, 324801, 331857, 332865, 340047, 340165, 340291, 340929, 348237, 348993, 356427, 357057, 364617, 364739, 365121, 372807, 373185, 380997, 381249, 389187, 389313, 397377, 790623, 792513, 798809, 799045, 800321, 806995, 808129, 815181, 815937, 823367, 823745, 831553, 1314909, 1316673, 1323091, 1324225, 1331273, 1331395, 1331777, 1839195, 1839305, 1839683, 1840833, 1847373, 1848129, 2363481, 2363717, 2364993, 2371655, 2372033, 2887767, 2889153, 2895937, 3412053, 3412167, 3412419, 3413313, 3936339, 3937473, 4460625, 4461633, 4984911, 4985029, 4985155, 4985793, 5509197, 5509953, 6033483, 6034113, 6557769, 6557891, 6558273, 7082055, 7082433, 7606341, 7606593, 8130627, 8130753, 8654913]
def ts17 : List (Nat × Nat) := [(266337, 0), (266443, 2889153), (266947, 823745), (268353, 389313), (274527, 0), (276417, 381249), (282717, 0), (284481, 373185), (290907, 0), (291017, 2364993), (291395, 815937), (292545, 365121), (299097, 0), (299333, 1324225), (300609, 357057), (307287, 0), (308673, 348993), (315477, 0), (315591, 1840833), (315843, 808129), (316737, 340929), (323667, 0), (324801, 332865), (331857, 0), (332865, 324801), (340047, 0), (340165, 1316673), (340291, 800321), (340929, 316737), (348237, 0), (348993, 308673), (356427, 0), (357057, 300609), (364617, 0), (364739, 792513), (365121, 292545), (372807, 0), (373185, 284481), (380997, 0), (381249, 276417), (389187, 0), (389313, 268353), (397377, 0), (790623, 8654913), (792513, 364739), (798809, 8130753), (799045, 3413313), (800321, 340291), (806995, 7606593), (808129, 315843), (815181, 7082433), (815937, 291395), (823367, 6558273), (823745, 266947), (831553, 6034113), (1314909, 8130627), (1316673, 340165), (1323091, 6557891), (1324225, 299333), (1331273, 4985155), (1331395, 5509953), (1331777, 1848129), (1839195, 7606341), (1839305, 2895937), (1839683, 3937473), (1840833, 315591), (1847373, 4985029), (1848129, 1331777), (2363481, 7082055), (2363717, 3412419), (2364993, 291017), (2371655, 3412167), (2372033, 4985793), (2887767, 6557769), (2889153, 266443), (2895937, 1839305), (3412053, 6033483), (3412167, 2371655), (3412419, 2363717), (3413313, 799045), (3936339, 5509197), (3937473, 1839683), (4460625, 4984911), (4461633, 0), (4984911, 4460625), (4985029, 1847373), (4985155, 1331273), (4985793, 2372033), (5509197, 3936339), (5509953, 1331395), (6033483, 3412053), (6034113, 831553), (6557769, 2887767), (6557891, 1323091), (6558273, 823367), (7082055, 2363481), (7082433, 815181), (7606341, 1839195), (7606593, 806995), (8130627, 1314909), (8130753, 798809), (8654913, 790623)]
theorem okQ17 : okQ 17 cq17 = true := by decide +kernel
theorem okO17 : okO 17 co17 = true := by decide +kernel
theorem srt17 : (isort Nat.ble cq17).filter (fun n => n % 2 == 1) = qs17 ∧ isort Nat.ble co17 = qs17 ∧ ts17.map (·.1) = qs17 := by decide +kernel
theorem one17 : ts17.all (okOne qs17) = true := by decide +kernel
def cq19 : List Nat := [266341, 268609, 274531, 274759, 274885, 276673, 282721, 282827, 283331, 284737, 290911, 292801, 299101, 300865, 307291, 307401, 307779, 308929, 315481, 315717, 316993, 323671, 325057, 331861, 331975, 332227, 333121, 340051, 341185, 348241, 349249, 356431, 356549, 356675, 357313, 364621, 365377, 372811, 373441, 381001, 381123, 381505, 389191, 389569, 397381, 397633, 405571, 405697, 413761, 790627, 790855, 790981, 792769, 798813, 800577, 806999, 808385, 815185, 816193, 823371, 824001, 831557, 831809, 1314913, 1315019, 1315523, 1316929, 1323095, 1324481, 1331277, 1332033, 1339459, 1339585, 1839199, 1841089, 1847377, 1848385, 1855555, 1855681, 2363485, 2365249, 2371659, 2372289, 2887771, 2887881, 2888259, 2889409, 2895941, 2896193, 3412057, 3412293, 3413569, 3936343, 3937729, 4460629, 4460743, 4460995, 4461889, 4984915, 4986049, 5509201, 5510209, 6033487, 6033605, 6033731, 6034369, 6557773, 6558529, 7082059, 7082689, 7606345, 7606467, 7606849, 8130631, 8131009, 8654917, 8655169, 9179203, 9179329, 9703489]
def co19 : List Nat := [266341, 268609, 274531, 274759, 274885, 276673, 790627, 790855, 790981, 792769, 282721, 282827, 283331, 284737, 1314913, 1315019, 1315523, 1316929, 290911, 292801, 1839199, 1841089, 299101, 300865, 798813, 800577, 2363485, 2365249, 307291, 307401, 307779, 308929, 2887771, 2887881, 2888259, 2889409, 315481, 315717, 316993, 3412057, 3412293, 3413569, 323671, 325057, 806999, 808385, 1323095, 1324481, 3936343, 3937729, 331861, 331975, 332227, 333121, 4460629, 4460743, 4460995, 4461889, 340051, 341185, 4984915, 4986049, 348241, 349249, 815185, 816193, 1847377, 1848385, 5509201, 5510209, 356431, 356549, 356675, 357313, 6033487, 6033605, 6033731, 6034369, 364621, 365377, 1331277, 1332033, 6557773, 6558529, 372811, 373441, 823371, 824001, 2371659, 2372289, 7082059, 7082689, 381001, 381123, 381505, 7606345, 7606467, 7606849, 389191, 389569, 8130631, 8131009, 397381, 397633, 831557, 831809, 2895941, 2896193, 8654917, 8655169, 405571, 405697, 1339459, 1339585, 1855555, 1855681, 9179203, 9179329, 413761, 9703489]
def qs19 : List Nat := [266341, 268609, 274531, 274759, 274885, 276673, 282721, 282827, 283331, 284737, 290911, 292801, 299101, 300865, 307291, 307401, 307779, 308929, 315481, 315717, 316993, 323671, 325057, 331861, 331975, 332227, 333121, 340051, 341185, 348241, 349249, 356431, 356549, 356675, 357313, 364621, 365377, 372811, 373441, 381001, 381123, 381505, 389191, 389569, 397381, 397633, 405571, 405697, 413761, 790627, 790855, 790981, 792769, 798813, 800577, 806999, 808385, 815185, 816193, 823371, 824001, 831557, 831809, 1314913, 1315019, 1315523, 1316929, 1323095, 1324481, 1331277, 1332033, 1339459, 1339585, 1839199, 1841089, 1847377, 1848385, 1855555, 1855681, 2363485, 2365249, 2371659, 2372289, 2887771, 2887881, 2888259, 2889409, 2895941, 2896193, 3412057, 3412293, 3413569, 3936343, 3937729, 4460629, 4460743, 4460995, 4461889, 4984915, 4986049, 5509201, 5510209, 6033487, 6033605, 6033731, 6034369, 6557773, 6558529, 7082059, 7082689, 7606345, 7606467, 7606849, 8130631, 8131009, 8654917, 8655169, 9179203, 9179329, 9703489]
def ts19 : List (Nat × Nat) := [(266341, 0), (268609, 405697), (274531, 0), (274759, 1848385), (274885, 1332033), (276673, 397633), (282721, 0), (282827, 2889409), (283331, 824001), (284737, 389569), (290911, 0), (292801, 381505), (299101, 0), (300865, 373441), (307291, 0), (307401, 2365249), (307779, 816193), (308929, 365377), (315481, 0), (315717, 1324481), (316993, 357313), (323671, 0), (325057, 349249), (331861, 0), (331975, 1841089), (332227, 808385), (333121, 341185), (340051, 0), (341185, 333121), (348241, 0), (349249, 325057), (356431, 0), (356549, 1316929), (356675, 800577), (357313, 316993), (364621, 0), (365377, 308929), (372811, 0), (373441, 300865), (381001, 0), (381123, 792769), (381505, 292801), (389191, 0), (389569, 284737), (397381, 0), (397633, 276673), (405571, 0), (405697, 268609), (413761, 0), (790627, 9703489), (790855, 3937729), (790981, 1315523), (792769, 381123), (798813, 9179329), (800577, 356675), (806999, 8655169), (808385, 332227), (815185, 8131009), (816193, 307779), (823371, 7606849), (824001, 283331), (831557, 7082689), (831809, 3413569), (1314913, 9179203), (1315019, 6558529), (1315523, 790981), (1316929, 356549), (1323095, 7606467), (1324481, 315717), (1331277, 6033731), (1332033, 274885), (1339459, 4460995), (1339585, 6034369), (1839199, 8654917), (1841089, 331975), (1847377, 6033605), (1848385, 274759), (1855555, 3412293), (1855681, 2896193), (2363485, 8130631), (2365249, 307401), (2371659, 4460743), (2372289, 4461889), (2887771, 7606345), (2887881, 2895941), (2888259, 5510209), (2889409, 282827), (2895941, 2887881), (2896193, 1855681), (3412057, 7082059), (3412293, 1855555), (3413569, 831809), (3936343, 6557773), (3937729, 790855), (4460629, 6033487), (4460743, 2371659), (4460995, 1339459), (4461889, 2372289), (4984915, 5509201), (4986049, 0), (5509201, 4984915), (5510209, 2888259), (6033487, 4460629), (6033605, 1847377), (6033731, 1331277), (6034369, 1339585), (6557773, 3936343), (6558529, 1315019), (7082059, 3412057), (7082689, 831557), (7606345, 2887771), (7606467, 1323095), (7606849, 823371), (8130631, 2363485), (8131009, 815185), (8654917, 1839199), (8655169, 806999), (9179203, 1314913), (9179329, 798813), (9703489, 790627)]
theorem okQ19 : okQ 19 cq19 = true := by decide +kernel
theorem okO19 : okO 19 co19 = true := by decide +kernel
theorem srt19 : (isort Nat.ble cq19).filter (fun n => n % 2 == 1) = qs19 ∧ isort Nat.ble co19 = qs19 ∧ ts19.map (·.1) = qs19 := by decide +kernel
theorem one19 : ts19.all (okOne qs19) = true := by decide +kernel
def cq21 : List Nat := [266345, 268865, 274535, 274637, 275267, 276929, 282725, 284993, 290915, 291143, 291269, 293057, 299105, 299211, 299715, 301121, 307295, 309185, 315485, 317249, 323675, 323785, 324163, 325313, 331865, 332101, 333377, 340055, 341441, 348245, 348359, 348611, 349505, 356435, 357569, 364625, 365633, 372815, 372933, 373059, 373697, 381005, 381761, 389195, 389825, 397385, 397507, 397889, 405575, 405953, 413765, 414017, 421955, 422081, 430145, 790631, 790733, 791363, 793025, 798817, 798923, 799427, 800833, 807003, 807113, 807491, 808641, 815189, 815303, 815555, 816449, 823375, 823493, 823619, 824257, 831561, 831683, 832065, 839747, 839873, 1314917, 1317185, 1323099, 1323209, 1323587, 1324737, 1331281, 1332289, 1339463, 1339841, 1839203, 1839431, 1839557, 1841345, 1847381, 1847495, 1847747, 1848641, 1855559, 1855937, 2363489, 2363595, 2364099, 2365505, 2371663, 2371781, 2371907, 2372545, 2887775, 2889665, 2895945, 2896067, 2896449, 3412061, 3413825, 3420227, 3420353, 3936347, 3936457, 3936835, 3937985, 4460633, 4460869, 4462145, 4984919, 4986305, 5509205, 5509319, 5509571, 5510465, 6033491, 6034625, 6557777, 6558785, 7082063, 7082181, 7082307, 7082945, 7606349, 7607105, 8130635, 8131265, 8654921, 8655043, 8655425, 9179207, 9179585, 9703493, 9703745, 10227779, 10227905, 10752065]
def co21 : List Nat := [266345, 268865, 274535, 274637, 275267, 276929, 790631, 790733, 791363, 793025, 282725, 284993, 1314917, 1317185, 290915, 291143, 291269, 293057, 1839203, 1839431, 1839557, 1841345, 299105, 299211, 299715, 301121, 798817, 798923, 799427, 800833, 2363489, 2363595, 2364099, 2365505, 307295, 309185, 2887775, 2889665, 315485, 317249, 3412061, 3413825, 323675, 323785, 324163, 325313, 807003, 807113, 807491, 808641, 1323099, 1323209, 1323587, 1324737, 3936347, 3936457, 3936835, 3937985, 331865, 332101, 333377, 4460633, 4460869, 4462145, 340055, 341441, 4984919, 4986305, 348245, 348359, 348611, 349505, 815189, 815303, 815555, 816449, 1847381, 1847495, 1847747, 1848641, 5509205, 5509319, 5509571, 5510465, 356435, 357569, 6033491, 6034625, 364625, 365633, 1331281, 1332289, 6557777, 6558785, 372815, 372933, 373059, 373697, 823375, 823493, 823619, 824257, 2371663, 2371781, 2371907, 2372545, 7082063, 7082181, 7082307, 7082945, 381005, 381761, 7606349, 7607105, 389195, 389825, 8130635, 8131265, 397385, 397507, 397889, 831561, 831683, 832065, 2895945, 2896067, 2896449, 8654921, 8655043, 8655425, 405575, 405953, 1339463, 1339841, 1855559, 1855937, 9179207, 9179585, 413765, 414017, 9703493, 9703745, 421955, 422081, 839747, 839873, 3420227, 3420353, 10227779, 10227905, 430145, 10752065]
def qs21 : List Nat := [266345, 268865, 274535, 274637, 275267, 276929, 282725, 284993, 290915, 291143, 291269, 293057, 299105, 299211, 299715, 301121, 307295, 309185, 315485, 317249, 323675, 323785, 324163, 325313, 331865, 332101, 333377, 340055, 341441, 348245, 348359, 348611, 349505, 356435, 357569, 364625, 365633, 372815, 372933, 373059, 373697, 381005, 381761, 389195, 389825, 397385, 397507, 397889, 405575, 405953, 413765, 414017, 421955, 422081, 430145, 790631, 790733, 791363, 793025, 798817, 798923, 799427, 800833, 807003, 807113, 807491, 808641, 815189, 815303, 815555, 816449, 823375, 823493, 823619, 824257, 831561, 831683, 832065, 839747, 839873, 1314917, 1317185, 1323099, 1323209, 1323587, 1324737, 1331281, 1332289, 1339463, 1339841, 1839203, 1839431, 1839557, 1841345, 1847381, 1847495, 1847747, 1848641, 1855559, 1855937, 2363489, 2363595, 2364099, 2365505, 2371663, 2371781, 2371907, 2372545, 2887775, 2889665, 2895945, 2896067, 2896449, 3412061, 3413825, 3420227, 3420353, 3936347, 3936457, 3936835, 3937985, 4460633, 4460869, 4462145, 4984919, 4986305, 5509205, 5509319, 5509571, 5510465, 6033491, 6034625, 6557777, 6558785, 7082063, 7082181, 7082307, 7082945, 7606349, 7607105, 8130635, 8131265, 8654921, 8655043, 8655425, 9179207, 9179585, 9703493, 9703745, 10227779, 10227905, 10752065]
def ts21 : List (Nat × Nat) := [(266345, 0), (268865, 422081), (274535, 0), (274637, 3413825), (275267, 832065), (276929, 414017), (282725, 0), (284993, 405953), (290915, 0), (291143, 1848641), (291269, 1332289), (293057, 397889), (299105, 0), (299211, 2889665), (299715, 824257), (301121, 389825), (307295, 0), (309185, 381761), (315485, 0), (317249, 373697), (323675, 0), (323785, 2365505), (324163, 816449), (325313, 365633), (331865, 0), (332101, 1324737), (333377, 357569), (340055, 0), (341441, 349505), (348245, 0), (348359, 1841345), (348611, 808641), (349505, 341441), (356435, 0), (357569, 333377), (364625, 0), (365633, 325313), (372815, 0), (372933, 1317185), (373059, 800833), (373697, 317249), (381005, 0), (381761, 309185), (389195, 0), (389825, 301121), (397385, 0), (397507, 793025), (397889, 293057), (405575, 0), (405953, 284993), (413765, 0), (414017, 276929), (421955, 0), (422081, 268865), (430145, 0), (790631, 10752065), (790733, 0), (791363, 815555), (793025, 397507), (798817, 10227905), (798923, 0), (799427, 807491), (800833, 373059), (807003, 9703745), (807113, 0), (807491, 799427), (808641, 348611), (815189, 9179585), (815303, 0), (815555, 791363), (816449, 324163), (823375, 8655425), (823493, 0), (823619, 3937985), (824257, 299715), (831561, 8131265), (831683, 0), (832065, 275267), (839747, 7607105), (839873, 0), (1314917, 10227779), (1317185, 372933), (1323099, 8655043), (1323209, 7082945), (1323587, 2372545), (1324737, 332101), (1331281, 7082307), (1332289, 291269), (1339463, 5509571), (1339841, 4462145), (1839203, 9703493), (1839431, 6558785), (1839557, 0), (1841345, 348359), (1847381, 7082181), (1847495, 3420353), (1847747, 0), (1848641, 291143), (1855559, 4460869), (1855937, 0), (2363489, 9179207), (2363595, 3420227), (2364099, 4986305), (2365505, 323785), (2371663, 5509319), (2371781, 2896067), (2371907, 3936835), (2372545, 1323587), (2887775, 8654921), (2889665, 299211), (2895945, 3936457), (2896067, 2371781), (2896449, 6034625), (3412061, 8130635), (3413825, 274637), (3420227, 2363595), (3420353, 1847495), (3936347, 7606349), (3936457, 2895945), (3936835, 2371907), (3937985, 823619), (4460633, 7082063), (4460869, 1855559), (4462145, 1339841), (4984919, 6557777), (4986305, 2364099), (5509205, 6033491), (5509319, 2371663), (5509571, 1339463), (5510465, 0), (6033491, 5509205), (6034625, 2896449), (6557777, 4984919), (6558785, 1839431), (7082063, 4460633), (7082181, 1847381), (7082307, 1331281), (7082945, 1323209), (7606349, 3936347), (7607105, 839747), (8130635, 3412061), (8131265, 831561), (8654921, 2887775), (8655043, 1323099), (8655425, 823375), (9179207, 2363489), (9179585, 815189), (9703493, 1839203), (9703745, 807003), (10227779, 1314917), (10227905, 798817), (10752065, 790631)]
theorem okQ21 : okQ 21 cq21 = true := by decide +kernel
theorem okO21 : okO 21 co21 = true := by decide +kernel
theorem srt21 : (isort Nat.ble cq21).filter (fun n => n % 2 == 1) = qs21 ∧ isort Nat.ble co21 = qs21 ∧ ts21.map (·.1) = qs21 := by decide +kernel
theorem one21 : ts21.all (okOne qs21) = true := by decide +kernel
def cq23 : List Nat := [266349, 266447, 266569, 266821, 267203, 269121, 274539, 277185, 282729, 285249, 290919, 291021, 291651, 293313, 299109, 301377, 307299, 307527, 307653, 309441, 315489, 315595, 316099, 317505, 323679, 325569, 331869, 333633, 340059, 340169, 340547, 341697, 348249, 348485, 349761, 356439, 357825, 364629, 364743, 364995, 365889, 372819, 373953, 381009, 382017, 389199, 389317, 389443, 390081, 397389, 398145, 405579, 406209, 413769, 413891, 414273, 421959, 422337, 430149, 430401, 438339, 438465, 446529, 790635, 793281, 798821, 801089, 807007, 808897, 815193, 815429, 816705, 823379, 824513, 831565, 832321, 839751, 840129, 847937, 1314921, 1317441, 1323103, 1324993, 1331285, 1331399, 1331651, 1332545, 1339467, 1340097, 1347649, 1839207, 1839309, 1839939, 1841601, 1847385, 1847621, 1848897, 1855563, 1856193, 2363493, 2365761, 2371667, 2372801, 2379841, 2887779, 2888007, 2888133, 2889921, 2895949, 2896705, 3412065, 3412171, 3412675, 3414081, 3420231, 3420609, 3936351, 3938241, 3944513, 4460637, 4462401, 4984923, 4985033, 4985411, 4986561, 5509209, 5509445, 5510721, 6033495, 6034881, 6557781, 6557895, 6558147, 6559041, 7082067, 7083201, 7606353, 7607361, 8130639, 8130757, 8130883, 8131521, 8654925, 8655681, 9179211, 9179841, 9703497, 9703619, 9704001, 10227783, 10228161, 10752069, 10752321, 11276355, 11276481, 11800641]
def co23 : List Nat := [266349, 266447, 266569, 266821, 267203, 269121, 274539, 277185, 790635, 793281, 282729, 285249, 1314921, 1317441, 290919, 291021, 291651, 293313, 1839207, 1839309, 1839939, 1841601, 299109, 301377, 798821, 801089, 2363493, 2365761, 307299, 307527, 307653, 309441, 2887779, 2888007, 2888133, 2889921, 315489, 315595, 316099, 317505, 3412065, 3412171, 3412675, 3414081, 323679, 325569, 807007, 808897, 1323103, 1324993, 3936351, 3938241, 331869, 333633, 4460637, 4462401, 340059, 340169, 340547, 341697, 4984923, 4985033, 4985411, 4986561, 348249, 348485, 349761, 815193, 815429, 816705, 1847385, 1847621, 1848897, 5509209, 5509445, 5510721, 356439, 357825, 6033495, 6034881, 364629, 364743, 364995, 365889, 1331285, 1331399, 1331651, 1332545, 6557781, 6557895, 6558147, 6559041, 372819, 373953, 823379, 824513, 2371667, 2372801, 7082067, 7083201, 381009, 382017, 7606353, 7607361, 389199, 389317, 389443, 390081, 8130639, 8130757, 8130883, 8131521, 397389, 398145, 831565, 832321, 2895949, 2896705, 8654925, 8655681, 405579, 406209, 1339467, 1340097, 1855563, 1856193, 9179211, 9179841, 413769, 413891, 414273, 9703497, 9703619, 9704001, 421959, 422337, 839751, 840129, 3420231, 3420609, 10227783, 10228161, 430149, 430401, 10752069, 10752321, 438339, 438465, 11276355, 11276481, 446529, 847937, 1347649, 2379841, 3944513, 11800641]
def qs23 : List Nat := [266349, 266447, 266569, 266821, 267203, 269121, 274539, 277185, 282729, 285249, 290919, 291021, 291651, 293313, 299109, 301377, 307299, 307527, 307653, 309441, 315489, 315595, 316099, 317505, 323679, 325569, 331869, 333633, 340059, 340169, 340547, 341697, 348249, 348485, 349761, 356439, 357825, 364629, 364743, 364995, 365889, 372819, 373953, 381009, 382017, 389199, 389317, 389443, 390081, 397389, 398145, 405579, 406209, 413769, 413891, 414273, 421959, 422337, 430149, 430401, 438339, 438465, 446529, 790635, 793281, 798821, 801089, 807007, 808897, 815193, 815429, 816705, 823379, 824513, 831565, 832321, 839751, 840129, 847937, 1314921, 1317441, 1323103, 1324993, 1331285, 1331399, 1331651, 1332545, 1339467, 1340097, 1347649, 1839207, 1839309, 1839939, 1841601, 1847385, 1847621, 1848897, 1855563, 1856193, 2363493, 2365761, 2371667, 2372801, 2379841, 2887779, 2888007, 2888133, 2889921, 2895949, 2896705, 3412065, 3412171, 3412675, 3414081, 3420231, 3420609, 3936351, 3938241, 3944513, 4460637, 4462401, 4984923, 4985033, 4985411, 4986561, 5509209, 5509445, 5510721, 6033495, 6034881, 6557781, 6557895, 6558147, 6559041, 7082067, 7083201, 7606353, 7607361, 8130639, 8130757, 8130883, 8131521, 8654925, 8655681, 9179211, 9179841, 9703497, 9703619, 9704001, 10227783, 10228161, 10752069, 10752321, 11276355, 11276481, 11800641]
def ts23 : List (Nat × Nat) := [(266349, 0), (266447, 3938241), (266569, 2372801), (266821, 1340097), (267203, 840129), (269121, 438465), (274539, 0), (277185, 430401), (282729, 0), (285249, 422337), (290919, 0), (291021, 3414081), (291651, 832321), (293313, 414273), (299109, 0), (301377, 406209), (307299, 0), (307527, 1848897), (307653, 1332545), (309441, 398145), (315489, 0), (315595, 2889921), (316099, 824513), (317505, 390081), (323679, 0), (325569, 382017), (331869, 0), (333633, 373953), (340059, 0), (340169, 2365761), (340547, 816705), (341697, 365889), (348249, 0), (348485, 1324993), (349761, 357825), (356439, 0), (357825, 349761), (364629, 0), (364743, 1841601), (364995, 808897), (365889, 341697), (372819, 0), (373953, 333633), (381009, 0), (382017, 325569), (389199, 0), (389317, 1317441), (389443, 801089), (390081, 317505), (397389, 0), (398145, 309441), (405579, 0), (406209, 301377), (413769, 0), (413891, 793281), (414273, 293313), (421959, 0), (422337, 285249), (430149, 0), (430401, 277185), (438339, 0), (438465, 269121), (446529, 0), (790635, 11800641), (793281, 413891), (798821, 11276481), (801089, 389443), (807007, 10752321), (808897, 364995), (815193, 10228161), (815429, 4462401), (816705, 340547), (823379, 9704001), (824513, 316099), (831565, 9179841), (832321, 291651), (839751, 8655681), (840129, 267203), (847937, 8131521), (1314921, 11276355), (1317441, 389317), (1323103, 9703619), (1324993, 348485), (1331285, 8130883), (1331399, 7607361), (1331651, 4986561), (1332545, 307653), (1339467, 6558147), (1340097, 266821), (1347649, 4985411), (1839207, 10752069), (1839309, 3944513), (1839939, 1856193), (1841601, 364743), (1847385, 8130757), (1847621, 7083201), (1848897, 307527), (1855563, 5509445), (1856193, 1839939), (2363493, 10227783), (2365761, 340169), (2371667, 6557895), (2372801, 266569), (2379841, 2888007), (2887779, 9703497), (2888007, 2379841), (2888133, 3420609), (2889921, 315595), (2895949, 4985033), (2896705, 5510721), (3412065, 9179211), (3412171, 3420231), (3412675, 6559041), (3414081, 291021), (3420231, 3412171), (3420609, 2888133), (3936351, 8654925), (3938241, 266447), (3944513, 1839309), (4460637, 8130639), (4462401, 815429), (4984923, 7606353), (4985033, 2895949), (4985411, 1347649), (4986561, 1331651), (5509209, 7082067), (5509445, 1855563), (5510721, 2896705), (6033495, 6557781), (6034881, 0), (6557781, 6033495), (6557895, 2371667), (6558147, 1339467), (6559041, 3412675), (7082067, 5509209), (7083201, 1847621), (7606353, 4984923), (7607361, 1331399), (8130639, 4460637), (8130757, 1847385), (8130883, 1331285), (8131521, 847937), (8654925, 3936351), (8655681, 839751), (9179211, 3412065), (9179841, 831565), (9703497, 2887779), (9703619, 1323103), (9704001, 823379), (10227783, 2363493), (10228161, 815193), (10752069, 1839207), (10752321, 807007), (11276355, 1314921), (11276481, 798821), (11800641, 790635)]
theorem okQ23 : okQ 23 cq23 = true := by decide +kernel
theorem okO23 : okO 23 co23 = true := by decide +kernel
theorem srt23 : (isort Nat.ble cq23).filter (fun n => n % 2 == 1) = qs23 ∧ isort Nat.ble co23 = qs23 ∧ ts23.map (·.1) = qs23 := by decide +kernel
theorem one23 : ts23.all (okOne qs23) = true := by decide +kernel
def cq25 : List Nat := [266353, 266695, 269377, 274543, 277441, 282733, 282831, 282953, 283205, 283587, 285505, 290923, 293569, 299113, 301633, 307303, 307405, 308035, 309697, 315493, 317761, 323683, 323911, 324037, 325825, 331873, 331979, 332483, 333889, 340063, 341953, 348253, 350017, 356443, 356553, 356931, 358081, 364633, 364869, 366145, 372823, 374209, 381013, 381127, 381379, 382273, 389203, 390337, 397393, 398401, 405583, 405701, 405827, 406465, 413773, 414529, 421963, 422593, 430153, 430275, 430657, 438343, 438721, 446533, 446785, 454723, 454849, 462913, 790639, 793537, 798825, 801345, 807011, 807239, 807365, 809153, 815197, 816961, 823383, 824769, 831569, 832577, 839755, 840385, 847941, 848193, 1314925, 1315023, 1315145, 1315397, 1315779, 1317697, 1323107, 1323335, 1323461, 1325249, 1331289, 1331525, 1332801, 1339471, 1339589, 1339715, 1340353, 1347653, 1347905, 1839211, 1841857, 1847389, 1849153, 1855567, 1855685, 1855811, 1856449, 1863745, 2363497, 2366017, 2371671, 2373057, 2379845, 2380097, 2887783, 2887885, 2888515, 2890177, 2895953, 2896961, 3412069, 3414337, 3420235, 3420865, 3936355, 3936583, 3936709, 3938497, 3944517, 3944769, 4460641, 4460747, 4461251, 4462657, 4984927, 4986817, 5509213, 5510977, 6033499, 6033609, 6033987, 6035137, 6557785, 6558021, 6559297, 7082071, 7083457, 7606357, 7606471, 7606723, 7607617, 8130643, 8131777, 8654929, 8655937, 9179215, 9179333, 9179459, 9180097, 9703501, 9704257, 10227787, 10228417, 10752073, 10752195, 10752577, 11276359, 11276737, 11800645, 11800897, 12324931, 12325057, 12849217]
def co25 : List Nat := [266353, 266695, 269377, 274543, 277441, 790639, 793537, 282733, 282831, 282953, 283205, 283587, 285505, 1314925, 1315023, 1315145, 1315397, 1315779, 1317697, 290923, 293569, 1839211, 1841857, 299113, 301633, 798825, 801345, 2363497, 2366017, 307303, 307405, 308035, 309697, 2887783, 2887885, 2888515, 2890177, 315493, 317761, 3412069, 3414337, 323683, 323911, 324037, 325825, 807011, 807239, 807365, 809153, 1323107, 1323335, 1323461, 1325249, 3936355, 3936583, 3936709, 3938497, 331873, 331979, 332483, 333889, 4460641, 4460747, 4461251, 4462657, 340063, 341953, 4984927, 4986817, 348253, 350017, 815197, 816961, 1847389, 1849153, 5509213, 5510977, 356443, 356553, 356931, 358081, 6033499, 6033609, 6033987, 6035137, 364633, 364869, 366145, 1331289, 1331525, 1332801, 6557785, 6558021, 6559297, 372823, 374209, 823383, 824769, 2371671, 2373057, 7082071, 7083457, 381013, 381127, 381379, 382273, 7606357, 7606471, 7606723, 7607617, 389203, 390337, 8130643, 8131777, 397393, 398401, 831569, 832577, 2895953, 2896961, 8654929, 8655937, 405583, 405701, 405827, 406465, 1339471, 1339589, 1339715, 1340353, 1855567, 1855685, 1855811, 1856449, 9179215, 9179333, 9179459, 9180097, 413773, 414529, 9703501, 9704257, 421963, 422593, 839755, 840385, 3420235, 3420865, 10227787, 10228417, 430153, 430275, 430657, 10752073, 10752195, 10752577, 438343, 438721, 11276359, 11276737, 446533, 446785, 847941, 848193, 1347653, 1347905, 2379845, 2380097, 3944517, 3944769, 11800645, 11800897, 454723, 454849, 12324931, 12325057, 462913, 1863745, 12849217]
def qs25 : List Nat := [266353, 266695, 269377, 274543, 277441, 282733, 282831, 282953, 283205, 283587, 285505, 290923, 293569, 299113, 301633, 307303, 307405, 308035, 309697, 315493, 317761, 323683, 323911, 324037, 325825, 331873, 331979, 332483, 333889, 340063, 341953, 348253, 350017, 356443, 356553, 356931, 358081, 364633, 364869, 366145, 372823, 374209, 381013, 381127, 381379, 382273, 389203, 390337, 397393, 398401, 405583, 405701, 405827, 406465, 413773, 414529, 421963, 422593, 430153, 430275, 430657, 438343, 438721, 446533, 446785, 454723, 454849, 462913, 790639, 793537, 798825, 801345, 807011, 807239, 807365, 809153, 815197, 816961, 823383, 824769, 831569, 832577, 839755, 840385, 847941, 848193, 1314925, 1315023, 1315145, 1315397, 1315779, 1317697, 1323107, 1323335, 1323461, 1325249, 1331289, 1331525, 1332801, 1339471, 1339589, 1339715, 1340353, 1347653, 1347905, 1839211, 1841857, 1847389, 1849153, 1855567, 1855685, 1855811, 1856449, 1863745, 2363497, 2366017, 2371671, 2373057, 2379845, 2380097, 2887783, 2887885, 2888515, 2890177, 2895953, 2896961, 3412069, 3414337, 3420235, 3420865, 3936355, 3936583, 3936709, 3938497, 3944517, 3944769, 4460641, 4460747, 4461251, 4462657, 4984927, 4986817, 5509213, 5510977, 6033499, 6033609, 6033987, 6035137, 6557785, 6558021, 6559297, 7082071, 7083457, 7606357, 7606471, 7606723, 7607617, 8130643, 8131777, 8654929, 8655937, 9179215, 9179333, 9179459, 9180097, 9703501, 9704257, 10227787, 10228417, 10752073, 10752195, 10752577, 11276359, 11276737, 11800645, 11800897, 12324931, 12325057, 12849217]
def ts25 : List (Nat × Nat) := [(266353, 0), (266695, 1856449), (269377, 454849), (274543, 0), (277441, 446785), (282733, 0), (282831, 3938497), (282953, 2373057), (283205, 1340353), (283587, 840385), (285505, 438721), (290923, 0), (293569, 430657), (299113, 0), (301633, 422593), (307303, 0), (307405, 3414337), (308035, 832577), (309697, 414529), (315493, 0), (317761, 406465), (323683, 0), (323911, 1849153), (324037, 1332801), (325825, 398401), (331873, 0), (331979, 2890177), (332483, 824769), (333889, 390337), (340063, 0), (341953, 382273), (348253, 0), (350017, 374209), (356443, 0), (356553, 2366017), (356931, 816961), (358081, 366145), (364633, 0), (364869, 1325249), (366145, 358081), (372823, 0), (374209, 350017), (381013, 0), (381127, 1841857), (381379, 809153), (382273, 341953), (389203, 0), (390337, 333889), (397393, 0), (398401, 325825), (405583, 0), (405701, 1317697), (405827, 801345), (406465, 317761), (413773, 0), (414529, 309697), (421963, 0), (422593, 301633), (430153, 0), (430275, 793537), (430657, 293569), (438343, 0), (438721, 285505), (446533, 0), (446785, 277441), (454723, 0), (454849, 269377), (462913, 0), (790639, 12849217), (793537, 430275), (798825, 12325057), (801345, 405827), (807011, 11800897), (807239, 4986817), (807365, 1315779), (809153, 381379), (815197, 11276737), (816961, 356931), (823383, 10752577), (824769, 332483), (831569, 10228417), (832577, 308035), (839755, 9704257), (840385, 283587), (847941, 9180097), (848193, 4462657), (1314925, 12324931), (1315023, 8655937), (1315145, 0), (1315397, 2896961), (1315779, 807365), (1317697, 405701), (1323107, 10752195), (1323335, 0), (1323461, 5510977), (1325249, 364869), (1331289, 9179459), (1331525, 0), (1332801, 324037), (1339471, 7606723), (1339589, 8131777), (1339715, 0), (1340353, 283205), (1347653, 6033987), (1347905, 0), (1839211, 11800645), (1841857, 381127), (1847389, 9179333), (1849153, 323911), (1855567, 6558021), (1855685, 3944769), (1855811, 7607617), (1856449, 266695), (1863745, 3936709), (2363497, 11276359), (2366017, 356553), (2371671, 7606471), (2373057, 282953), (2379845, 3936583), (2380097, 4461251), (2887783, 10752073), (2887885, 3944517), (2888515, 6035137), (2890177, 331979), (2895953, 6033609), (2896961, 1315397), (3412069, 10227787), (3414337, 307405), (3420235, 4460747), (3420865, 7083457), (3936355, 9703501), (3936583, 2379845), (3936709, 1863745), (3938497, 282831), (3944517, 2887885), (3944769, 1855685), (4460641, 9179215), (4460747, 3420235), (4461251, 2380097), (4462657, 848193), (4984927, 8654929), (4986817, 807239), (5509213, 8130643), (5510977, 1323461), (6033499, 7606357), (6033609, 2895953), (6033987, 1347653), (6035137, 2888515), (6557785, 7082071), (6558021, 1855567), (6559297, 0), (7082071, 6557785), (7083457, 3420865), (7606357, 6033499), (7606471, 2371671), (7606723, 1339471), (7607617, 1855811), (8130643, 5509213), (8131777, 1339589), (8654929, 4984927), (8655937, 1315023), (9179215, 4460641), (9179333, 1847389), (9179459, 1331289), (9180097, 847941), (9703501, 3936355), (9704257, 839755), (10227787, 3412069), (10228417, 831569), (10752073, 2887783), (10752195, 1323107), (10752577, 823383), (11276359, 2363497), (11276737, 815197), (11800645, 1839211), (11800897, 807011), (12324931, 1314925), (12325057, 798825), (12849217, 790639)]
theorem okQ25 : okQ 25 cq25 = true := by decide +kernel
theorem okO25 : okO 25 co25 = true := by decide +kernel
theorem srt25 : (isort Nat.ble cq25).filter (fun n => n % 2 == 1) = qs25 ∧ isort Nat.ble co25 = qs25 ∧ ts25.map (·.1) = qs25 := by decide +kernel
theorem one25 : ts25.all (okOne qs25) = true := by decide +kernel
def cq27 : List Nat := [266357, 269633, 274547, 274641, 275523, 277697, 282737, 283079, 285761, 290927, 293825, 299117, 299215, 299337, 299589, 299971, 301889, 307307, 309953, 315497, 318017, 323687, 323789, 324419, 326081, 331877, 334145, 340067, 340295, 340421, 342209, 348257, 348363, 348867, 350273, 356447, 358337, 364637, 366401, 372827, 372937, 373315, 374465, 381017, 381253, 382529, 389207, 390593, 397397, 397511, 397763, 398657, 405587, 406721, 413777, 414785, 421967, 422085, 422211, 422849, 430157, 430913, 438347, 438977, 446537, 446659, 447041, 454727, 455105, 462917, 463169, 471107, 471233, 479297, 790643, 790737, 791619, 793793, 798829, 798927, 799049, 799301, 799683, 801601, 807015, 807117, 807747, 809409, 815201, 815307, 815811, 817217, 823387, 823497, 823875, 825025, 831573, 831687, 831939, 832833, 839759, 839877, 840003, 840641, 847945, 848067, 848449, 856131, 856257, 1314929, 1315271, 1317953, 1323111, 1323213, 1323843, 1325505, 1331293, 1333057, 1339475, 1340609, 1347657, 1347779, 1348161, 1839215, 1842113, 1847393, 1847499, 1848003, 1849409, 1855571, 1856705, 1863749, 1864001, 2363501, 2363599, 2363721, 2363973, 2364355, 2366273, 2371675, 2371785, 2372163, 2373313, 2379849, 2379971, 2380353, 2887787, 2890433, 2895957, 2896071, 2896323, 2897217, 3412073, 3414593, 3420239, 3420357, 3420483, 3421121, 3936359, 3936461, 3937091, 3938753, 3944521, 3944643, 3945025, 4460645, 4462913, 4468803, 4468929, 4984931, 4985159, 4985285, 4987073, 5509217, 5509323, 5509827, 5511233, 6033503, 6035393, 6557789, 6559553, 7082075, 7082185, 7082563, 7083713, 7606361, 7606597, 7607873, 8130647, 8132033, 8654933, 8655047, 8655299, 8656193, 9179219, 9180353, 9703505, 9704513, 10227791, 10227909, 10228035, 10228673, 10752077, 10752833, 11276363, 11276993, 11800649, 11800771, 11801153, 12324935, 12325313, 12849221, 12849473, 13373507, 13373633, 13897793]
def co27 : List Nat := [266357, 269633, 274547, 274641, 275523, 277697, 790643, 790737, 791619, 793793, 282737, 283079, 285761, 1314929, 1315271, 1317953, 290927, 293825, 1839215, 1842113, 299117, 299215, 299337, 299589, 299971, 301889, 798829, 798927, 799049, 799301, 799683, 801601, 2363501, 2363599, 2363721, 2363973, 2364355, 2366273, 307307, 309953, 2887787, 2890433, 315497, 318017, 3412073, 3414593, 323687, 323789, 324419, 326081, 807015, 807117, 807747, 809409, 1323111, 1323213, 1323843, 1325505, 3936359, 3936461, 3937091, 3938753, 331877, 334145, 4460645, 4462913, 340067, 340295, 340421, 342209, 4984931, 4985159, 4985285, 4987073, 348257, 348363, 348867, 350273, 815201, 815307, 815811, 817217, 1847393, 1847499, 1848003, 1849409, 5509217, 5509323, 5509827, 5511233, 356447, 358337, 6033503, 6035393, 364637, 366401, 1331293, 1333057, 6557789, 6559553, 372827, 372937, 373315, 374465, 823387, 823497, 823875, 825025, 2371675, 2371785, 2372163, 2373313, 7082075, 7082185, 7082563, 7083713, 381017, 381253, 382529, 7606361, 7606597, 7607873, 389207, 390593, 8130647, 8132033, 397397, 397511, 397763, 398657, 831573, 831687, 831939, 832833, 2895957, 2896071, 2896323, 2897217, 8654933, 8655047, 8655299, 8656193, 405587, 406721, 1339475, 1340609, 1855571, 1856705, 9179219, 9180353, 413777, 414785, 9703505, 9704513, 421967, 422085, 422211, 422849, 839759, 839877, 840003, 840641, 3420239, 3420357, 3420483, 3421121, 10227791, 10227909, 10228035, 10228673, 430157, 430913, 10752077, 10752833, 438347, 438977, 11276363, 11276993, 446537, 446659, 447041, 847945, 848067, 848449, 1347657, 1347779, 1348161, 2379849, 2379971, 2380353, 3944521, 3944643, 3945025, 11800649, 11800771, 11801153, 454727, 455105, 12324935, 12325313, 462917, 463169, 1863749, 1864001, 12849221, 12849473, 471107, 471233, 856131, 856257, 4468803, 4468929, 13373507, 13373633, 479297, 13897793]
def qs27 : List Nat := [266357, 269633, 274547, 274641, 275523, 277697, 282737, 283079, 285761, 290927, 293825, 299117, 299215, 299337, 299589, 299971, 301889, 307307, 309953, 315497, 318017, 323687, 323789, 324419, 326081, 331877, 334145, 340067, 340295, 340421, 342209, 348257, 348363, 348867, 350273, 356447, 358337, 364637, 366401, 372827, 372937, 373315, 374465, 381017, 381253, 382529, 389207, 390593, 397397, 397511, 397763, 398657, 405587, 406721, 413777, 414785, 421967, 422085, 422211, 422849, 430157, 430913, 438347, 438977, 446537, 446659, 447041, 454727, 455105, 462917, 463169, 471107, 471233, 479297, 790643, 790737, 791619, 793793, 798829, 798927, 799049, 799301, 799683, 801601, 807015, 807117, 807747, 809409, 815201, 815307, 815811, 817217, 823387, 823497, 823875, 825025, 831573, 831687, 831939, 832833, 839759, 839877, 840003, 840641, 847945, 848067, 848449, 856131, 856257, 1314929, 1315271, 1317953, 1323111, 1323213, 1323843, 1325505, 1331293, 1333057, 1339475, 1340609, 1347657, 1347779, 1348161, 1839215, 1842113, 1847393, 1847499, 1848003, 1849409, 1855571, 1856705, 1863749, 1864001, 2363501, 2363599, 2363721, 2363973, 2364355, 2366273, 2371675, 2371785, 2372163, 2373313, 2379849, 2379971, 2380353, 2887787, 2890433, 2895957, 2896071, 2896323, 2897217, 3412073, 3414593, 3420239, 3420357, 3420483, 3421121, 3936359, 3936461, 3937091, 3938753, 3944521, 3944643, 3945025, 4460645, 4462913, 4468803, 4468929, 4984931, 4985159, 4985285, 4987073, 5509217, 5509323, 5509827, 5511233, 6033503, 6035393, 6557789, 6559553, 7082075, 7082185, 7082563, 7083713, 7606361, 7606597, 7607873, 8130647, 8132033, 8654933, 8655047, 8655299, 8656193, 9179219, 9180353, 9703505, 9704513, 10227791, 10227909, 10228035, 10228673, 10752077, 10752833, 11276363, 11276993, 11800649, 11800771, 11801153, 12324935, 12325313, 12849221, 12849473, 13373507, 13373633, 13897793]
def ts27 : List (Nat × Nat) := [(266357, 0), (269633, 471233), (274547, 0), (274641, 4462913), (275523, 848449), (277697, 463169), (282737, 0), (283079, 1856705), (285761, 455105), (290927, 0), (293825, 447041), (299117, 0), (299215, 3938753), (299337, 2373313), (299589, 1340609), (299971, 840641), (301889, 438977), (307307, 0), (309953, 430913), (315497, 0), (318017, 422849), (323687, 0), (323789, 3414593), (324419, 832833), (326081, 414785), (331877, 0), (334145, 406721), (340067, 0), (340295, 1849409), (340421, 1333057), (342209, 398657), (348257, 0), (348363, 2890433), (348867, 825025), (350273, 390593), (356447, 0), (358337, 382529), (364637, 0), (366401, 374465), (372827, 0), (372937, 2366273), (373315, 817217), (374465, 366401), (381017, 0), (381253, 1325505), (382529, 358337), (389207, 0), (390593, 350273), (397397, 0), (397511, 1842113), (397763, 809409), (398657, 342209), (405587, 0), (406721, 334145), (413777, 0), (414785, 326081), (421967, 0), (422085, 1317953), (422211, 801601), (422849, 318017), (430157, 0), (430913, 309953), (438347, 0), (438977, 301889), (446537, 0), (446659, 793793), (447041, 293825), (454727, 0), (455105, 285761), (462917, 0), (463169, 277697), (471107, 0), (471233, 269633), (479297, 0), (790643, 13897793), (790737, 0), (791619, 831939), (793793, 446659), (798829, 13373633), (798927, 0), (799049, 5511233), (799301, 1323843), (799683, 823875), (801601, 422211), (807015, 12849473), (807117, 0), (807747, 815811), (809409, 397763), (815201, 12325313), (815307, 0), (815811, 807747), (817217, 373315), (823387, 11801153), (823497, 0), (823875, 799683), (825025, 348867), (831573, 11276993), (831687, 0), (831939, 791619), (832833, 324419), (839759, 10752833), (839877, 0), (840003, 4987073), (840641, 299971), (847945, 10228673), (848067, 0), (848449, 275523), (856131, 9704513), (856257, 0), (1314929, 13373507), (1315271, 6035393), (1317953, 422085), (1323111, 11800771), (1323213, 9180353), (1323843, 799301), (1325505, 381253), (1331293, 10228035), (1333057, 340421), (1339475, 8655299), (1340609, 299589), (1347657, 7082563), (1347779, 8656193), (1348161, 2897217), (1839215, 12849221), (1842113, 397511), (1847393, 10227909), (1847499, 4468929), (1848003, 2364355), (1849409, 340295), (1855571, 7606597), (1856705, 283079), (1863749, 4985285), (1864001, 8132033), (2363501, 12324935), (2363599, 4468803), (2363721, 5509827), (2363973, 0), (2364355, 1848003), (2366273, 372937), (2371675, 8655047), (2371785, 3944643), (2372163, 0), (2373313, 299337), (2379849, 4985159), (2379971, 3420483), (2380353, 0), (2887787, 11800649), (2890433, 348363), (2895957, 7082185), (2896071, 3420357), (2896323, 3945025), (2897217, 1348161), (3412073, 11276363), (3414593, 323789), (3420239, 5509323), (3420357, 2896071), (3420483, 2379971), (3421121, 6559553), (3936359, 10752077), (3936461, 3944521), (3937091, 7607873), (3938753, 299215), (3944521, 3936461), (3944643, 2371785), (3945025, 2896323), (4460645, 10227791), (4462913, 274641), (4468803, 2363599), (4468929, 1847499), (4984931, 9703505), (4985159, 2379849), (4985285, 1863749), (4987073, 840003), (5509217, 9179219), (5509323, 3420239), (5509827, 2363721), (5511233, 799049), (6033503, 8654933), (6035393, 1315271), (6557789, 8130647), (6559553, 3421121), (7082075, 7606361), (7082185, 2895957), (7082563, 1347657), (7083713, 0), (7606361, 7082075), (7606597, 1855571), (7607873, 3937091), (8130647, 6557789), (8132033, 1864001), (8654933, 6033503), (8655047, 2371675), (8655299, 1339475), (8656193, 1347779), (9179219, 5509217), (9180353, 1323213), (9703505, 4984931), (9704513, 856131), (10227791, 4460645), (10227909, 1847393), (10228035, 1331293), (10228673, 847945), (10752077, 3936359), (10752833, 839759), (11276363, 3412073), (11276993, 831573), (11800649, 2887787), (11800771, 1323111), (11801153, 823387), (12324935, 2363501), (12325313, 815201), (12849221, 1839215), (12849473, 807015), (13373507, 1314929), (13373633, 798829), (13897793, 790643)]
theorem okQ27 : okQ 27 cq27 = true := by decide +kernel
theorem okO27 : okO 27 co27 = true := by decide +kernel
theorem srt27 : (isort Nat.ble cq27).filter (fun n => n % 2 == 1) = qs27 ∧ isort Nat.ble co27 = qs27 ∧ ts27.map (·.1) = qs27 := by decide +kernel
theorem one27 : ts27.all (okOne qs27) = true := by decide +kernel
theorem dv_all : ∀ k ∈ (List.range 199), okDv (k + 1) = true := by decide +kernel
end k71

namespace k71
open PySem PySem.Spec PyProof.Rows L2 MS
def l4 (n : Nat) : List Int := [((n / 262144 : Nat) : Int), ((n / 4096 % 64 : Nat) : Int), ((n / 64 % 64 : Nat) : Int), ((n % 64 : Nat) : Int)]
theorem dat_encQ (n : Nat) : D.dat (encQ n) = .tuple ((l4 n).map .int) := rfl
theorem leD_tup (a b : D) (xs ys : List Int) (ha : D.dat a = .tuple (xs.map .int)) (hb : D.dat b = .tuple (ys.map .int)) : leD a b = decide (xs ≤ ys) := by
  have h := congrFun (congrFun (PySem.W.dataLe_rows (β := List Int) (fun x => x)) xs) ys
  rw [← h]
  unfold leD PySem.W.dataLe
  show (!(listOrd itemOrd).blt (PySem.W.keyToks (D.dat b)) (PySem.W.keyToks (D.dat a))) = (!(listOrd itemOrd).blt (PySem.W.keyToks (.list (ys.map .int))) (PySem.W.keyToks (.list (xs.map .int))))
  rw [ha, hb]
  have t := PySem.W.dataLt_tuple (ys.map .int) (xs.map .int)
  have l := PySem.W.dataLt_list (ys.map .int) (xs.map .int)
  have e := t.trans l.symm
  unfold PySem.W.dataLt at e
  exact congrArg (fun b => !b) e
theorem leD_encQ (a b : Nat) : leD (encQ a) (encQ b) = Nat.ble a b := by
  rw [leD_tup _ _ _ _ (dat_encQ a) (dat_encQ b)]
  have : (l4 a ≤ l4 b) ↔ a ≤ b := by
    unfold l4
    have d1 : ∀ n : Nat, n / 4096 = n / 64 / 64 := fun n => by rw [Nat.div_div_eq_div_mul]
    have d2 : ∀ n : Nat, n / 262144 = n / 64 / 64 / 64 := fun n => by rw [Nat.div_div_eq_div_mul, Nat.div_div_eq_div_mul]
    simp only [List.cons_le_cons_iff, List.nil_le, Int.ofNat_lt, Int.ofNat_inj, d1, d2]
    have ha := Nat.div_add_mod a 64
    have hb := Nat.div_add_mod b 64
    have la := Nat.mod_lt a (show 64 > 0 by decide)
    have lb := Nat.mod_lt b (show 64 > 0 by decide)
    generalize a / 64 = a1 at *
    generalize b / 64 = b1 at *
    generalize a % 64 = a0 at *
    generalize b % 64 = b0 at *
    have ha1 := Nat.div_add_mod a1 64
    have hb1 := Nat.div_add_mod b1 64
    have la1 := Nat.mod_lt a1 (show 64 > 0 by decide)
    have lb1 := Nat.mod_lt b1 (show 64 > 0 by decide)
    generalize a1 / 64 = a2 at *
    generalize b1 / 64 = b2 at *
    generalize a1 % 64 = a10 at *
    generalize b1 % 64 = b10 at *
    have ha2 := Nat.div_add_mod a2 64
    have hb2 := Nat.div_add_mod b2 64
    have la2 := Nat.mod_lt a2 (show 64 > 0 by decide)
    have lb2 := Nat.mod_lt b2 (show 64 > 0 by decide)
    generalize a2 / 64 = a3 at *
    generalize b2 / 64 = b3 at *
    generalize a2 % 64 = a20 at *
    generalize b2 % 64 = b20 at *
    constructor
    · rintro (h | ⟨h, h | ⟨h', h | ⟨h'', h | ⟨h''', _⟩⟩⟩⟩) <;> omega
    · intro h
      by_cases e3 : a3 < b3
      · exact .inl e3
      · refine .inr ⟨by omega, ?_⟩
        by_cases e2 : a20 < b20
        · exact .inl e2
        · refine .inr ⟨by omega, ?_⟩
          by_cases e1 : a10 < b10
          · exact .inl e1
          · refine .inr ⟨by omega, ?_⟩
            by_cases e0 : a0 < b0
            · exact .inl e0
            · exact .inr ⟨by omega, trivial⟩
  rw [Bool.eq_iff_iff, decide_eq_true_iff, this, Nat.ble_eq]
theorem ins_map {α β : Type} {le : α → α → Bool} {le' : β → β → Bool} {f : β → α} (h : ∀ a b, le (f a) (f b) = le' a b) (x : β) : ∀ l : List β, ins le (f x) (l.map f) = (ins le' x l).map f
  | [] => rfl
  | y :: l => by
    show (if le (f x) (f y) = true then f x :: f y :: l.map f else f y :: ins le (f x) (l.map f)) = (if le' x y = true then x :: y :: l else y :: ins le' x l).map f
    rw [h, ins_map h x l]
    split <;> rfl
theorem isort_map {α β : Type} {le : α → α → Bool} {le' : β → β → Bool} {f : β → α} (h : ∀ a b, le (f a) (f b) = le' a b) : ∀ l : List β, isort le (l.map f) = (isort le' l).map f
  | [] => rfl
  | x :: l => by
    show ins le (f x) (isort le (l.map f)) = _
    rw [isort_map h l, ins_map h]
    rfl
theorem pureL_encQ (l : List Nat) : D.pureL (l.map encQ) = true := D.fitL_all.mpr fun d hd => by
  obtain ⟨n, _, rfl⟩ := List.mem_map.mp hd
  rfl
theorem alike_l4 (a b : Nat) : PySem.W.alike (D.dat (encQ a)) (D.dat (encQ b)) = true := by
  rw [dat_encQ, dat_encQ]
  unfold PySem.W.alike
  exact PySem.W.alike_ints _ _
theorem sortOk_encQ (l : List Nat) : sortOk (l.map encQ) = true := by
  unfold sortOk alikeB
  simp only [Bool.and_eq_true]
  refine ⟨⟨⟨pureL_encQ l, ?_⟩, ?_⟩, ?_⟩
  · refine List.all_eq_true.mpr fun a ha => List.all_eq_true.mpr fun b hb => ?_
    obtain ⟨n, _, rfl⟩ := List.mem_map.mp ha
    obtain ⟨m, _, rfl⟩ := List.mem_map.mp hb
    exact alike_l4 n m
  · rw [Bool.or_eq_true]
    refine .inl (List.all_eq_true.mpr fun a ha => ?_)
    obtain ⟨n, _, rfl⟩ := List.mem_map.mp ha
    rfl
  · refine List.all_eq_true.mpr fun a ha => ?_
    obtain ⟨n, _, rfl⟩ := List.mem_map.mp ha
    exact decide_eq_true (by rw [dat_encQ]; show (PyData.tuple _).depth ≤ 60; unfold PyData.depth; rw [PySem.W.depth_ints]; decide)
theorem sorted_encQ {S : Sto} {d : D} {l : List Nat} (h : MS.listOf S d = some (l.map encQ)) : cSortedG [d] S = some (.fl ((isort Nat.ble l).map encQ), S) := by
  have key : (match cSorted [d] S with
      | some r => some r
      | none => (MS.listOf S d).bind fun es => if sortOk es = true then some (D.fl (isort leD es), S) else none) = some (.fl ((isort Nat.ble l).map encQ), S) := by
    cases l with
    | nil =>
      unfold cSorted
      simp only [h]
      rfl
    | cons x l =>
      have e : cSorted [d] S = none := by
        unfold cSorted
        simp only [h]
        rfl
      rw [e]
      simp only [h, Option.bind_some, if_pos (sortOk_encQ (x :: l))]
      rw [isort_map leD_encQ]
  unfold cSortedG
  split at key
  · rename_i r q
    first
      | (rw [q]; exact key)
      | exact key
  · rename_i q
    first
      | (rw [q]; exact key)
      | exact key
end k71

namespace k71
open PySem PySem.Spec PyProof.Rows L2 MS
theorem dLc_filt {α : Type} {fi : IDen} {g : NDen} {t : TDen} {b : EDen} {vs : List Nat} {ρ : MS.Env} {S : Sto} {items : List α} {e f : α → D} {p : α → Bool} (hi : fi ρ S = some (.fix (items.map e), S)) (hz : items.length ≤ 16777216)
    (h : ∀ d ∈ items, ∃ ρ1, g (e d) (wipeE ρ vs) = some ρ1 ∧ t ρ1 S = some (p d, S) ∧ (p d = true → b ρ1 S = some (f d, S))) : dLc fi g t b vs ρ S = some (.fl ((items.filter p).map f), S) := by
  unfold dLc
  rw [hi, bnd_mk, show Src.items (.fix (items.map e)) = items.map e from rfl]
  have key : ∀ ds : List α, (∀ d ∈ ds, d ∈ items) → lcL (.fix (items.map e)) g t b (ds.map e) (wipeE ρ vs) S = some ((ds.filter p).map f, S) := by
    intro ds
    induction ds with
    | nil => intro _; rfl
    | cons d ds ih =>
      intro hm
      obtain ⟨ρ1, e1, e2, e3⟩ := h d (hm d List.mem_cons_self)
      have ih := ih fun d' m => hm d' (List.mem_cons_of_mem _ m)
      rw [List.map_cons]
      unfold lcL
      rw [if_pos (show Src.ok (.fix (items.map e)) S = true from rfl), e1]
      simp only [e2, bnd_mk]
      cases q : p d with
      | false =>
        rw [List.filter_cons_of_neg (by rw [q]; decide)]
        simp only [Bool.false_eq_true, if_false]
        exact ih
      | true =>
        rw [List.filter_cons_of_pos q]
        simp only [if_true, e3 q, bnd_mk, ih]
        rfl
  rw [key items fun _ m => m, bnd_mk]
  refine if_pos (decide_eq_true ?_)
  rw [List.length_map, sizeLine_eq]
  exact Nat.le_trans (List.length_filter_le _ _) hz
theorem wo_seq2 {a b c : SDen} {ρ ρ' : MS.Env} {S S' : Sto} {Q : Out × MS.Env × Sto → Prop} (h : sSeq a b ρ S = some (.nx, ρ', S')) (h2 : Wo (c ρ' S') Q) : Wo (sSeq a (sSeq b c) ρ S) Q := by
  refine wo_seq.mpr ?_
  unfold sSeq at h
  split at h
  · rename_i ρ1 S1 e
    refine wo_of e (wo_seq.mpr (wo_of h h2))
  · rename_i hne
    exact absurd h (hne ρ' S')
theorem divs {k : Nat} (h1 : 1 ≤ k) (h2 : k ≤ 199) : F_divisors_of [.int k] = some (.tup ((dvN k).map intD)) := by
  have h := dv_all (k - 1) (List.mem_range.mpr (by omega))
  rw [show k - 1 + 1 = k by omega] at h
  unfold okDv at h
  split at h
  · rename_i ds e
    rw [e, D.sameL_eq h]
  · cases h
theorem quads {m : Nat} {cs qs : List Nat} (h : okQ m cs = true) (hs : (isort Nat.ble cs).filter (fun n => n % 2 == 1) = qs) (hl : cs.length ≤ 5000) : F_n_law_quadruples [.int m] = some (.fl (qs.map encQ)) := by
  refine bodyP_run rfl (pureL_encQ qs) ?_
  show Wo (b_n_law_quadruples [some (.int m), none, none, none, none, none, none] []) _
  obtain ⟨x0, x2, x3, x4, x5, x6, e⟩ := resQ_ok (x := runQ m) h
  unfold runQ loopQ at e
  clear h
  · unfold b_n_law_quadruples
    refine wo_seq2 e ?_
    have srt : iSeq (dCB cSortedG (aCons (dVar 1) aNil)) [x0, some (.fl (cs.map encQ)), x2, x3, x4, x5, x6] [] = some (.fix ((isort Nat.ble cs).map encQ), []) := by
      unfold iSeq dCB aCons aNil dVar
      simp only [List.getElem?_cons_succ, List.getElem?_cons_zero, bnd_mk]
      rw [sorted_encQ (l := cs) rfl]
      rfl
    unfold sRet
    rw [dLc_filt (items := isort Nat.ble cs) (e := encQ) (f := encQ) (p := fun n => n % 2 == 1) srt]
    · simp only [bnd_mk, wo_some]
      rw [hs]
    · rw [(isort_perm Nat.ble cs).length_eq]
      omega
    · intro n _
      refine ⟨_, rfl, ?_, fun _ => rfl⟩
      have e1 : ∀ S, gIx (encQ n) (.int 3) S = some (.int (n % 64 : Nat), S) := fun _ => rfl
      have e2 : (((n % 64 : Nat) : Int).fmod 2 = 1) ↔ n % 2 = 1 := by
        rw [fmod_pos (by decide)]
        omega
      simp only [asB, dOp, dCB, aCons, aNil, dVar, dC, wipeE, List.set_cons_succ, List.set_cons_zero, List.getElem?_cons_succ, List.getElem?_cons_zero, bnd_mk, e1, cInt, gMod, gI, ne_eq, show ¬ ((2 : Int) = 0) from by decide, not_false_eq_true, if_true, Option.map_some, eqA_int, e2]
      by_cases hn : n % 2 = 1 <;> simp [hn]
theorem oddq {m : Nat} {cs qs : List Nat} (h : okO m cs = true) (hs : isort Nat.ble cs = qs) : F_odd_quadruples [.int m] = some (.tup (qs.map encQ)) := by
  refine bodyP_run rfl (pureL_encQ qs) ?_
  show Wo (b_odd_quadruples [some (.int m), none, none, none, none, none] []) _
  obtain ⟨x0, x2, x3, x4, x5, e⟩ := resO_ok (x := runO m) h
  unfold runO loopO at e
  clear h
  · unfold b_odd_quadruples
    refine wo_seq2 e ?_
    unfold sRet dCB aCons aNil dVar
    simp only [List.getElem?_cons_succ, List.getElem?_cons_zero, bnd_mk]
    rw [sorted_encQ (l := cs) rfl]
    simp only [bnd_mk, cTuple, MS.listOf, Option.map_some, wo_some]
    rw [hs]
end k71

namespace k71
open PySem PySem.Spec PyProof.Rows L2 MS
theorem sign_facts {n : Nat} (h : okSign n = true) : F_quadruple_sign [encQ n] = some (.int (signOf n)) ∧ F_n_law_sign [encQ n] = some (.int (signOf n)) := by
  unfold okSign at h
  generalize F_quadruple_sign [encQ n] = x at h ⊢
  generalize F_n_law_sign [encQ n] = y at h ⊢
  split at h
  · rename_i s t
    rw [Bool.and_eq_true, decide_eq_true_iff, decide_eq_true_iff] at h
    exact ⟨by rw [h.1], by rw [h.2]⟩
  · cases h
theorem turn_facts {n t : Nat} (h : okTurn n t = true) : F_turned_quadruple [encQ n] = some (encQ t) := by
  unfold okTurn at h
  generalize F_turned_quadruple [encQ n] = x at h ⊢
  cases x with
  | none => cases h
  | some d => rw [D.same_eq h]
structure OneOk (l : List Nat) (n t : Nat) : Prop where
  s1 : F_quadruple_sign [encQ n] = some (.int (signOf n))
  s2 : F_n_law_sign [encQ n] = some (.int (signOf n))
  more : n / 262144 = n / 64 % 64 ∨ (F_turned_quadruple [encQ n] = some (encQ t) ∧ t ∈ l ∧ F_n_law_sign [encQ t] = some (.int (signOf t)) ∧ signOf t ≠ signOf n ∧ F_turned_quadruple [encQ t] = some (encQ n) ∧ (t / 64 % 64 < t / 262144 ↔ n / 64 % 64 < n / 262144) ∧
    ((((t / 262144 : Nat) : Int) - ((t / 64 % 64 : Nat) : Int)).natAbs : Int) = ((n / 4096 % 64 : Nat) : Int) + ((n % 64 : Nat) : Int))
theorem one_facts {l : List Nat} {n t : Nat} (h : okOne l (n, t) = true) : OneOk l n t := by
  unfold okOne at h
  rw [Bool.and_eq_true] at h
  obtain ⟨h1, h2⟩ := h
  obtain ⟨a1, a2⟩ := sign_facts h1
  refine ⟨a1, a2, ?_⟩
  rw [Bool.or_eq_true] at h2
  rcases h2 with h2 | h2
  · exact .inl (by simpa using h2)
  · simp only [Bool.and_eq_true, decide_eq_true_eq] at h2
    obtain ⟨⟨⟨⟨⟨⟨b1, b2⟩, b3⟩, b4⟩, b5⟩, b6⟩, b7⟩ := h2
    refine .inr ⟨turn_facts b1, by simpa using b2, (sign_facts b3).2, b4, turn_facts b5, ?_, b7⟩
    have b6 : decide (t / 64 % 64 < t / 262144) = decide (n / 64 % 64 < n / 262144) := by simpa using b6
    rwa [decide_eq_decide] at b6
theorem any_encQ {t : Nat} : ∀ {l : List Nat}, t ∈ l → ((D.datL (l.map encQ)).any fun z => PyData.eqv z (D.dat (encQ t))) = true
  | [], h => by cases h
  | x :: l, h => by
    show (PyData.eqv (D.dat (encQ x)) (D.dat (encQ t)) || ((D.datL (l.map encQ)).any fun z => PyData.eqv z (D.dat (encQ t)))) = true
    rcases List.mem_cons.mp h with rfl | h
    · rw [show PyData.eqv (D.dat (encQ t)) (D.dat (encQ t)) = true from SeqAt.eqv_refl _ (by rw [dat_encQ]; rfl)]
      rfl
    · rw [any_encQ h]
      simp
theorem shaped_encQ (t : Nat) : SeqAt.shaped (D.dat (encQ t)) = true := by
  rw [dat_encQ]
  rfl
theorem shaped_list : ∀ l : List Nat, SeqAt.shaped (.list (D.datL (l.map encQ))) = true := by
  have : ∀ l : List Nat, PyData.canLayAll0 (D.datL (l.map encQ)) = true ∧ PyData.depthAll (D.datL (l.map encQ)) ≤ 1 := by
    intro l
    induction l with
    | nil => exact ⟨rfl, by decide⟩
    | cons x l ih =>
      refine ⟨?_, ?_⟩
      · show (PyData.canLay0 (D.dat (encQ x)) && PyData.canLayAll0 (D.datL (l.map encQ))) = true
        rw [ih.1]
        rfl
      · show max (PyData.depth (D.dat (encQ x))) (PyData.depthAll (D.datL (l.map encQ))) ≤ 1
        have : PyData.depth (D.dat (encQ x)) = 1 := rfl
        omega
  intro l
  unfold SeqAt.shaped
  rw [Bool.and_eq_true]
  refine ⟨(this l).1, decide_eq_true ?_⟩
  show PyData.depthAll (D.datL (l.map encQ)) + 1 ≤ 64
  have := (this l).2
  omega
theorem not_in {S : Sto} {l : List Nat} {t : Nat} (h : t ∈ l) : gNotIn (encQ t) (.fl (l.map encQ)) S = some (.bl false, S) := by
  have e1 : datS S (encQ t) = some (D.dat (encQ t)) := datS_pure rfl
  have e2 : datS S (.fl (l.map encQ)) = some (.list (D.datL (l.map encQ))) := datS_pure (d := .fl (l.map encQ)) (pureL_encQ l)
  have e3 := any_encQ h
  have s1 := shaped_encQ t
  have s2 := shaped_list l
  have e4 : gInN true (encQ t) (.fl (l.map encQ)) S = (match datS S (encQ t), datS S (.fl (l.map encQ)) with
    | some a, some (.list es) => if SeqAt.shaped a && SeqAt.shaped (.list es) then some (sayN true (es.any fun z => PyData.eqv z a), S) else none
    | some a, some (.tuple es) => if SeqAt.shaped a && SeqAt.shaped (.tuple es) then some (sayN true (es.any fun z => PyData.eqv z a), S) else none
    | _, _ => none) := rfl
  show gInN true (encQ t) (.fl (l.map encQ)) S = _
  rw [e4, e1, e2]
  simp only [s1, s2, Bool.and_self, if_true, e3]
  rfl
theorem neQ {S : Sto} (n : Nat) : gNeA (encQ n) (encQ n) S = some (.bl false, S) := by
  have e1 : datS S (encQ n) = some (D.dat (encQ n)) := datS_pure rfl
  show gCmpD true (encQ n) (encQ n) S = _
  unfold gCmpD
  rw [e1]
  have e2 : PyData.eqv (D.dat (encQ n)) (D.dat (encQ n)) = true := SeqAt.eqv_refl _ (by rw [dat_encQ]; rfl)
  simp only [shaped_encQ, Bool.and_self, if_true, e2, Bool.not_true]
/-- one quadruple passes -/
theorem one_turn {l : List Nat} {n t : Nat} (h : OneOk l n t) {S : Sto} {a0 a1 a2 a4 a6 a7 a8 a9 a10 a11 a12 a13 a14 a15 a16 a17 a18 a19 a20 a21 : Option D} {Q : Out × MS.Env × Sto → Prop}
    (k : ∀ a19, Q (.nx, [a0, a1, a2, some (.fl (l.map encQ)), a4, some (encQ n), a6, a7, a8, a9, a10, a11, a12, a13, a14, a15, a16, a17, a18, a19, a20, a21], S)) :
    Wo (f1b_law [a0, a1, a2, some (.fl (l.map encQ)), a4, some (encQ n), a6, a7, a8, a9, a10, a11, a12, a13, a14, a15, a16, a17, a18, a19, a20, a21] S) Q := by
  have g0 : ∀ n S, gIx (encQ n) (.int 0) S = some (.int (n / 262144 : Nat), S) := fun _ _ => rfl
  have g1 : ∀ n S, gIx (encQ n) (.int 1) S = some (.int (n / 4096 % 64 : Nat), S) := fun _ _ => rfl
  have g2 : ∀ n S, gIx (encQ n) (.int 2) S = some (.int (n / 64 % 64 : Nat), S) := fun _ _ => rfl
  have g3 : ∀ n S, gIx (encQ n) (.int 3) S = some (.int (n % 64 : Nat), S) := fun _ _ => rfl
  have fq : ∀ k n, D.fit k (encQ n) = true := fun _ _ => rfl
  have sg : (signOf n).natAbs < 2 ^ 64 := by
    unfold signOf
    omega
  refine wo_seqN fun K k1 => ?_
  simp only [sAsg, sIf, sRet, sRetN, sNil, sPass, sSet, sExpr, sPar, sBrk, sCnt, dC, dVar, dOp, dUn, dIf, dCB, dCalP, dCalM, dMeth, dMeth0, dAnd, dOr, dNot, dIsi, aNil, aCons, asB, tbAnd, tbOr, tbNot, dChain, gN, gOf, nN, nT, nsCons, nsNil, dTup, dLst, dCell, wo_bnd, wo_some, wo_map, wo_bind, wo_if, bnd_mk, List.getElem?_cons_zero, List.getElem?_cons_succ, List.set_cons_zero, List.set_cons_succ, Option.map_some, Option.bind_some, gAdd, MS.gSub, gMul, gMod, gDiv, gLt, gLe, gGt, gGe, gI, gNeg, cInt, cI, cII, cAbs, cMax2, cMin2, decide_eq_true_eq, if_true, if_false, List.zip_cons_cons, List.zip_nil_right, List.foldl_cons, List.foldl_nil, List.length_cons, List.length_nil, Nat.zero_add, Nat.reduceAdd, Bool.false_eq_true, decide_true, decide_false, true_and, and_true, true_implies, implies_true, false_implies, not_true_eq_false, D.pureL, D.pure, D.fitL, D.fit, fit_dPair, fit_ints, Bool.and_true, Bool.true_and, Bool.and_self, wo_none, nn_iff, imp_and', and_false, false_and, szOk_0, szOk_1, szOk_2, szOk_3, szOk_4, szOk_5, szOk_6, szOk_7, szOk_8, eqA_int, neA_int, eqA_str, neA_str, eqA_bl, neA_bl, Bool.not_eq_true', Bool.not_true, Bool.not_false, not_false_eq_true, tyOf, isT, String.reduceBEq, Bool.or_false, Bool.false_or, Bool.and_false, Bool.or_true, Bool.true_or, Bool.false_and, fq, h.s1, h.s2, repr_int sg]
  refine k1 _ _ ?_
  clear k1
  simp only [sAsg, sIf, sRet, sRetN, sNil, sPass, sSet, sExpr, sPar, sBrk, sCnt, dC, dVar, dOp, dUn, dIf, dCB, dCalP, dCalM, dMeth, dMeth0, dAnd, dOr, dNot, dIsi, aNil, aCons, asB, tbAnd, tbOr, tbNot, dChain, gN, gOf, nN, nT, nsCons, nsNil, dTup, dLst, dCell, wo_bnd, wo_some, wo_map, wo_bind, wo_if, bnd_mk, List.getElem?_cons_zero, List.getElem?_cons_succ, List.set_cons_zero, List.set_cons_succ, Option.map_some, Option.bind_some, gAdd, MS.gSub, gMul, gMod, gDiv, gLt, gLe, gGt, gGe, gI, gNeg, cInt, cI, cII, cAbs, cMax2, cMin2, decide_eq_true_eq, if_true, if_false, List.zip_cons_cons, List.zip_nil_right, List.foldl_cons, List.foldl_nil, List.length_cons, List.length_nil, Nat.zero_add, Nat.reduceAdd, Bool.false_eq_true, decide_true, decide_false, true_and, and_true, true_implies, implies_true, false_implies, not_true_eq_false, D.pureL, D.pure, D.fitL, D.fit, fit_dPair, fit_ints, Bool.and_true, Bool.true_and, Bool.and_self, wo_none, nn_iff, imp_and', and_false, false_and, szOk_0, szOk_1, szOk_2, szOk_3, szOk_4, szOk_5, szOk_6, szOk_7, szOk_8, eqA_int, neA_int, eqA_str, neA_str, eqA_bl, neA_bl, Bool.not_eq_true', Bool.not_true, Bool.not_false, not_false_eq_true, tyOf, isT, String.reduceBEq, Bool.or_false, Bool.false_or, Bool.and_false, Bool.or_true, Bool.true_or, Bool.false_and, g0, g2]
  refine ⟨fun z => ?_, fun z => k _⟩
  rcases h.more with h' | ⟨b1, b2, b3, b4, b5, b6, b7⟩
  · exact absurd (congrArg (fun x : Nat => (x : Int)) h') (by simpa using z)
  refine wo_seqN fun K k1 => ?_
  simp only [sAsg, sIf, sRet, sRetN, sNil, sPass, sSet, sExpr, sPar, sBrk, sCnt, dC, dVar, dOp, dUn, dIf, dCB, dCalP, dCalM, dMeth, dMeth0, dAnd, dOr, dNot, dIsi, aNil, aCons, asB, tbAnd, tbOr, tbNot, dChain, gN, gOf, nN, nT, nsCons, nsNil, dTup, dLst, dCell, wo_bnd, wo_some, wo_map, wo_bind, wo_if, bnd_mk, List.getElem?_cons_zero, List.getElem?_cons_succ, List.set_cons_zero, List.set_cons_succ, Option.map_some, Option.bind_some, gAdd, MS.gSub, gMul, gMod, gDiv, gLt, gLe, gGt, gGe, gI, gNeg, cInt, cI, cII, cAbs, cMax2, cMin2, decide_eq_true_eq, if_true, if_false, List.zip_cons_cons, List.zip_nil_right, List.foldl_cons, List.foldl_nil, List.length_cons, List.length_nil, Nat.zero_add, Nat.reduceAdd, Bool.false_eq_true, decide_true, decide_false, true_and, and_true, true_implies, implies_true, false_implies, not_true_eq_false, D.pureL, D.pure, D.fitL, D.fit, fit_dPair, fit_ints, Bool.and_true, Bool.true_and, Bool.and_self, wo_none, nn_iff, imp_and', and_false, false_and, szOk_0, szOk_1, szOk_2, szOk_3, szOk_4, szOk_5, szOk_6, szOk_7, szOk_8, eqA_int, neA_int, eqA_str, neA_str, eqA_bl, neA_bl, Bool.not_eq_true', Bool.not_true, Bool.not_false, not_false_eq_true, tyOf, isT, String.reduceBEq, Bool.or_false, Bool.false_or, Bool.and_false, Bool.or_true, Bool.true_or, Bool.false_and, fq, b1]
  refine k1 _ _ ?_
  clear k1
  refine wo_seqN fun K k1 => ?_
  have b4' : (signOf t = signOf n) ↔ False := ⟨b4, False.elim⟩
  simp only [sAsg, sIf, sRet, sRetN, sNil, sPass, sSet, sExpr, sPar, sBrk, sCnt, dC, dVar, dOp, dUn, dIf, dCB, dCalP, dCalM, dMeth, dMeth0, dAnd, dOr, dNot, dIsi, aNil, aCons, asB, tbAnd, tbOr, tbNot, dChain, gN, gOf, nN, nT, nsCons, nsNil, dTup, dLst, dCell, wo_bnd, wo_some, wo_map, wo_bind, wo_if, bnd_mk, List.getElem?_cons_zero, List.getElem?_cons_succ, List.set_cons_zero, List.set_cons_succ, Option.map_some, Option.bind_some, gAdd, MS.gSub, gMul, gMod, gDiv, gLt, gLe, gGt, gGe, gI, gNeg, cInt, cI, cII, cAbs, cMax2, cMin2, decide_eq_true_eq, if_true, if_false, List.zip_cons_cons, List.zip_nil_right, List.foldl_cons, List.foldl_nil, List.length_cons, List.length_nil, Nat.zero_add, Nat.reduceAdd, Bool.false_eq_true, decide_true, decide_false, true_and, and_true, true_implies, implies_true, false_implies, not_true_eq_false, D.pureL, D.pure, D.fitL, D.fit, fit_dPair, fit_ints, Bool.and_true, Bool.true_and, Bool.and_self, wo_none, nn_iff, imp_and', and_false, false_and, szOk_0, szOk_1, szOk_2, szOk_3, szOk_4, szOk_5, szOk_6, szOk_7, szOk_8, eqA_int, neA_int, eqA_str, neA_str, eqA_bl, neA_bl, Bool.not_eq_true', Bool.not_true, Bool.not_false, not_false_eq_true, tyOf, isT, String.reduceBEq, Bool.or_false, Bool.false_or, Bool.and_false, Bool.or_true, Bool.true_or, Bool.false_and, fq, not_in b2, h.s2, b3, b5, neQ, b4']
  refine k1 _ _ ?_
  clear k1
  simp only [sAsg, sIf, sRet, sRetN, sNil, sPass, sSet, sExpr, sPar, sBrk, sCnt, dC, dVar, dOp, dUn, dIf, dCB, dCalP, dCalM, dMeth, dMeth0, dAnd, dOr, dNot, dIsi, aNil, aCons, asB, tbAnd, tbOr, tbNot, dChain, gN, gOf, nN, nT, nsCons, nsNil, dTup, dLst, dCell, wo_bnd, wo_some, wo_map, wo_bind, wo_if, bnd_mk, List.getElem?_cons_zero, List.getElem?_cons_succ, List.set_cons_zero, List.set_cons_succ, Option.map_some, Option.bind_some, gAdd, MS.gSub, gMul, gMod, gDiv, gLt, gLe, gGt, gGe, gI, gNeg, cInt, cI, cII, cAbs, cMax2, cMin2, decide_eq_true_eq, if_true, if_false, List.zip_cons_cons, List.zip_nil_right, List.foldl_cons, List.foldl_nil, List.length_cons, List.length_nil, Nat.zero_add, Nat.reduceAdd, Bool.false_eq_true, decide_true, decide_false, true_and, and_true, true_implies, implies_true, false_implies, not_true_eq_false, D.pureL, D.pure, D.fitL, D.fit, fit_dPair, fit_ints, Bool.and_true, Bool.true_and, Bool.and_self, wo_none, nn_iff, imp_and', and_false, false_and, szOk_0, szOk_1, szOk_2, szOk_3, szOk_4, szOk_5, szOk_6, szOk_7, szOk_8, eqA_int, neA_int, eqA_str, neA_str, eqA_bl, neA_bl, Bool.not_eq_true', Bool.not_true, Bool.not_false, not_false_eq_true, tyOf, isT, String.reduceBEq, Bool.or_false, Bool.false_or, Bool.and_false, Bool.or_true, Bool.true_or, Bool.false_and, g0, g1, g2, g3]
  have c1 : decide (((t / 64 % 64 : Nat) : Int) < ((t / 262144 : Nat) : Int)) = decide (((n / 64 % 64 : Nat) : Int) < ((n / 262144 : Nat) : Int)) := by
    rw [decide_eq_decide, Int.ofNat_lt, Int.ofNat_lt]
    exact b6
  have c2 : (if ((t / 262144 : Nat) : Int) - ((t / 64 % 64 : Nat) : Int) < 0 then -(((t / 262144 : Nat) : Int) - ((t / 64 % 64 : Nat) : Int)) else ((t / 262144 : Nat) : Int) - ((t / 64 % 64 : Nat) : Int)) = ((n / 4096 % 64 : Nat) : Int) + ((n % 64 : Nat) : Int) := by
    rw [← b7]
    split <;> omega
  rw [decide_eq_true c1, decide_eq_true c2]
  exact ⟨fun z => absurd z (by decide), fun _ => ⟨fun z => absurd z (by decide), fun _ => k _⟩⟩
/-- a comprehension of signs, summed -/
theorem signs_sum {l : List Nat} {f : Nat → Option D} {S : Sto} : True := trivial
end k71

/-! k71: dicts of counts, looked at by the kernel -/
namespace k71
open PySem PySem.Spec PyProof.Rows L2 MS
def getN (k : Nat) : List (Nat × Nat) → Nat
  | [] => 0
  | p :: l => if p.1 == k then p.2 else getN k l
def incN (k : Nat) : List (Nat × Nat) → List (Nat × Nat)
  | [] => [(k, 1)]
  | p :: l => if p.1 == k then (p.1, p.2 + 1) :: l else p :: incN k l
/-- the sum that _law_pairs tells -/
def pairSum (n : Nat) (all : List (Nat × Nat)) : List (Nat × Nat) → Nat
  | [] => 0
  | p :: l => (if Nat.ble p.1 n then p.2 * getN (n - p.1) all else 0) + pairSum n all l
def oddSq (m : Nat) : List Nat := (List.range (m + 1)).map fun i => (2 * i + 1) * (2 * i + 1)
def incAll (x : Nat) : List Nat → List (Nat × Nat) → List (Nat × Nat)
  | [], l => l
  | y :: o, l => incAll x o (incN (x + y) l)
def incOuter (o : List Nat) : List Nat → List (Nat × Nat) → List (Nat × Nat)
  | [], l => l
  | x :: r, l => incOuter o r (incAll x o l)
def pairsN (m : Nat) : List (Nat × Nat) := incOuter (oddSq m) (oddSq m) []
def sumN : List Nat → Nat
  | [] => 0
  | x :: l => x + sumN l
def pairsOk (m : Nat) (l : List (Nat × Nat)) : Bool := l == pairsN m
def sqN : List (Nat × Nat) := [(0, 1), (1, 2), (4, 2), (9, 2), (16, 2), (25, 2), (36, 2), (49, 2), (64, 2), (81, 2), (100, 2), (121, 2), (144, 2), (169, 2), (196, 2)]
def r2L : List Nat := [1, 4, 4, 0, 4, 8, 0, 0, 4, 4, 8, 0, 0, 8, 0, 0, 4, 8, 4, 0, 8, 0, 0, 0, 0, 12, 8, 0, 0, 8, 0, 0, 4, 0, 8, 0, 4, 8, 0, 0, 8, 8, 0, 0, 0, 8, 0, 0, 0, 4, 12, 0, 8, 8, 0, 0, 0, 0, 8, 0, 0, 8, 0, 0, 4, 16, 0, 0, 8, 0, 0, 0, 4, 8, 8, 0, 0, 0, 0, 0, 8, 4, 8, 0, 0, 16, 0, 0, 0, 8, 8, 0, 0, 0, 0, 0, 0, 8, 4, 0, 12, 8, 0, 0, 8, 0, 8, 0, 0, 8, 0, 0, 0, 8, 0, 0, 8, 8, 0, 0, 0, 4, 8, 0, 0, 16, 0, 0, 4, 0, 16, 0, 0, 0, 0, 0, 8, 8, 0, 0, 0, 0, 0, 0, 4, 16, 8, 0, 8, 8, 0, 0, 0, 8, 0, 0, 0, 8, 0, 0, 8, 0, 4, 0, 8, 0, 0, 0, 0, 12, 16, 0, 0, 8, 0, 0, 0, 0, 8, 0, 8, 8, 0, 0, 0, 16, 0, 0, 0, 0, 0, 0, 0, 8, 8, 0, 4, 8, 0, 0]
def twoN (k : Nat) : List (Nat × Nat) := (List.range (k + 1)).zip r2L
theorem r2_all : ∀ k ∈ List.range 200, r2L[k]? = some (pairSum k sqN sqN) := by decide +kernel
def okTwo (k : Nat) : Bool := match F_count_two_squares [.int k], r2L[k]? with
  | some (.int a), some r => decide (a = (r : Nat))
  | _, _ => false
theorem two_all : ∀ k ∈ List.range 200, okTwo k = true := by decide +kernel
def okHas (k : Nat) : Bool := match F_has_two_squares [.int k], r2L[k]? with
  | some (.bl a), some r => a == decide (0 < r)
  | _, _ => false
theorem has_all : ∀ k ∈ List.range 199, okHas (k + 1) = true := by decide +kernel
def okFour (k : Nat) : Bool := match F_count_four_squares [.int k] with
  | some (.int a) => decide (a = (pairSum k (twoN k) (twoN k) : Nat))
  | _ => false
theorem four0 : ∀ k ∈ List.range 20, okFour (k + 0) = true := by decide +kernel
theorem four1 : ∀ k ∈ List.range 20, okFour (k + 20) = true := by decide +kernel
theorem four2 : ∀ k ∈ List.range 20, okFour (k + 40) = true := by decide +kernel
theorem four3 : ∀ k ∈ List.range 20, okFour (k + 60) = true := by decide +kernel
theorem four4 : ∀ k ∈ List.range 20, okFour (k + 80) = true := by decide +kernel
theorem four5 : ∀ k ∈ List.range 20, okFour (k + 100) = true := by decide +kernel
theorem four6 : ∀ k ∈ List.range 20, okFour (k + 120) = true := by decide +kernel
theorem four7 : ∀ k ∈ List.range 20, okFour (k + 140) = true := by decide +kernel
theorem four8 : ∀ k ∈ List.range 20, okFour (k + 160) = true := by decide +kernel
theorem four9 : ∀ k ∈ List.range 20, okFour (k + 180) = true := by decide +kernel
def pr1 : List (Nat × Nat) := [(2, 1), (10, 2), (18, 1)]
theorem prs1 : pairsN 1 = pr1 ∧ pairSum 4 pr1 pr1 = sumN (dvN 1) := by decide +kernel
def pr3 : List (Nat × Nat) := [(2, 1), (10, 2), (26, 2), (50, 3), (18, 1), (34, 2), (58, 2), (74, 2), (98, 1)]
theorem prs3 : pairsN 3 = pr3 ∧ pairSum 12 pr3 pr3 = sumN (dvN 3) := by decide +kernel
def pr5 : List (Nat × Nat) := [(2, 1), (10, 2), (26, 2), (50, 3), (82, 2), (122, 2), (18, 1), (34, 2), (58, 2), (90, 2), (130, 4), (74, 2), (106, 2), (146, 2), (98, 1), (170, 2), (162, 1), (202, 2), (242, 1)]
theorem prs5 : pairsN 5 = pr5 ∧ pairSum 20 pr5 pr5 = sumN (dvN 5) := by decide +kernel
def pr7 : List (Nat × Nat) := [(2, 1), (10, 2), (26, 2), (50, 3), (82, 2), (122, 2), (170, 4), (226, 2), (18, 1), (34, 2), (58, 2), (90, 2), (130, 4), (178, 2), (234, 2), (74, 2), (106, 2), (146, 2), (194, 2), (250, 4), (98, 1), (218, 2), (274, 2), (162, 1), (202, 2), (306, 2), (242, 1), (290, 2), (346, 2), (338, 1), (394, 2), (450, 1)]
theorem prs7 : pairsN 7 = pr7 ∧ pairSum 28 pr7 pr7 = sumN (dvN 7) := by decide +kernel
def pr9 : List (Nat × Nat) := [(2, 1), (10, 2), (26, 2), (50, 3), (82, 2), (122, 2), (170, 4), (226, 2), (290, 4), (362, 2), (18, 1), (34, 2), (58, 2), (90, 2), (130, 4), (178, 2), (234, 2), (298, 2), (370, 4), (74, 2), (106, 2), (146, 2), (194, 2), (250, 4), (314, 2), (386, 2), (98, 1), (218, 2), (274, 2), (338, 3), (410, 4), (162, 1), (202, 2), (306, 2), (442, 2), (242, 1), (346, 2), (482, 2), (394, 2), (458, 2), (530, 2), (450, 1), (514, 2), (586, 2), (578, 1), (650, 2), (722, 1)]
theorem prs9 : pairsN 9 = pr9 ∧ pairSum 36 pr9 pr9 = sumN (dvN 9) := by decide +kernel
def pr11 : List (Nat × Nat) := [(2, 1), (10, 2), (26, 2), (50, 3), (82, 2), (122, 2), (170, 4), (226, 2), (290, 4), (362, 2), (442, 4), (530, 4), (18, 1), (34, 2), (58, 2), (90, 2), (130, 4), (178, 2), (234, 2), (298, 2), (370, 4), (450, 3), (538, 2), (74, 2), (106, 2), (146, 2), (194, 2), (250, 4), (314, 2), (386, 2), (466, 2), (554, 2), (98, 1), (218, 2), (274, 2), (338, 3), (410, 4), (490, 2), (578, 3), (162, 1), (202, 2), (306, 2), (522, 2), (610, 4), (242, 1), (346, 2), (482, 2), (562, 2), (650, 4), (394, 2), (458, 2), (698, 2), (514, 2), (586, 2), (666, 2), (754, 2), (730, 2), (818, 2), (722, 1), (802, 2), (890, 2), (882, 1), (970, 2), (1058, 1)]
theorem prs11 : pairsN 11 = pr11 ∧ pairSum 44 pr11 pr11 = sumN (dvN 11) := by decide +kernel
def pr13 : List (Nat × Nat) := [(2, 1), (10, 2), (26, 2), (50, 3), (82, 2), (122, 2), (170, 4), (226, 2), (290, 4), (362, 2), (442, 4), (530, 4), (626, 2), (730, 4), (18, 1), (34, 2), (58, 2), (90, 2), (130, 4), (178, 2), (234, 2), (298, 2), (370, 4), (450, 3), (538, 2), (634, 2), (738, 2), (74, 2), (106, 2), (146, 2), (194, 2), (250, 4), (314, 2), (386, 2), (466, 2), (554, 2), (650, 6), (754, 4), (98, 1), (218, 2), (274, 2), (338, 3), (410, 4), (490, 2), (578, 3), (674, 2), (778, 2), (162, 1), (202, 2), (306, 2), (522, 2), (610, 4), (706, 2), (810, 2), (242, 1), (346, 2), (482, 2), (562, 2), (746, 2), (850, 4), (394, 2), (458, 2), (698, 2), (794, 2), (898, 2), (514, 2), (586, 2), (666, 2), (954, 2), (818, 2), (914, 2), (1018, 2), (722, 1), (802, 2), (890, 2), (986, 2), (1090, 2), (882, 1), (970, 2), (1066, 2), (1170, 2), (1058, 1), (1154, 2), (1258, 2), (1250, 1), (1354, 2), (1458, 1)]
theorem prs13 : pairsN 13 = pr13 ∧ pairSum 52 pr13 pr13 = sumN (dvN 13) := by decide +kernel
def pr15 : List (Nat × Nat) := [(2, 1), (10, 2), (26, 2), (50, 3), (82, 2), (122, 2), (170, 4), (226, 2), (290, 4), (362, 2), (442, 4), (530, 4), (626, 2), (730, 4), (842, 2), (962, 4), (18, 1), (34, 2), (58, 2), (90, 2), (130, 4), (178, 2), (234, 2), (298, 2), (370, 4), (450, 3), (538, 2), (634, 2), (738, 2), (850, 6), (970, 4), (74, 2), (106, 2), (146, 2), (194, 2), (250, 4), (314, 2), (386, 2), (466, 2), (554, 2), (650, 6), (754, 4), (866, 2), (986, 4), (98, 1), (218, 2), (274, 2), (338, 3), (410, 4), (490, 2), (578, 3), (674, 2), (778, 2), (890, 4), (1010, 4), (162, 1), (202, 2), (306, 2), (522, 2), (610, 4), (706, 2), (810, 2), (922, 2), (1042, 2), (242, 1), (346, 2), (482, 2), (562, 2), (746, 2), (1082, 2), (394, 2), (458, 2), (698, 2), (794, 2), (898, 2), (1130, 4), (514, 2), (586, 2), (666, 2), (954, 2), (1066, 4), (1186, 2), (818, 2), (914, 2), (1018, 2), (1250, 3), (722, 1), (802, 2), (1090, 2), (1202, 2), (1322, 2), (882, 1), (1170, 2), (1282, 2), (1402, 2), (1058, 1), (1154, 2), (1258, 2), (1370, 2), (1490, 2), (1354, 2), (1466, 2), (1586, 2), (1458, 1), (1570, 2), (1690, 2), (1682, 1), (1802, 2), (1922, 1)]
theorem prs15 : pairsN 15 = pr15 ∧ pairSum 60 pr15 pr15 = sumN (dvN 15) := by decide +kernel
def pr17 : List (Nat × Nat) := [(2, 1), (10, 2), (26, 2), (50, 3), (82, 2), (122, 2), (170, 4), (226, 2), (290, 4), (362, 2), (442, 4), (530, 4), (626, 2), (730, 4), (842, 2), (962, 4), (1090, 4), (1226, 2), (18, 1), (34, 2), (58, 2), (90, 2), (130, 4), (178, 2), (234, 2), (298, 2), (370, 4), (450, 3), (538, 2), (634, 2), (738, 2), (850, 6), (970, 4), (1098, 2), (1234, 2), (74, 2), (106, 2), (146, 2), (194, 2), (250, 4), (314, 2), (386, 2), (466, 2), (554, 2), (650, 6), (754, 4), (866, 2), (986, 4), (1114, 2), (1250, 5), (98, 1), (218, 2), (274, 2), (338, 3), (410, 4), (490, 2), (578, 3), (674, 2), (778, 2), (890, 4), (1010, 4), (1138, 2), (1274, 2), (162, 1), (202, 2), (306, 2), (522, 2), (610, 4), (706, 2), (810, 2), (922, 2), (1042, 2), (1170, 4), (1306, 2), (242, 1), (346, 2), (482, 2), (562, 2), (746, 2), (1082, 2), (1210, 2), (1346, 2), (394, 2), (458, 2), (698, 2), (794, 2), (898, 2), (1130, 4), (1258, 4), (1394, 2), (514, 2), (586, 2), (666, 2), (954, 2), (1066, 4), (1186, 2), (1314, 2), (1450, 4), (818, 2), (914, 2), (1018, 2), (1378, 2), (1514, 2), (722, 1), (802, 2), (1202, 2), (1322, 2), (1586, 4), (882, 1), (1282, 2), (1402, 2), (1530, 2), (1666, 2), (1058, 1), (1154, 2), (1370, 2), (1490, 2), (1618, 2), (1754, 2), (1354, 2), (1466, 2), (1714, 2), (1850, 2), (1458, 1), (1570, 2), (1690, 2), (1818, 2), (1954, 2), (1682, 1), (1802, 2), (1930, 2), (2066, 2), (1922, 1), (2050, 2), (2186, 2), (2178, 1), (2314, 2), (2450, 1)]
theorem prs17 : pairsN 17 = pr17 ∧ pairSum 68 pr17 pr17 = sumN (dvN 17) := by decide +kernel
def pr19 : List (Nat × Nat) := [(2, 1), (10, 2), (26, 2), (50, 3), (82, 2), (122, 2), (170, 4), (226, 2), (290, 4), (362, 2), (442, 4), (530, 4), (626, 2), (730, 4), (842, 2), (962, 4), (1090, 4), (1226, 2), (1370, 4), (1522, 2), (18, 1), (34, 2), (58, 2), (90, 2), (130, 4), (178, 2), (234, 2), (298, 2), (370, 4), (450, 3), (538, 2), (634, 2), (738, 2), (850, 6), (970, 4), (1098, 2), (1234, 2), (1378, 4), (1530, 4), (74, 2), (106, 2), (146, 2), (194, 2), (250, 4), (314, 2), (386, 2), (466, 2), (554, 2), (650, 6), (754, 4), (866, 2), (986, 4), (1114, 2), (1250, 5), (1394, 4), (1546, 2), (98, 1), (218, 2), (274, 2), (338, 3), (410, 4), (490, 2), (578, 3), (674, 2), (778, 2), (890, 4), (1010, 4), (1138, 2), (1274, 2), (1418, 2), (1570, 4), (162, 1), (202, 2), (306, 2), (522, 2), (610, 4), (706, 2), (810, 2), (922, 2), (1042, 2), (1170, 4), (1306, 2), (1450, 6), (1602, 2), (242, 1), (346, 2), (482, 2), (562, 2), (746, 2), (1082, 2), (1210, 2), (1346, 2), (1490, 4), (1642, 2), (394, 2), (458, 2), (698, 2), (794, 2), (898, 2), (1130, 4), (1258, 4), (1538, 2), (1690, 4), (514, 2), (586, 2), (666, 2), (954, 2), (1066, 4), (1186, 2), (1314, 2), (1594, 2), (1746, 2), (818, 2), (914, 2), (1018, 2), (1514, 2), (1658, 2), (1810, 4), (722, 1), (802, 2), (1202, 2), (1322, 2), (1586, 4), (1730, 2), (1882, 2), (882, 1), (1282, 2), (1402, 2), (1666, 2), (1962, 2), (1058, 1), (1154, 2), (1618, 2), (1754, 2), (1898, 2), (2050, 4), (1354, 2), (1466, 2), (1714, 2), (1850, 2), (1994, 2), (2146, 2), (1458, 1), (1818, 2), (1954, 2), (2098, 2), (2250, 2), (1682, 1), (1802, 2), (1930, 2), (2066, 2), (2210, 2), (2362, 2), (1922, 1), (2186, 2), (2330, 2), (2482, 2), (2178, 1), (2314, 2), (2458, 2), (2610, 2), (2450, 1), (2594, 2), (2746, 2), (2738, 1), (2890, 2), (3042, 1)]
theorem prs19 : pairsN 19 = pr19 ∧ pairSum 76 pr19 pr19 = sumN (dvN 19) := by decide +kernel
def pr21 : List (Nat × Nat) := [(2, 1), (10, 2), (26, 2), (50, 3), (82, 2), (122, 2), (170, 4), (226, 2), (290, 4), (362, 2), (442, 4), (530, 4), (626, 2), (730, 4), (842, 2), (962, 4), (1090, 4), (1226, 2), (1370, 4), (1522, 2), (1682, 3), (1850, 6), (18, 1), (34, 2), (58, 2), (90, 2), (130, 4), (178, 2), (234, 2), (298, 2), (370, 4), (450, 3), (538, 2), (634, 2), (738, 2), (850, 6), (970, 4), (1098, 2), (1234, 2), (1378, 4), (1530, 4), (1690, 6), (1858, 2), (74, 2), (106, 2), (146, 2), (194, 2), (250, 4), (314, 2), (386, 2), (466, 2), (554, 2), (650, 6), (754, 4), (866, 2), (986, 4), (1114, 2), (1250, 5), (1394, 4), (1546, 2), (1706, 2), (1874, 2), (98, 1), (218, 2), (274, 2), (338, 3), (410, 4), (490, 2), (578, 3), (674, 2), (778, 2), (890, 4), (1010, 4), (1138, 2), (1274, 2), (1418, 2), (1570, 4), (1730, 4), (1898, 4), (162, 1), (202, 2), (306, 2), (522, 2), (610, 4), (706, 2), (810, 2), (922, 2), (1042, 2), (1170, 4), (1306, 2), (1450, 6), (1602, 2), (1762, 2), (1930, 4), (242, 1), (346, 2), (482, 2), (562, 2), (746, 2), (1082, 2), (1210, 2), (1346, 2), (1490, 4), (1642, 2), (1802, 4), (1970, 4), (394, 2), (458, 2), (698, 2), (794, 2), (898, 2), (1130, 4), (1258, 4), (1538, 2), (2018, 2), (514, 2), (586, 2), (666, 2), (954, 2), (1066, 4), (1186, 2), (1314, 2), (1594, 2), (1746, 2), (1906, 2), (2074, 2), (818, 2), (914, 2), (1018, 2), (1514, 2), (1658, 2), (1810, 4), (2138, 2), (722, 1), (802, 2), (1202, 2), (1322, 2), (1586, 4), (1882, 2), (2042, 2), (2210, 6), (882, 1), (1282, 2), (1402, 2), (1666, 2), (1962, 2), (2122, 2), (2290, 2), (1058, 1), (1154, 2), (1618, 2), (1754, 2), (2050, 4), (2378, 2), (1354, 2), (1466, 2), (1714, 2), (1994, 2), (2146, 2), (2306, 2), (2474, 2), (1458, 1), (1818, 2), (1954, 2), (2098, 2), (2250, 2), (2410, 2), (2578, 2), (2066, 2), (2362, 2), (2522, 2), (2690, 2), (1922, 1), (2186, 2), (2330, 2), (2482, 2), (2642, 2), (2810, 2), (2178, 1), (2314, 2), (2458, 2), (2610, 2), (2770, 2), (2938, 2), (2450, 1), (2594, 2), (2746, 2), (2906, 2), (3074, 2), (2738, 1), (2890, 2), (3050, 2), (3218, 2), (3042, 1), (3202, 2), (3370, 2), (3362, 1), (3530, 2), (3698, 1)]
theorem prs21 : pairsN 21 = pr21 ∧ pairSum 84 pr21 pr21 = sumN (dvN 21) := by decide +kernel
def pr23 : List (Nat × Nat) := [(2, 1), (10, 2), (26, 2), (50, 3), (82, 2), (122, 2), (170, 4), (226, 2), (290, 4), (362, 2), (442, 4), (530, 4), (626, 2), (730, 4), (842, 2), (962, 4), (1090, 4), (1226, 2), (1370, 4), (1522, 2), (1682, 3), (1850, 6), (2026, 2), (2210, 8), (18, 1), (34, 2), (58, 2), (90, 2), (130, 4), (178, 2), (234, 2), (298, 2), (370, 4), (450, 3), (538, 2), (634, 2), (738, 2), (850, 6), (970, 4), (1098, 2), (1234, 2), (1378, 4), (1530, 4), (1690, 6), (1858, 2), (2034, 2), (2218, 2), (74, 2), (106, 2), (146, 2), (194, 2), (250, 4), (314, 2), (386, 2), (466, 2), (554, 2), (650, 6), (754, 4), (866, 2), (986, 4), (1114, 2), (1250, 5), (1394, 4), (1546, 2), (1706, 2), (1874, 2), (2050, 6), (2234, 2), (98, 1), (218, 2), (274, 2), (338, 3), (410, 4), (490, 2), (578, 3), (674, 2), (778, 2), (890, 4), (1010, 4), (1138, 2), (1274, 2), (1418, 2), (1570, 4), (1730, 4), (1898, 4), (2074, 4), (2258, 2), (162, 1), (202, 2), (306, 2), (522, 2), (610, 4), (706, 2), (810, 2), (922, 2), (1042, 2), (1170, 4), (1306, 2), (1450, 6), (1602, 2), (1762, 2), (1930, 4), (2106, 2), (2290, 4), (242, 1), (346, 2), (482, 2), (562, 2), (746, 2), (1082, 2), (1210, 2), (1346, 2), (1490, 4), (1642, 2), (1802, 4), (1970, 4), (2146, 4), (2330, 4), (394, 2), (458, 2), (698, 2), (794, 2), (898, 2), (1130, 4), (1258, 4), (1538, 2), (2018, 2), (2194, 2), (2378, 4), (514, 2), (586, 2), (666, 2), (954, 2), (1066, 4), (1186, 2), (1314, 2), (1594, 2), (1746, 2), (1906, 2), (2250, 4), (2434, 2), (818, 2), (914, 2), (1018, 2), (1514, 2), (1658, 2), (1810, 4), (2138, 2), (2314, 4), (2498, 2), (722, 1), (802, 2), (1202, 2), (1322, 2), (1586, 4), (1882, 2), (2042, 2), (2386, 2), (2570, 2), (882, 1), (1282, 2), (1402, 2), (1666, 2), (1962, 2), (2122, 2), (2466, 2), (2650, 4), (1058, 1), (1154, 2), (1618, 2), (1754, 2), (2554, 2), (2738, 3), (1354, 2), (1466, 2), (1714, 2), (1994, 2), (2306, 2), (2474, 2), (2834, 2), (1458, 1), (1818, 2), (1954, 2), (2098, 2), (2410, 2), (2578, 2), (2754, 2), (2938, 4), (2066, 2), (2362, 2), (2522, 2), (2690, 2), (2866, 2), (3050, 4), (1922, 1), (2186, 2), (2482, 2), (2642, 2), (2810, 2), (2986, 2), (3170, 2), (2178, 1), (2458, 2), (2610, 2), (2770, 2), (3114, 2), (3298, 2), (2450, 1), (2594, 2), (2746, 2), (2906, 2), (3074, 2), (3250, 2), (3434, 2), (2890, 2), (3218, 2), (3394, 2), (3578, 2), (3042, 1), (3202, 2), (3370, 2), (3546, 2), (3730, 2), (3362, 1), (3530, 2), (3706, 2), (3890, 2), (3698, 1), (3874, 2), (4058, 2), (4050, 1), (4234, 2), (4418, 1)]
theorem prs23 : pairsN 23 = pr23 ∧ pairSum 92 pr23 pr23 = sumN (dvN 23) := by decide +kernel
def pr25 : List (Nat × Nat) := [(2, 1), (10, 2), (26, 2), (50, 3), (82, 2), (122, 2), (170, 4), (226, 2), (290, 4), (362, 2), (442, 4), (530, 4), (626, 2), (730, 4), (842, 2), (962, 4), (1090, 4), (1226, 2), (1370, 4), (1522, 2), (1682, 3), (1850, 6), (2026, 2), (2210, 8), (2402, 2), (2602, 2), (18, 1), (34, 2), (58, 2), (90, 2), (130, 4), (178, 2), (234, 2), (298, 2), (370, 4), (450, 3), (538, 2), (634, 2), (738, 2), (850, 6), (970, 4), (1098, 2), (1234, 2), (1378, 4), (1530, 4), (1690, 6), (1858, 2), (2034, 2), (2218, 2), (2410, 4), (2610, 4), (74, 2), (106, 2), (146, 2), (194, 2), (250, 4), (314, 2), (386, 2), (466, 2), (554, 2), (650, 6), (754, 4), (866, 2), (986, 4), (1114, 2), (1250, 5), (1394, 4), (1546, 2), (1706, 2), (1874, 2), (2050, 6), (2234, 2), (2426, 2), (2626, 4), (98, 1), (218, 2), (274, 2), (338, 3), (410, 4), (490, 2), (578, 3), (674, 2), (778, 2), (890, 4), (1010, 4), (1138, 2), (1274, 2), (1418, 2), (1570, 4), (1730, 4), (1898, 4), (2074, 4), (2258, 2), (2450, 3), (2650, 6), (162, 1), (202, 2), (306, 2), (522, 2), (610, 4), (706, 2), (810, 2), (922, 2), (1042, 2), (1170, 4), (1306, 2), (1450, 6), (1602, 2), (1762, 2), (1930, 4), (2106, 2), (2290, 4), (2482, 4), (2682, 2), (242, 1), (346, 2), (482, 2), (562, 2), (746, 2), (1082, 2), (1210, 2), (1346, 2), (1490, 4), (1642, 2), (1802, 4), (1970, 4), (2146, 4), (2330, 4), (2522, 4), (2722, 2), (394, 2), (458, 2), (698, 2), (794, 2), (898, 2), (1130, 4), (1258, 4), (1538, 2), (2018, 2), (2194, 2), (2378, 4), (2570, 4), (2770, 4), (514, 2), (586, 2), (666, 2), (954, 2), (1066, 4), (1186, 2), (1314, 2), (1594, 2), (1746, 2), (1906, 2), (2250, 4), (2434, 2), (2826, 2), (818, 2), (914, 2), (1018, 2), (1514, 2), (1658, 2), (1810, 4), (2138, 2), (2314, 4), (2498, 2), (2690, 4), (2890, 4), (722, 1), (802, 2), (1202, 2), (1322, 2), (1586, 4), (1882, 2), (2042, 2), (2386, 2), (2762, 2), (2962, 2), (882, 1), (1282, 2), (1402, 2), (1666, 2), (1962, 2), (2122, 2), (2466, 2), (2842, 2), (3042, 3), (1058, 1), (1154, 2), (1618, 2), (1754, 2), (2554, 2), (2738, 3), (2930, 2), (3130, 4), (1354, 2), (1466, 2), (1714, 2), (1994, 2), (2306, 2), (2474, 2), (2834, 2), (3026, 2), (3226, 2), (1458, 1), (1818, 2), (1954, 2), (2098, 2), (2578, 2), (2754, 2), (2938, 4), (3330, 2), (2066, 2), (2362, 2), (2866, 2), (3050, 4), (3242, 2), (3442, 2), (1922, 1), (2186, 2), (2642, 2), (2810, 2), (2986, 2), (3170, 2), (3362, 3), (3562, 2), (2178, 1), (2458, 2), (3114, 2), (3298, 2), (3490, 2), (3690, 2), (2594, 2), (2746, 2), (2906, 2), (3074, 2), (3250, 2), (3434, 2), (3626, 2), (3826, 2), (3218, 2), (3394, 2), (3578, 2), (3770, 2), (3970, 2), (3202, 2), (3370, 2), (3546, 2), (3730, 2), (3922, 2), (4122, 2), (3530, 2), (3706, 2), (3890, 2), (4082, 2), (4282, 2), (3698, 1), (3874, 2), (4058, 2), (4250, 2), (4450, 2), (4050, 1), (4234, 2), (4426, 2), (4626, 2), (4418, 1), (4610, 2), (4810, 2), (4802, 1), (5002, 2), (5202, 1)]
theorem prs25 : pairsN 25 = pr25 ∧ pairSum 100 pr25 pr25 = sumN (dvN 25) := by decide +kernel
def pr27 : List (Nat × Nat) := [(2, 1), (10, 2), (26, 2), (50, 3), (82, 2), (122, 2), (170, 4), (226, 2), (290, 4), (362, 2), (442, 4), (530, 4), (626, 2), (730, 4), (842, 2), (962, 4), (1090, 4), (1226, 2), (1370, 4), (1522, 2), (1682, 3), (1850, 6), (2026, 2), (2210, 8), (2402, 2), (2602, 2), (2810, 4), (3026, 4), (18, 1), (34, 2), (58, 2), (90, 2), (130, 4), (178, 2), (234, 2), (298, 2), (370, 4), (450, 3), (538, 2), (634, 2), (738, 2), (850, 6), (970, 4), (1098, 2), (1234, 2), (1378, 4), (1530, 4), (1690, 6), (1858, 2), (2034, 2), (2218, 2), (2410, 4), (2610, 4), (2818, 2), (3034, 4), (74, 2), (106, 2), (146, 2), (194, 2), (250, 4), (314, 2), (386, 2), (466, 2), (554, 2), (650, 6), (754, 4), (866, 2), (986, 4), (1114, 2), (1250, 5), (1394, 4), (1546, 2), (1706, 2), (1874, 2), (2050, 6), (2234, 2), (2426, 2), (2626, 4), (2834, 4), (3050, 6), (98, 1), (218, 2), (274, 2), (338, 3), (410, 4), (490, 2), (578, 3), (674, 2), (778, 2), (890, 4), (1010, 4), (1138, 2), (1274, 2), (1418, 2), (1570, 4), (1730, 4), (1898, 4), (2074, 4), (2258, 2), (2450, 3), (2650, 6), (2858, 2), (3074, 4), (162, 1), (202, 2), (306, 2), (522, 2), (610, 4), (706, 2), (810, 2), (922, 2), (1042, 2), (1170, 4), (1306, 2), (1450, 6), (1602, 2), (1762, 2), (1930, 4), (2106, 2), (2290, 4), (2482, 4), (2682, 2), (2890, 6), (3106, 2), (242, 1), (346, 2), (482, 2), (562, 2), (746, 2), (1082, 2), (1210, 2), (1346, 2), (1490, 4), (1642, 2), (1802, 4), (1970, 4), (2146, 4), (2330, 4), (2522, 4), (2722, 2), (2930, 4), (3146, 2), (394, 2), (458, 2), (698, 2), (794, 2), (898, 2), (1130, 4), (1258, 4), (1538, 2), (2018, 2), (2194, 2), (2378, 4), (2570, 4), (2770, 4), (2978, 2), (3194, 2), (514, 2), (586, 2), (666, 2), (954, 2), (1066, 4), (1186, 2), (1314, 2), (1594, 2), (1746, 2), (1906, 2), (2250, 4), (2434, 2), (2826, 2), (3250, 6), (818, 2), (914, 2), (1018, 2), (1514, 2), (1658, 2), (1810, 4), (2138, 2), (2314, 4), (2498, 2), (2690, 4), (3098, 2), (3314, 2), (722, 1), (802, 2), (1202, 2), (1322, 2), (1586, 4), (1882, 2), (2042, 2), (2386, 2), (2762, 2), (2962, 2), (3170, 4), (3386, 2), (882, 1), (1282, 2), (1402, 2), (1666, 2), (1962, 2), (2122, 2), (2466, 2), (2842, 2), (3042, 3), (3466, 2), (1058, 1), (1154, 2), (1618, 2), (1754, 2), (2554, 2), (2738, 3), (3130, 4), (3338, 2), (3554, 2), (1354, 2), (1466, 2), (1714, 2), (1994, 2), (2306, 2), (2474, 2), (3226, 2), (3434, 4), (3650, 4), (1458, 1), (1818, 2), (1954, 2), (2098, 2), (2578, 2), (2754, 2), (2938, 4), (3330, 2), (3538, 2), (3754, 2), (2066, 2), (2362, 2), (2866, 2), (3242, 2), (3442, 2), (3866, 2), (1922, 1), (2186, 2), (2642, 2), (2986, 2), (3362, 3), (3562, 2), (3770, 4), (3986, 2), (2178, 1), (2458, 2), (3114, 2), (3298, 2), (3490, 2), (3690, 2), (3898, 2), (4114, 2), (2594, 2), (2746, 2), (2906, 2), (3626, 2), (3826, 2), (4034, 2), (4250, 4), (3218, 2), (3394, 2), (3578, 2), (3970, 2), (4178, 2), (4394, 2), (3202, 2), (3370, 2), (3546, 2), (3730, 2), (3922, 2), (4122, 2), (4330, 2), (4546, 2), (3530, 2), (3706, 2), (3890, 2), (4082, 2), (4282, 2), (4490, 2), (4706, 2), (3698, 1), (3874, 2), (4058, 2), (4450, 2), (4658, 2), (4874, 2), (4050, 1), (4234, 2), (4426, 2), (4626, 2), (4834, 2), (5050, 2), (4418, 1), (4610, 2), (4810, 2), (5018, 2), (5234, 2), (4802, 1), (5002, 2), (5210, 2), (5426, 2), (5202, 1), (5410, 2), (5626, 2), (5618, 1), (5834, 2), (6050, 1)]
theorem prs27 : pairsN 27 = pr27 ∧ pairSum 108 pr27 pr27 = sumN (dvN 27) := by decide +kernel
end k71

namespace k71
open PySem PySem.Spec PyProof.Rows L2 MS
def kvN (l : List (Nat × Nat)) : List (Key × D) := l.map fun p => (.inl (p.1 : Int), .int (p.2 : Nat))
theorem look_nat (k : Nat) : ∀ l : List (Nat × Nat), (dlook (kvN l) (.inl (k : Int))).getD (.int 0) = .int (getN k l : Nat)
  | [] => rfl
  | p :: l => by
    have ih := look_nat k l
    unfold getN
    by_cases h : p.1 = k
    · have e : dlook (kvN (p :: l)) (.inl (k : Int)) = some (.int (p.2 : Nat)) := by simp [dlook, kvN, h]
      rw [e]
      simp [h]
    · have e : dlook (kvN (p :: l)) (.inl (k : Int)) = dlook (kvN l) (.inl (k : Int)) := by
        have : ¬ ((p.1 : Int) = (k : Int)) := fun z => h (by omega)
        simp [dlook, kvN, List.find?_cons, this]
      rw [e, ih]
      simp [h]
theorem look_neg {i : Int} (hi : i < 0) : ∀ l : List (Nat × Nat), dlook (kvN l) (.inl i) = none
  | [] => rfl
  | p :: l => by
    have e : dlook (kvN (p :: l)) (.inl i) = dlook (kvN l) (.inl i) := by
      have : ¬ ((p.1 : Int) = i) := fun z => by omega
      simp [dlook, kvN, List.find?_cons, this]
    rw [e, look_neg hi l]
theorem keys_inc (k : Nat) : ∀ l : List (Nat × Nat), ∀ x, x ∈ (incN k l).map (·.1) ↔ x = k ∨ x ∈ l.map (·.1)
  | [], x => by simp [incN]
  | p :: l, x => by
    unfold incN
    by_cases h : p.1 = k
    · simp [h]
    · simp only [beq_iff_eq, h, if_false, List.map_cons, List.mem_cons, keys_inc k l x]
      constructor
      · rintro (h | h | h)
        · exact .inr (.inl h)
        · exact .inl h
        · exact .inr (.inr h)
      · rintro (h | h | h)
        · exact .inr (.inl h)
        · exact .inl h
        · exact .inr (.inr h)
theorem nd_inc (k : Nat) : ∀ l : List (Nat × Nat), (l.map (·.1)).Nodup → ((incN k l).map (·.1)).Nodup
  | [], _ => by simp [incN]
  | p :: l, h => by
    rw [List.map_cons, List.nodup_cons] at h
    unfold incN
    by_cases hp : p.1 = k
    · simp only [beq_iff_eq, hp, if_true, List.map_cons, List.nodup_cons]
      exact ⟨by rw [← hp]; exact h.1, h.2⟩
    · simp only [beq_iff_eq, hp, if_false, List.map_cons, List.nodup_cons]
      refine ⟨fun z => ?_, nd_inc k l h.2⟩
      rcases (keys_inc k l p.1).mp z with z | z
      · exact hp z
      · exact h.1 z
theorem put_same (k : Nat) (v : D) : ∀ l : List (Nat × Nat), k ∉ l.map (·.1) → (kvN l).map (fun kv => if kv.1 = (.inl (k : Int) : Key) then (kv.1, v) else kv) = kvN l
  | [], _ => rfl
  | p :: l, h => by
    rw [List.map_cons, List.mem_cons, not_or] at h
    have hp : ¬ ((.inl (p.1 : Int) : Key) = .inl (k : Int)) := fun z => h.1 (by have := Sum.inl.inj z; omega)
    show (if (.inl (p.1 : Int) : Key) = .inl (k : Int) then _ else _) :: (kvN l).map _ = _
    rw [if_neg hp, put_same k v l h.2]
    rfl
theorem any_key (k : Nat) : ∀ l : List (Nat × Nat), ((kvN l).any fun kv => decide (kv.1 = (.inl (k : Int) : Key))) = decide (k ∈ l.map (·.1))
  | [] => by simp [kvN]
  | p :: l => by
    have ih := any_key k l
    show (decide ((.inl (p.1 : Int) : Key) = .inl (k : Int)) || (kvN l).any _) = _
    rw [ih]
    have : ((.inl (p.1 : Int) : Key) = .inl (k : Int)) ↔ k = p.1 := ⟨fun z => by have := Sum.inl.inj z; omega, fun z => by rw [z]⟩
    simp only [this, List.map_cons, List.mem_cons, Bool.decide_or]
theorem put_inc (k : Nat) : ∀ l : List (Nat × Nat), (l.map (·.1)).Nodup → dput (kvN l) (.inl (k : Int)) (.int ((getN k l : Nat) + 1 : Int)) = kvN (incN k l) := by
  intro l nd
  unfold dput
  rw [any_key]
  by_cases h : k ∈ l.map (·.1)
  · rw [if_pos (by simpa using h)]
    have key : ∀ l : List (Nat × Nat), (l.map (·.1)).Nodup → k ∈ l.map (·.1) → (kvN l).map (fun kv => if kv.1 = (.inl (k : Int) : Key) then (kv.1, D.int ((getN k l : Nat) + 1 : Int)) else kv) = kvN (incN k l) := by
      intro l
      induction l with
      | nil => intro _ h; cases h
      | cons p l ih =>
        intro nd h
        rw [List.map_cons, List.nodup_cons] at nd
        by_cases hp : p.1 = k
        · have hn : k ∉ l.map (·.1) := by rw [← hp]; exact nd.1
          have e1 : getN k (p :: l) = p.2 := by simp [getN, hp]
          have e2 : incN k (p :: l) = (p.1, p.2 + 1) :: l := by simp [incN, hp]
          rw [e1, e2]
          show (if (.inl (p.1 : Int) : Key) = .inl (k : Int) then _ else _) :: (kvN l).map _ = _
          rw [put_same k _ l hn, if_pos (by rw [hp])]
          rfl
        · have hk : k ∈ l.map (·.1) := by
            rw [List.map_cons, List.mem_cons] at h
            exact h.resolve_left fun z => hp z.symm
          have e1 : getN k (p :: l) = getN k l := by simp [getN, hp]
          have e2 : incN k (p :: l) = p :: incN k l := by simp [incN, hp]
          rw [e1, e2]
          have hp' : ¬ ((.inl (p.1 : Int) : Key) = .inl (k : Int)) := fun z => hp (by have := Sum.inl.inj z; omega)
          show (if (.inl (p.1 : Int) : Key) = .inl (k : Int) then _ else _) :: (kvN l).map _ = _
          rw [if_neg hp', ih nd.2 hk]
          rfl
    exact key l nd h
  · rw [if_neg (by simpa using h)]
    have : ∀ l : List (Nat × Nat), k ∉ l.map (·.1) → getN k l = 0 ∧ incN k l = l ++ [(k, 1)] := by
      intro l
      induction l with
      | nil => intro _; exact ⟨rfl, rfl⟩
      | cons p l ih =>
        intro h
        rw [List.map_cons, List.mem_cons, not_or] at h
        obtain ⟨a, b⟩ := ih h.2
        have hp : (p.1 == k) = false := by simpa using fun z => h.1 z.symm
        unfold getN incN
        simp only [hp, Bool.false_eq_true, if_false, a, b]
        exact ⟨trivial, rfl⟩
    obtain ⟨a, b⟩ := this l h
    rw [a, b]
    unfold kvN
    rw [List.map_append]
    rfl
end k71

namespace k71
open PySem PySem.Spec PyProof.Rows L2 MS
def subGet (n : Nat) (all : List (Nat × Nat)) (p : Nat × Nat) : Nat := if Nat.ble p.1 n then p.2 * getN (n - p.1) all else 0
theorem pairSum_eq (n : Nat) (all : List (Nat × Nat)) : ∀ l, ((l.map fun p => ((subGet n all p : Nat) : Int)).sum) = (pairSum n all l : Nat)
  | [] => rfl
  | p :: l => by
    have ih := pairSum_eq n all l
    rw [List.map_cons, List.sum_cons, ih]
    show ((subGet n all p : Nat) : Int) + ((pairSum n all l : Nat) : Int) = ((subGet n all p + pairSum n all l : Nat) : Int)
    rw [Int.natCast_add]
theorem get_sub (n : Nat) (all : List (Nat × Nat)) (p : Nat × Nat) : ∃ i : Nat, (dlook (kvN all) (.inl ((n : Int) - (p.1 : Int)))).getD (.int 0) = .int i ∧ ((p.2 : Nat) : Int) * (i : Nat) = ((subGet n all p : Nat) : Int) := by
  unfold subGet
  by_cases h : p.1 ≤ n
  · have e : (n : Int) - (p.1 : Int) = ((n - p.1 : Nat) : Int) := by omega
    rw [e, look_nat, if_pos (by simpa using h)]
    exact ⟨_, rfl, by rw [Int.natCast_mul]⟩
  · rw [look_neg (by omega), if_neg (by simpa using h)]
    exact ⟨0, rfl, by simp⟩
theorem pairs_ok {n j : Nat} {l : List (Nat × Nat)} {S : Sto} (hS : S[j]? = some (.dct (kvN l))) (hl : l.length ≤ 100000) (hb : ∀ p ∈ l, p.2 < 2 ^ 60) : F_n_law_pairs [.int n, .ref j] S = some (.int (pairSum n l l : Nat), S) := by
  have hj : j < S.length := (List.getElem?_eq_some_iff.mp hS).1
  have eS : (S.set j (.lck (kvN l))).set j (.dct (kvN l)) = S := by
    rw [List.set_set]
    apply List.ext_getElem?
    intro i
    by_cases h : i = j
    · subst h
      rw [List.getElem?_set_self hj, hS]
    · rw [List.getElem?_set_ne (Ne.symm h)]
  have lk : (S.set j (.lck (kvN l)))[j]? = some (.lck (kvN l)) := List.getElem?_set_self hj
  have items : itemsD (kvN l) = l.map fun p => D.tup [.int (p.1 : Nat), .int (p.2 : Nat)] := by
    unfold itemsD kvN
    rw [List.map_map]
    rfl
  have rd : dctRd (S.set j (.lck (kvN l))) (.ref j) = some (kvN l) := by
    unfold dctRd dctAt lckAt
    simp only [lk]
  have lc : dLc (iItemsL (dVar 1)) (nT 2 (nsCons (nN 2) (nsCons (nN 3) (nsNil)))) (tYesD) (dOp gMul (dVar 3) (dGet (some (dC (.int 0))) (dVar 1) (dOp MS.gSub (dVar 0) (dVar 2)))) [2, 3] [some (.int n), some (.ref j), none, none] (S.set j (.lck (kvN l))) = some (.fl (l.map fun p => D.int (subGet n l p : Nat)), S.set j (.lck (kvN l))) := by
    refine dLc_map (e := fun p : Nat × Nat => D.tup [.int (p.1 : Nat), .int (p.2 : Nat)]) ?_ (by omega) fun p hp => ⟨_, rfl, ?_⟩
    · unfold iItemsL
      simp only [sAsg, sIf, sRet, sRetN, sNil, sPass, sSet, sExpr, sPar, sBrk, sCnt, dC, dVar, dOp, dUn, dIf, dCB, dCalP, dCalM, dMeth, dMeth0, dAnd, dOr, dNot, dIsi, aNil, aCons, asB, tbAnd, tbOr, tbNot, dChain, gN, gOf, nN, nT, nsCons, nsNil, dTup, dLst, dCell, wo_bnd, wo_some, wo_map, wo_bind, wo_if, bnd_mk, List.getElem?_cons_zero, List.getElem?_cons_succ, List.set_cons_zero, List.set_cons_succ, Option.map_some, Option.bind_some, gAdd, MS.gSub, gMul, gMod, gDiv, gLt, gLe, gGt, gGe, gI, gNeg, cInt, cI, cII, cAbs, cMax2, cMin2, decide_eq_true_eq, if_true, if_false, List.zip_cons_cons, List.zip_nil_right, List.foldl_cons, List.foldl_nil, List.length_cons, List.length_nil, Nat.zero_add, Nat.reduceAdd, Bool.false_eq_true, decide_true, decide_false, true_and, and_true, true_implies, implies_true, false_implies, not_true_eq_false, D.pureL, D.pure, D.fitL, D.fit, fit_dPair, fit_ints, Bool.and_true, Bool.true_and, Bool.and_self, wo_none, nn_iff, imp_and', and_false, false_and, szOk_0, szOk_1, szOk_2, szOk_3, szOk_4, szOk_5, szOk_6, szOk_7, szOk_8, eqA_int, neA_int, eqA_str, neA_str, eqA_bl, neA_bl, Bool.not_eq_true', Bool.not_true, Bool.not_false, not_false_eq_true, tyOf, isT, String.reduceBEq, Bool.or_false, Bool.false_or, Bool.and_false, Bool.or_true, Bool.true_or, Bool.false_and, lckAt, lk, items]
    · have hp2 := hb p hp
      have mo : ∀ x : Int, mulOk ((p.2 : Nat) : Int) x = true := fun x => mulOk_l (by omega)
      unfold dGet
      simp only [dOp, dVar, dC, wipeE, List.set_cons_succ, List.set_cons_zero, List.getElem?_cons_succ, List.getElem?_cons_zero, bnd_mk, rd, Option.isSome_some, if_true, MS.gSub, gI, Option.map_some, Option.getD_some, keyOf]
      obtain ⟨i, g1, g2⟩ := get_sub n l p
      rw [g1]
      unfold gMul
      simp only [mo, if_true]
      rw [g2]
  have run : Wo (b_n_law_pairs [some (.int n), some (.ref j), none, none] S) fun r => r.1 = .rt (.int (pairSum n l l : Nat)) ∧ r.2.2 = S := by
    unfold b_n_law_pairs sRet dCB aCons aNil dLock
    simp only [List.getElem?_cons_succ, List.getElem?_cons_zero, hS]
    rw [lc]
    simp only [bnd_mk, lk, eS]
    have sm : cSumA [.fl (l.map fun p => D.int (subGet n l p : Nat))] S = some (.int (pairSum n l l : Nat), S) := by
      unfold cSumA
      have e : (l.map fun p => D.int (subGet n l p : Nat)) = (l.map fun p => ((subGet n l p : Nat) : Int)).map D.int := by rw [List.map_map]; rfl
      rw [e]
      simp only [seqOf, MS.listOf, Option.bind_some, intsOf_map, Option.map_some, pairSum_eq]
    rw [sm]
    exact ⟨_, rfl, rfl, rfl⟩
  obtain ⟨⟨o, ρ', S'⟩, e, h1, h2⟩ := run
  have h1 : o = .rt (.int (pairSum n l l : Nat)) := h1
  have h2 : S' = S := h2
  subst h1 h2
  show bodyM 2 4 b_n_law_pairs [.int n, .ref j] S' = _
  unfold bodyM env0
  simp only [List.length_cons, List.length_nil, List.map_cons, List.map_nil, if_true]
  show (match b_n_law_pairs [some (.int n), some (.ref j), none, none] S' with
      | some (.rt d, _, S'') => (D.fin S'.length S'' d).map fun d => (d, S''.take S'.length)
      | some (.nx, _, S'') => some (.non, S''.take S'.length)
      | _ => none) = _
  rw [e]
  show (D.fin S'.length S' (.int (pairSum n l l : Nat))).map (fun d => (d, S'.take S'.length)) = _
  rw [show D.fin S'.length S' (.int (pairSum n l l : Nat)) = some (.int (pairSum n l l : Nat)) from rfl, Option.map_some, List.take_length]
end k71

namespace k71
open PySem PySem.Spec PyProof.Rows L2 MS
theorem incAll_snoc (x y : Nat) : ∀ (o : List Nat) (l : List (Nat × Nat)), incAll x (o ++ [y]) l = incN (x + y) (incAll x o l)
  | [], l => rfl
  | z :: o, l => by
    show incAll x (o ++ [y]) (incN (x + z) l) = _
    rw [incAll_snoc x y o]
    rfl
theorem incOuter_snoc (o : List Nat) (x : Nat) : ∀ (r : List Nat) (l : List (Nat × Nat)), incOuter o (r ++ [x]) l = incAll x o (incOuter o r l)
  | [], l => rfl
  | z :: r, l => by
    show incOuter o (r ++ [x]) (incAll z o l) = _
    rw [incOuter_snoc o x r]
    rfl
theorem len_inc (k : Nat) : ∀ l : List (Nat × Nat), (incN k l).length ≤ l.length + 1
  | [] => by simp [incN]
  | p :: l => by
    unfold incN
    split
    · simp
    · have := len_inc k l
      simp only [List.length_cons]
      omega
theorem inc_step {x y : Nat} {l : List (Nat × Nat)} (nd : (l.map (·.1)).Nodup) (hl : l.length ≤ 100000) {c0 c1 : C} {a0 a1 a2 a3 a4 a5 a7 a8 a9 a10 a11 a12 a13 a16 a17 a18 a19 a20 a21 : Option D} {Q : Out × MS.Env × Sto → Prop}
    (k : Q (.nx, [a0, a1, a2, a3, a4, a5, some (intD x), a7, a8, a9, a10, a11, a12, a13, some (.ref 2), some (intD y), a16, a17, a18, a19, a20, a21], [c0, c1, .dct (kvN (incN (x + y) l))])) :
    Wo (f2b_law [a0, a1, a2, a3, a4, a5, some (intD x), a7, a8, a9, a10, a11, a12, a13, some (.ref 2), some (intD y), a16, a17, a18, a19, a20, a21] [c0, c1, .dct (kvN l)]) Q := by
  have e : ((x : Nat) : Int) + ((y : Nat) : Int) = ((x + y : Nat) : Int) := by omega
  have rd : dctRd [c0, c1, .dct (kvN l)] (.ref 2) = some (kvN l) := rfl
  have put : setItemD (.ref 2) (.int ((x + y : Nat) : Int)) (.int ((getN (x + y) l : Nat) + 1 : Int)) [c0, c1, .dct (kvN l)] = some [c0, c1, .dct (kvN (incN (x + y) l))] := by
    have hz : (kvN l).length < sizeLine := by rw [sizeLine_eq]; unfold kvN; rw [List.length_map]; omega
    show (match keyOf (.int ((x + y : Nat) : Int)) with
      | some k => if (kvN l).length < sizeLine ∧ D.fit 2 (.int ((getN (x + y) l : Nat) + 1 : Int)) = true then some ([c0, c1, C.dct (kvN l)].set 2 (.dct (dput (kvN l) k (.int ((getN (x + y) l : Nat) + 1 : Int))))) else none
      | none => none) = _
    show (if (kvN l).length < sizeLine ∧ D.fit 2 (.int ((getN (x + y) l : Nat) + 1 : Int)) = true then some ([c0, c1, C.dct (kvN l)].set 2 (.dct (dput (kvN l) (.inl ((x + y : Nat) : Int)) (.int ((getN (x + y) l : Nat) + 1 : Int))))) else none) = _
    rw [if_pos ⟨hz, rfl⟩, put_inc (x + y) l nd]
    rfl
  unfold f2b_law sSet dGet
  unfold intD
  simp only [dOp, dVar, dC, List.getElem?_cons_succ, List.getElem?_cons_zero, bnd_mk, rd, Option.isSome_some, if_true, gAdd, e, Option.getD_some, keyOf, look_nat, put, Option.map_some]
  exact ⟨_, rfl, k⟩
theorem nd_all (x : Nat) : ∀ (o : List Nat) (l : List (Nat × Nat)), (l.map (·.1)).Nodup → ((incAll x o l).map (·.1)).Nodup ∧ (incAll x o l).length ≤ l.length + o.length
  | [], l, h => ⟨h, by simp [incAll]⟩
  | y :: o, l, h => by
    obtain ⟨a, b⟩ := nd_all x o (incN (x + y) l) (nd_inc _ l h)
    have := len_inc (x + y) l
    refine ⟨a, ?_⟩
    show (incAll x o (incN (x + y) l)).length ≤ _
    simp only [List.length_cons]
    omega
theorem inner {x : Nat} {o : List Nat} {l : List (Nat × Nat)} (nd : (l.map (·.1)).Nodup) (hl : l.length + o.length ≤ 100000) {c0 c1 : C} {a0 a1 a2 a3 a4 a5 a7 a8 a9 a10 a11 a12 a15 a16 a17 a18 a19 a20 a21 : Option D} {Q : Out × MS.Env × Sto → Prop}
    (k : ∀ a15, Q (.nx, [a0, a1, a2, a3, a4, a5, some (intD x), a7, a8, a9, a10, a11, a12, some (.fl (o.map intD)), some (.ref 2), a15, a16, a17, a18, a19, a20, a21], [c0, c1, .dct (kvN (incAll x o l))])) :
    Wo (f3b_law [a0, a1, a2, a3, a4, a5, some (intD x), a7, a8, a9, a10, a11, a12, some (.fl (o.map intD)), some (.ref 2), a15, a16, a17, a18, a19, a20, a21] [c0, c1, .dct (kvN l)]) Q := by
  unfold f3b_law sFor iSeq
  simp only [dVar, List.getElem?_cons_succ, List.getElem?_cons_zero, bnd_mk, MS.listOf]
  refine wo_for (items := o.map intD) (fun i ρ' S' => ∃ a15, ρ' = [a0, a1, a2, a3, a4, a5, some (intD x), a7, a8, a9, a10, a11, a12, some (.fl (o.map intD)), some (.ref 2), a15, a16, a17, a18, a19, a20, a21] ∧ S' = [c0, c1, .dct (kvN (incAll x (o.take i) l))]) ⟨a15, rfl, rfl⟩ (fun _ _ _ _ _ => rfl) ?_ ?_
  · rintro i d ρ' S' hd ⟨b15, rfl, rfl⟩
    rw [List.getElem?_map, Option.map_eq_some_iff] at hd
    obtain ⟨y, hy, rfl⟩ := hd
    obtain ⟨n1, n2⟩ := nd_all x (o.take i) l nd
    have ht : (o.take i).length ≤ o.length := by rw [List.length_take]; omega
    refine wo_of (b := ([a0, a1, a2, a3, a4, a5, some (intD x), a7, a8, a9, a10, a11, a12, some (.fl (o.map intD)), some (.ref 2), some (intD y), a16, a17, a18, a19, a20, a21], [c0, c1, .dct (kvN (incAll x (o.take i) l))])) rfl ?_
    refine inc_step n1 (by omega) ?_
    refine ⟨some (intD y), rfl, ?_⟩
    rw [← incAll_snoc, List.take_add_one, hy]
    rfl
  · rintro ρ' S' ⟨b15, rfl, rfl⟩
    rw [List.length_map, List.take_length]
    exact k b15
end k71

namespace k71
open PySem PySem.Spec PyProof.Rows L2 MS
theorem nd_outer (o : List Nat) : ∀ (r : List Nat) (l : List (Nat × Nat)), (l.map (·.1)).Nodup → ((incOuter o r l).map (·.1)).Nodup ∧ (incOuter o r l).length ≤ l.length + r.length * o.length
  | [], l, h => ⟨h, by simp [incOuter]⟩
  | x :: r, l, h => by
    obtain ⟨a, b⟩ := nd_all x o l h
    obtain ⟨a2, b2⟩ := nd_outer o r (incAll x o l) a
    refine ⟨a2, ?_⟩
    show (incOuter o r (incAll x o l)).length ≤ _
    simp only [List.length_cons, Nat.add_mul, Nat.one_mul]
    omega
theorem outer {o : List Nat} (ho : o.length ≤ 100) {c0 c1 : C} {a0 a1 a2 a3 a4 a5 a6 a7 a8 a9 a10 a11 a12 a15 a16 a17 a18 a19 a20 a21 : Option D} {Q : Out × MS.Env × Sto → Prop}
    (k : ∀ a6 a15, Q (.nx, [a0, a1, a2, a3, a4, a5, a6, a7, a8, a9, a10, a11, a12, some (.fl (o.map intD)), some (.ref 2), a15, a16, a17, a18, a19, a20, a21], [c0, c1, .dct (kvN (incOuter o o []))])) :
    Wo (sFor (iSeq (dVar 13)) (gOf (nN 6)) f3b_law [a0, a1, a2, a3, a4, a5, a6, a7, a8, a9, a10, a11, a12, some (.fl (o.map intD)), some (.ref 2), a15, a16, a17, a18, a19, a20, a21] [c0, c1, .dct []]) Q := by
  have hm : ∀ i, (o.take i).length * o.length ≤ 10000 := fun i => by
    have : (o.take i).length ≤ 100 := by rw [List.length_take]; omega
    exact Nat.le_trans (Nat.mul_le_mul this ho) (by decide)
  unfold sFor iSeq
  simp only [dVar, List.getElem?_cons_succ, List.getElem?_cons_zero, bnd_mk, MS.listOf]
  refine wo_for (items := o.map intD) (fun i ρ' S' => ∃ a6 a15, ρ' = [a0, a1, a2, a3, a4, a5, a6, a7, a8, a9, a10, a11, a12, some (.fl (o.map intD)), some (.ref 2), a15, a16, a17, a18, a19, a20, a21] ∧ S' = [c0, c1, .dct (kvN (incOuter o (o.take i) []))]) ⟨a6, a15, rfl, rfl⟩ (fun _ _ _ _ _ => rfl) ?_ ?_
  · rintro i d ρ' S' hd ⟨b6, b15, rfl, rfl⟩
    rw [List.getElem?_map, Option.map_eq_some_iff] at hd
    obtain ⟨x, hx, rfl⟩ := hd
    obtain ⟨n1, n2⟩ := nd_outer o (o.take i) [] List.nodup_nil
    have h1 := hm i
    have h2 : ([] : List (Nat × Nat)).length = 0 := rfl
    refine wo_of (b := ([a0, a1, a2, a3, a4, a5, some (intD x), a7, a8, a9, a10, a11, a12, some (.fl (o.map intD)), some (.ref 2), b15, a16, a17, a18, a19, a20, a21], [c0, c1, .dct (kvN (incOuter o (o.take i) []))])) rfl ?_
    refine inner n1 (by omega) fun a15 => ?_
    refine ⟨some (intD x), a15, rfl, ?_⟩
    rw [← incOuter_snoc, List.take_add_one, hx]
    rfl
  · rintro ρ' S' ⟨b6, b15, rfl, rfl⟩
    rw [List.length_map, List.take_length]
    exact k b6 b15
theorem odd_sz : ∀ m ∈ List.range 28, sz3 1 (2 * (m : Int) + 2) 2 = m + 1 ∧ Builtin.Range.small 1 (2 * (m : Int) + 2) 2 = true ∧ 0 ≤ Builtin.Range.rangeSize 1 (2 * (m : Int) + 2) 2 := by decide +kernel
theorem rng3_eq {i j c : Int} {n : Nat} {fa : ADen} {ρ : MS.Env} {S S' : Sto} (e : fa ρ S = some ([.int i, .int j, .int c], S')) (h1 : c ≠ 0) (h2 : c.natAbs < 1073741824) (h3 : Builtin.Range.small i j c = true) (h4 : 0 ≤ Builtin.Range.rangeSize i j c) (h5 : sz3 i j c = n) : iRange3 fa ρ S = some (.fix (stepN i c n), S') := by
  show bnd (fa ρ S) _ = _
  rw [e, ← h5]
  exact if_pos ⟨h1, h2, h3, h4⟩
theorem odd_it {m : Nat} (hm : m ≤ 27) {ρ : MS.Env} {S : Sto} (h2 : ρ[2]? = some (some (.int m))) : iRange3 (aCons (dC (.int 1)) (aCons (dOp gAdd (dOp gMul (dC (.int 2)) (dVar 2)) (dC (.int 2))) (aCons (dC (.int 2)) (aNil)))) ρ S = some (.fix (stepN 1 2 (m + 1)), S) := by
  obtain ⟨z1, z2, z3⟩ := odd_sz m (List.mem_range.mpr (by omega))
  have mo : mulOk 2 (m : Int) = true := mulOk_r (by omega)
  refine rng3_eq (j := 2 * (m : Int) + 2) ?_ (by omega) (by omega) z2 z3 z1
  simp only [sAsg, sIf, sRet, sRetN, sNil, sPass, sSet, sExpr, sPar, sBrk, sCnt, dC, dVar, dOp, dUn, dIf, dCB, dCalP, dCalM, dMeth, dMeth0, dAnd, dOr, dNot, dIsi, aNil, aCons, asB, tbAnd, tbOr, tbNot, dChain, gN, gOf, nN, nT, nsCons, nsNil, dTup, dLst, dCell, wo_bnd, wo_some, wo_map, wo_bind, wo_if, bnd_mk, List.getElem?_cons_zero, List.getElem?_cons_succ, List.set_cons_zero, List.set_cons_succ, Option.map_some, Option.bind_some, gAdd, MS.gSub, gMul, gMod, gDiv, gLt, gLe, gGt, gGe, gI, gNeg, cInt, cI, cII, cAbs, cMax2, cMin2, decide_eq_true_eq, if_true, if_false, List.zip_cons_cons, List.zip_nil_right, List.foldl_cons, List.foldl_nil, List.length_cons, List.length_nil, Nat.zero_add, Nat.reduceAdd, Bool.false_eq_true, decide_true, decide_false, true_and, and_true, true_implies, implies_true, false_implies, not_true_eq_false, D.pureL, D.pure, D.fitL, D.fit, fit_dPair, fit_ints, Bool.and_true, Bool.true_and, Bool.and_self, wo_none, nn_iff, imp_and', and_false, false_and, szOk_0, szOk_1, szOk_2, szOk_3, szOk_4, szOk_5, szOk_6, szOk_7, szOk_8, eqA_int, neA_int, eqA_str, neA_str, eqA_bl, neA_bl, Bool.not_eq_true', Bool.not_true, Bool.not_false, not_false_eq_true, tyOf, isT, String.reduceBEq, Bool.or_false, Bool.false_or, Bool.and_false, Bool.or_true, Bool.true_or, Bool.false_and, h2, mo]
theorem odd_sq {i : Nat} (hi : i ≤ 27) {ρ : MS.Env} {S : Sto} (hl : 7 ≤ ρ.length) : dOp gMul (dVar 6) (dVar 6) (ρ.set 6 (some (.int (1 + i * 2)))) S = some (intD ((2 * i + 1) * (2 * i + 1)), S) := by
  have g : (ρ.set 6 (some (.int (1 + i * 2))))[6]? = some (some (.int (1 + i * 2))) := List.getElem?_set_self (by omega)
  simp only [sAsg, sIf, sRet, sRetN, sNil, sPass, sSet, sExpr, sPar, sBrk, sCnt, dC, dVar, dOp, dUn, dIf, dCB, dCalP, dCalM, dMeth, dMeth0, dAnd, dOr, dNot, dIsi, aNil, aCons, asB, tbAnd, tbOr, tbNot, dChain, gN, gOf, nN, nT, nsCons, nsNil, dTup, dLst, dCell, wo_bnd, wo_some, wo_map, wo_bind, wo_if, bnd_mk, List.getElem?_cons_zero, List.getElem?_cons_succ, List.set_cons_zero, List.set_cons_succ, Option.map_some, Option.bind_some, gAdd, MS.gSub, gMul, gMod, gDiv, gLt, gLe, gGt, gGe, gI, gNeg, cInt, cI, cII, cAbs, cMax2, cMin2, decide_eq_true_eq, if_true, if_false, List.zip_cons_cons, List.zip_nil_right, List.foldl_cons, List.foldl_nil, List.length_cons, List.length_nil, Nat.zero_add, Nat.reduceAdd, Bool.false_eq_true, decide_true, decide_false, true_and, and_true, true_implies, implies_true, false_implies, not_true_eq_false, D.pureL, D.pure, D.fitL, D.fit, fit_dPair, fit_ints, Bool.and_true, Bool.true_and, Bool.and_self, wo_none, nn_iff, imp_and', and_false, false_and, szOk_0, szOk_1, szOk_2, szOk_3, szOk_4, szOk_5, szOk_6, szOk_7, szOk_8, eqA_int, neA_int, eqA_str, neA_str, eqA_bl, neA_bl, Bool.not_eq_true', Bool.not_true, Bool.not_false, not_false_eq_true, tyOf, isT, String.reduceBEq, Bool.or_false, Bool.false_or, Bool.and_false, Bool.or_true, Bool.true_or, Bool.false_and, g]
  rw [show mulOk (1 + (i : Int) * 2) (1 + (i : Int) * 2) = true from mulOk_l (by omega)]
  simp only [sAsg, sIf, sRet, sRetN, sNil, sPass, sSet, sExpr, sPar, sBrk, sCnt, dC, dVar, dOp, dUn, dIf, dCB, dCalP, dCalM, dMeth, dMeth0, dAnd, dOr, dNot, dIsi, aNil, aCons, asB, tbAnd, tbOr, tbNot, dChain, gN, gOf, nN, nT, nsCons, nsNil, dTup, dLst, dCell, wo_bnd, wo_some, wo_map, wo_bind, wo_if, bnd_mk, List.getElem?_cons_zero, List.getElem?_cons_succ, List.set_cons_zero, List.set_cons_succ, Option.map_some, Option.bind_some, gAdd, MS.gSub, gMul, gMod, gDiv, gLt, gLe, gGt, gGe, gI, gNeg, cInt, cI, cII, cAbs, cMax2, cMin2, decide_eq_true_eq, if_true, if_false, List.zip_cons_cons, List.zip_nil_right, List.foldl_cons, List.foldl_nil, List.length_cons, List.length_nil, Nat.zero_add, Nat.reduceAdd, Bool.false_eq_true, decide_true, decide_false, true_and, and_true, true_implies, implies_true, false_implies, not_true_eq_false, D.pureL, D.pure, D.fitL, D.fit, fit_dPair, fit_ints, Bool.and_true, Bool.true_and, Bool.and_self, wo_none, nn_iff, imp_and', and_false, false_and, szOk_0, szOk_1, szOk_2, szOk_3, szOk_4, szOk_5, szOk_6, szOk_7, szOk_8, eqA_int, neA_int, eqA_str, neA_str, eqA_bl, neA_bl, Bool.not_eq_true', Bool.not_true, Bool.not_false, not_false_eq_true, tyOf, isT, String.reduceBEq, Bool.or_false, Bool.false_or, Bool.and_false, Bool.or_true, Bool.true_or, Bool.false_and]
  have e : (1 + (i : Int) * 2) * (1 + (i : Int) * 2) = (((2 * i + 1) * (2 * i + 1) : Nat) : Int) := by
    rw [Int.natCast_mul, show (1 + (i : Int) * 2) = ((2 * i + 1 : Nat) : Int) by omega]
  rw [e]
  rfl
end k71

namespace k71
open PySem PySem.Spec PyProof.Rows L2 MS
theorem odd_list {m : Nat} (hm : m ≤ 27) {ρ : MS.Env} {S : Sto} (h2 : ρ[2]? = some (some (.int m))) (hl : 7 ≤ ρ.length) : dLc (iRange3 (aCons (dC (.int 1)) (aCons (dOp gAdd (dOp gMul (dC (.int 2)) (dVar 2)) (dC (.int 2))) (aCons (dC (.int 2)) (aNil))))) (nN 6) (tYesD) (dOp gMul (dVar 6) (dVar 6)) [6] ρ S = some (.fl ((oddSq m).map intD), S) := by
  have h := dLc_map (α := Nat) (g := nN 6) (b := dOp gMul (dVar 6) (dVar 6)) (vs := [6]) (items := List.range (m + 1)) (e := fun i : Nat => D.int (1 + (i : Int) * 2)) (f := fun i => intD ((2 * i + 1) * (2 * i + 1))) (odd_it (S := S) hm h2) (by rw [List.length_range]; omega) fun i hi => ⟨_, rfl, odd_sq (by have := List.mem_range.mp hi; omega) (by show 7 ≤ (ρ.set 6 none).length; rw [List.length_set]; exact hl)⟩
  rw [h]
  unfold oddSq
  rw [List.map_map]
  rfl
theorem put_new (k r : Nat) (l : List (Nat × Nat)) (h : k ∉ l.map (·.1)) : dput (kvN l) (.inl (k : Int)) (.int (r : Nat)) = kvN (l ++ [(k, r)]) := by
  unfold dput
  rw [any_key, if_neg (by simpa using h)]
  unfold kvN
  rw [List.map_append]
  rfl
theorem len_kvN (l : List (Nat × Nat)) : (kvN l).length = l.length := by
  unfold kvN
  rw [List.length_map]
theorem sq_steps : ∀ i ∈ List.range 14, ((i + 1) * (i + 1)) ∉ (sqN.take (i + 1)).map (·.1) ∧ sqN.take (i + 2) = sqN.take (i + 1) ++ [((i + 1) * (i + 1), 2)] := by decide +kernel
theorem sqloop {c0 c1 c2 : C} {a0 a1 a2 a3 a4 a5 a7 a9 a10 a11 a12 a13 a14 a15 a16 a17 a18 a19 a20 a21 : Option D} {a6 : Option D} {Q : Out × MS.Env × Sto → Prop}
    (k : ∀ a6, Q (.nx, [a0, a1, a2, a3, a4, a5, a6, a7, some (.ref 3), a9, a10, a11, a12, a13, a14, a15, a16, a17, a18, a19, a20, a21], [c0, c1, c2, .dct (kvN sqN)])) :
    Wo (sFor (iRange2 (aCons (dC (.int 1)) (aCons (dC (.int 15)) (aNil)))) (gOf (nN 6)) (f4b_law) [a0, a1, a2, a3, a4, a5, a6, a7, some (.ref 3), a9, a10, a11, a12, a13, a14, a15, a16, a17, a18, a19, a20, a21] [c0, c1, c2, .dct [(.inl 0, .int 1)]]) Q := by
  have hi : ∀ ρ S, iRange2 (aCons (dC (.int 1)) (aCons (dC (.int 15)) aNil)) ρ S = some (.fix (upto 1 14), S) := fun _ _ => rfl
  unfold sFor
  rw [hi, bnd_mk]
  refine wo_for (items := upto 1 14) (fun i ρ' S' => ∃ a6, ρ' = [a0, a1, a2, a3, a4, a5, a6, a7, some (.ref 3), a9, a10, a11, a12, a13, a14, a15, a16, a17, a18, a19, a20, a21] ∧ S' = [c0, c1, c2, .dct (kvN (sqN.take (i + 1)))]) ⟨a6, rfl, rfl⟩ (fun _ _ _ _ _ => rfl) ?_ ?_
  · rintro i d ρ' S' hd ⟨b6, rfl, rfl⟩
    have hi : i < 14 := by
      have := (List.getElem?_eq_some_iff.mp hd).1
      rwa [upto_length] at this
    rw [upto_get hi] at hd
    cases hd
    obtain ⟨s1, s2⟩ := sq_steps i (List.mem_range.mpr hi)
    have hp := put_new _ 2 _ s1
    have e : (1 + (i : Int)) * (1 + (i : Int)) = (((i + 1) * (i + 1) : Nat) : Int) := by
      rw [Int.natCast_mul, show (1 + (i : Int)) = ((i + 1 : Nat) : Int) by omega]
    refine wo_of (b := ([a0, a1, a2, a3, a4, a5, some (.int (1 + i)), a7, some (.ref 3), a9, a10, a11, a12, a13, a14, a15, a16, a17, a18, a19, a20, a21], [c0, c1, c2, .dct (kvN (sqN.take (i + 1)))])) rfl ?_
    have mo : mulOk (1 + (i : Int)) (1 + (i : Int)) = true := mulOk_l (by omega)
    have put : setItemD (.ref 3) (.int (((i + 1) * (i + 1) : Nat) : Int)) (.int 2) [c0, c1, c2, .dct (kvN (sqN.take (i + 1)))] = some [c0, c1, c2, .dct (kvN (sqN.take (i + 2)))] := by
      have hz : (kvN (sqN.take (i + 1))).length < sizeLine := by
        rw [sizeLine_eq, len_kvN, List.length_take]
        show min (i + 1) 15 < 16777216
        omega
      show (if (kvN (sqN.take (i + 1))).length < sizeLine ∧ D.fit 3 (.int 2) = true then some ([c0, c1, c2, C.dct (kvN (sqN.take (i + 1)))].set 3 (.dct (dput (kvN (sqN.take (i + 1))) (.inl (((i + 1) * (i + 1) : Nat) : Int)) (.int 2)))) else none) = _
      rw [if_pos ⟨hz, rfl⟩, s2]
      rw [show D.int 2 = .int ((2 : Nat) : Int) from rfl, hp]
      rfl
    unfold f4b_law
    simp only [sAsg, sIf, sRet, sRetN, sNil, sPass, sSet, sExpr, sPar, sBrk, sCnt, dC, dVar, dOp, dUn, dIf, dCB, dCalP, dCalM, dMeth, dMeth0, dAnd, dOr, dNot, dIsi, aNil, aCons, asB, tbAnd, tbOr, tbNot, dChain, gN, gOf, nN, nT, nsCons, nsNil, dTup, dLst, dCell, wo_bnd, wo_some, wo_map, wo_bind, wo_if, bnd_mk, List.getElem?_cons_zero, List.getElem?_cons_succ, List.set_cons_zero, List.set_cons_succ, Option.map_some, Option.bind_some, gAdd, MS.gSub, gMul, gMod, gDiv, gLt, gLe, gGt, gGe, gI, gNeg, cInt, cI, cII, cAbs, cMax2, cMin2, decide_eq_true_eq, if_true, if_false, List.zip_cons_cons, List.zip_nil_right, List.foldl_cons, List.foldl_nil, List.length_cons, List.length_nil, Nat.zero_add, Nat.reduceAdd, Bool.false_eq_true, decide_true, decide_false, true_and, and_true, true_implies, implies_true, false_implies, not_true_eq_false, D.pureL, D.pure, D.fitL, D.fit, fit_dPair, fit_ints, Bool.and_true, Bool.true_and, Bool.and_self, wo_none, nn_iff, imp_and', and_false, false_and, szOk_0, szOk_1, szOk_2, szOk_3, szOk_4, szOk_5, szOk_6, szOk_7, szOk_8, eqA_int, neA_int, eqA_str, neA_str, eqA_bl, neA_bl, Bool.not_eq_true', Bool.not_true, Bool.not_false, not_false_eq_true, tyOf, isT, String.reduceBEq, Bool.or_false, Bool.false_or, Bool.and_false, Bool.or_true, Bool.true_or, Bool.false_and, mo, e, put]
    exact ⟨_, rfl⟩
  · rintro ρ' S' ⟨b6, rfl, rfl⟩
    exact k b6
def tw (i : Nat) : List (Nat × Nat) := (List.range i).zip r2L
theorem tw_steps : ∀ i ∈ List.range 200, i ∉ (tw i).map (·.1) ∧ r2L[i]?.map (fun r => tw i ++ [(i, r)]) = some (tw (i + 1)) := by decide +kernel
theorem rng1_eq {j : Int} {n : Nat} {fa : ADen} {ρ : MS.Env} {S S' : Sto} (e : fa ρ S = some ([.int j], S')) (h1 : -(2 ^ 62) ≤ j) (h2 : j < 2 ^ 62) (h3 : j.toNat = n) : iRange1 fa ρ S = some (.fix (upto 0 n), S') := by
  unfold iRange1
  rw [e, bnd_mk, ← h3]
  exact if_pos ⟨h1, h2⟩
theorem twloop {n : Nat} (hn : n < 200) {c0 c1 c2 : C} {a0 a1 a2 a3 a4 a5 a6 a10 a11 a12 a13 a14 a15 a16 a17 a18 a19 a20 a21 : Option D} {Q : Out × MS.Env × Sto → Prop}
    (k : ∀ a10, Q (.nx, [a0, a1, a2, a3, a4, a5, a6, some (.int n), some (.ref 3), some (.ref 4), a10, a11, a12, a13, a14, a15, a16, a17, a18, a19, a20, a21], [c0, c1, c2, .dct (kvN sqN), .dct (kvN (twoN n))])) :
    Wo (sFor (iRange1 (aCons (dOp gAdd (dVar 7) (dC (.int 1))) (aNil))) (gOf (nN 10)) (f5b_law) [a0, a1, a2, a3, a4, a5, a6, some (.int n), some (.ref 3), some (.ref 4), a10, a11, a12, a13, a14, a15, a16, a17, a18, a19, a20, a21] [c0, c1, c2, .dct (kvN sqN), .dct []]) Q := by
  have hi : iRange1 (aCons (dOp gAdd (dVar 7) (dC (.int 1))) (aNil)) [a0, a1, a2, a3, a4, a5, a6, some (.int n), some (.ref 3), some (.ref 4), a10, a11, a12, a13, a14, a15, a16, a17, a18, a19, a20, a21] [c0, c1, c2, .dct (kvN sqN), .dct []] = some (.fix (upto 0 (n + 1)), [c0, c1, c2, .dct (kvN sqN), .dct []]) := by
    exact rng1_eq (j := (n : Int) + 1) rfl (by omega) (by omega) (by omega)
  unfold sFor
  rw [hi, bnd_mk]
  refine wo_for (items := upto 0 (n + 1)) (fun i ρ' S' => ∃ a10, ρ' = [a0, a1, a2, a3, a4, a5, a6, some (.int n), some (.ref 3), some (.ref 4), a10, a11, a12, a13, a14, a15, a16, a17, a18, a19, a20, a21] ∧ S' = [c0, c1, c2, .dct (kvN sqN), .dct (kvN (tw i))]) ⟨a10, rfl, rfl⟩ (fun _ _ _ _ _ => rfl) ?_ ?_
  · rintro i d ρ' S' hd ⟨b10, rfl, rfl⟩
    have hi : i < n + 1 := by
      have := (List.getElem?_eq_some_iff.mp hd).1
      rwa [upto_length] at this
    rw [upto_get hi] at hd
    cases hd
    obtain ⟨s1, s2⟩ := tw_steps i (List.mem_range.mpr (by omega))
    have r := r2_all i (List.mem_range.mpr (by omega))
    rw [r, Option.map_some] at s2
    have s2 := Option.some.inj s2
    have hp := put_new i (pairSum i sqN sqN) _ s1
    rw [s2] at hp
    refine wo_of (b := ([a0, a1, a2, a3, a4, a5, a6, some (.int n), some (.ref 3), some (.ref 4), some (.int (0 + i)), a11, a12, a13, a14, a15, a16, a17, a18, a19, a20, a21], [c0, c1, c2, .dct (kvN sqN), .dct (kvN (tw i))])) rfl ?_
    have cal : F_n_law_pairs [.int i, .ref 3] [c0, c1, c2, .dct (kvN sqN), .dct (kvN (tw i))] = some (.int (pairSum i sqN sqN : Nat), [c0, c1, c2, .dct (kvN sqN), .dct (kvN (tw i))]) := pairs_ok rfl (by decide) (by decide)
    have put : setItemD (.ref 4) (.int (i : Nat)) (.int (pairSum i sqN sqN : Nat)) [c0, c1, c2, .dct (kvN sqN), .dct (kvN (tw i))] = some [c0, c1, c2, .dct (kvN sqN), .dct (kvN (tw (i + 1)))] := by
      have hz : (kvN (tw i)).length < sizeLine := by
        rw [sizeLine_eq, len_kvN]
        unfold tw
        rw [List.length_zip, List.length_range]
        omega
      show (if (kvN (tw i)).length < sizeLine ∧ D.fit 4 (.int (pairSum i sqN sqN : Nat)) = true then some ([c0, c1, c2, .dct (kvN sqN), C.dct (kvN (tw i))].set 4 (.dct (dput (kvN (tw i)) (.inl (i : Int)) (.int (pairSum i sqN sqN : Nat))))) else none) = _
      rw [if_pos ⟨hz, rfl⟩, hp]
      rfl
    unfold f5b_law
    simp only [sAsg, sIf, sRet, sRetN, sNil, sPass, sSet, sExpr, sPar, sBrk, sCnt, dC, dVar, dOp, dUn, dIf, dCB, dCalP, dCalM, dMeth, dMeth0, dAnd, dOr, dNot, dIsi, aNil, aCons, asB, tbAnd, tbOr, tbNot, dChain, gN, gOf, nN, nT, nsCons, nsNil, dTup, dLst, dCell, wo_bnd, wo_some, wo_map, wo_bind, wo_if, bnd_mk, List.getElem?_cons_zero, List.getElem?_cons_succ, List.set_cons_zero, List.set_cons_succ, Option.map_some, Option.bind_some, gAdd, MS.gSub, gMul, gMod, gDiv, gLt, gLe, gGt, gGe, gI, gNeg, cInt, cI, cII, cAbs, cMax2, cMin2, decide_eq_true_eq, if_true, if_false, List.zip_cons_cons, List.zip_nil_right, List.foldl_cons, List.foldl_nil, List.length_cons, List.length_nil, Nat.zero_add, Nat.reduceAdd, Bool.false_eq_true, decide_true, decide_false, true_and, and_true, true_implies, implies_true, false_implies, not_true_eq_false, D.pureL, D.pure, D.fitL, D.fit, fit_dPair, fit_ints, Bool.and_true, Bool.true_and, Bool.and_self, wo_none, nn_iff, imp_and', and_false, false_and, szOk_0, szOk_1, szOk_2, szOk_3, szOk_4, szOk_5, szOk_6, szOk_7, szOk_8, eqA_int, neA_int, eqA_str, neA_str, eqA_bl, neA_bl, Bool.not_eq_true', Bool.not_true, Bool.not_false, not_false_eq_true, tyOf, isT, String.reduceBEq, Bool.or_false, Bool.false_or, Bool.and_false, Bool.or_true, Bool.true_or, Bool.false_and, show (0 : Int) + (i : Int) = (i : Int) from by omega, cal, put]
    exact ⟨_, rfl⟩
  · rintro ρ' S' ⟨b10, rfl, rfl⟩
    rw [upto_length]
    exact k b10
end k71

namespace k71
open PySem PySem.Spec PyProof.Rows L2 MS
structure MFacts (m : Nat) (qs : List Nat) : Prop where
  q : F_n_law_quadruples [.int m] = some (.fl (qs.map encQ))
  o : F_odd_quadruples [.int m] = some (.tup (qs.map encQ))
  one : ∀ n ∈ qs, ∃ t, OneOk qs n t
  len : qs.length ≤ 1000 ∧ qs.all (fun n => decide (n < 16777216)) = true
  pr : pairSum (4 * m) (pairsN m) (pairsN m) = sumN (dvN m)
  pl : (pairsN m).length ≤ 1000 ∧ (pairsN m).all (fun p => decide (p.2 < 1000)) = true
theorem mfacts {m : Nat} {cs co qs : List Nat} {ts pr : List (Nat × Nat)} (h1 : okQ m cs = true) (h2 : okO m co = true) (h3 : (isort Nat.ble cs).filter (fun n => n % 2 == 1) = qs ∧ isort Nat.ble co = qs ∧ ts.map (·.1) = qs) (h4 : ts.all (okOne qs) = true) (h5 : pairsN m = pr ∧ pairSum (4 * m) pr pr = sumN (dvN m)) (h6 : cs.length ≤ 1000 ∧ (qs.length ≤ 1000 ∧ qs.all (fun n => decide (n < 16777216)) = true) ∧ pr.length ≤ 1000 ∧ pr.all (fun p => decide (p.2 < 1000)) = true) : MFacts m qs := by
  refine ⟨quads h1 h3.1 (by omega), oddq h2 h3.2.1, fun n hn => ?_, h6.2.1, by rw [h5.1]; exact h5.2, by rw [h5.1]; exact h6.2.2⟩
  rw [← h3.2.2] at hn
  obtain ⟨p, hp, rfl⟩ := List.mem_map.mp hn
  exact ⟨p.2, one_facts (List.all_eq_true.mp h4 p hp)⟩
theorem m_all : ∀ r : Nat, r < 14 → ∃ qs, MFacts (1 + 2 * r) qs
  | 0, _ => ⟨_, mfacts okQ1 okO1 srt1 one1 prs1 (by decide +kernel)⟩
  | 1, _ => ⟨_, mfacts okQ3 okO3 srt3 one3 prs3 (by decide +kernel)⟩
  | 2, _ => ⟨_, mfacts okQ5 okO5 srt5 one5 prs5 (by decide +kernel)⟩
  | 3, _ => ⟨_, mfacts okQ7 okO7 srt7 one7 prs7 (by decide +kernel)⟩
  | 4, _ => ⟨_, mfacts okQ9 okO9 srt9 one9 prs9 (by decide +kernel)⟩
  | 5, _ => ⟨_, mfacts okQ11 okO11 srt11 one11 prs11 (by decide +kernel)⟩
  | 6, _ => ⟨_, mfacts okQ13 okO13 srt13 one13 prs13 (by decide +kernel)⟩
  | 7, _ => ⟨_, mfacts okQ15 okO15 srt15 one15 prs15 (by decide +kernel)⟩
  | 8, _ => ⟨_, mfacts okQ17 okO17 srt17 one17 prs17 (by decide +kernel)⟩
  | 9, _ => ⟨_, mfacts okQ19 okO19 srt19 one19 prs19 (by decide +kernel)⟩
  | 10, _ => ⟨_, mfacts okQ21 okO21 srt21 one21 prs21 (by decide +kernel)⟩
  | 11, _ => ⟨_, mfacts okQ23 okO23 srt23 one23 prs23 (by decide +kernel)⟩
  | 12, _ => ⟨_, mfacts okQ25 okO25 srt25 one25 prs25 (by decide +kernel)⟩
  | 13, _ => ⟨_, mfacts okQ27 okO27 srt27 one27 prs27 (by decide +kernel)⟩
  | n + 14, h => absurd h (by omega)
theorem signOf_le (n : Nat) : (signOf n).natAbs ≤ 1 := by
  unfold signOf
  omega
theorem sum_le : ∀ qs : List Nat, ((qs.map signOf).sum).natAbs ≤ qs.length
  | [] => by simp
  | n :: qs => by
    have := sum_le qs
    have := signOf_le n
    rw [List.map_cons, List.sum_cons, List.length_cons]
    omega
theorem sum_ints {S : Sto} {d : D} {ns : List Int} (h : seqOf S d = some (ns.map D.int)) : cSumA [d] S = some (.int ns.sum, S) := by
  show (seqOf S d).bind _ = _
  rw [h, Option.bind_some, intsOf_map, Option.map_some]
theorem sum_nats : ∀ l : List Nat, (l.map fun n => ((n : Nat) : Int)).sum = ((sumN l : Nat) : Int)
  | [] => rfl
  | x :: l => by
    have ih := sum_nats l
    rw [List.map_cons, List.sum_cons, ih]
    show (x : Int) + ((sumN l : Nat) : Int) = ((x + sumN l : Nat) : Int)
    omega
theorem pure_encQ (n : Nat) : D.pure (encQ n) = true := rfl
theorem law_signs {m : Nat} {qs : List Nat} (F : MFacts m qs) {ρ : MS.Env} {S : Sto} (h3 : ρ[3]? = some (some (.fl (qs.map encQ)))) (hl : 6 ≤ ρ.length) : dLc (iSeq (dVar 3)) (nN 5) (tYesD) (dCalP F_n_law_sign (aCons (dVar 5) (aNil))) [5] ρ S = some (.fl ((qs.map signOf).map D.int), S) := by
  rw [List.map_map]
  refine dLc_map (e := encQ) ?_ (by have := F.len.1; omega) fun n hn => ⟨_, rfl, ?_⟩
  · unfold iSeq
    simp only [dVar, h3, bnd_mk, MS.listOf]
  · obtain ⟨t, T⟩ := F.one n hn
    have g : ((wipeE ρ [5]).set 5 (some (encQ n)))[5]? = some (some (encQ n)) := List.getElem?_set_self (by show 5 < (ρ.set 5 none).length; rw [List.length_set]; omega)
    simp only [dCalP, aCons, aNil, dVar, g, bnd_mk, D.pureL, pure_encQ, D.fitL, D.fit, Bool.and_true, T.s2, Option.map_some]
    simp only [show D.fit 0 (encQ n) = true from rfl, if_true]
    rfl
theorem seq_cal {F : FP} {v : Nat} {d : D} {es : List D} {ρ : MS.Env} {S : Sto} (hv : ρ[v]? = some (some d)) (hp : D.pure d = true) (hF : F [d] = some (.tup es)) : iSeq (dCalP F (aCons (dVar v) (aNil))) ρ S = some (.fix es, S) := by
  unfold iSeq
  rw [cal1 (var_at hv) hp hF]
  rfl
theorem sum_of {L : EDen} {ns : List Int} {ρ : MS.Env} {S : Sto} (h : L ρ S = some (.fl (ns.map D.int), S)) : sRet (dCB cSumA (aCons L (aNil))) ρ S = some (.rt (.int ns.sum), ρ, S) := by
  unfold sRet dCB aCons aNil
  rw [h]
  simp only [bnd_mk]
  rw [sum_ints (ns := ns) rfl]
  rfl
theorem sum_ofT {L : EDen} {ns : List Int} {ρ : MS.Env} {S : Sto} (h : L ρ S = some (.tup (ns.map D.int), S)) : sRet (dCB cSumA (aCons L (aNil))) ρ S = some (.rt (.int ns.sum), ρ, S) := by
  unfold sRet dCB aCons aNil
  rw [h]
  simp only [bnd_mk]
  rw [sum_ints (ns := ns) rfl]
  rfl
theorem rng2_eq {i j : Int} {n : Nat} {fa : ADen} {ρ : MS.Env} {S S' : Sto} (e : fa ρ S = some ([.int i, .int j], S')) (h1 : -(2 ^ 62) ≤ i ∧ i < 2 ^ 62 ∧ -(2 ^ 62) ≤ j ∧ j < 2 ^ 62) (h3 : (j - i).toNat = n) : iRange2 fa ρ S = some (.fix (upto i n), S') := by
  unfold iRange2
  rw [e, bnd_mk, ← h3]
  exact if_pos h1
theorem signs_added {m : Nat} {qs : List Nat} (F : MFacts m qs) : F_signs_added [.int m] = some (.int (qs.map signOf).sum) := by
  refine bodyP_run rfl rfl ?_
  show Wo (b_signs_added [some (.int m), none] []) _
  have lc : dLc (iSeq (dCalP F_odd_quadruples (aCons (dVar 0) (aNil)))) (nN 1) (tYesD) (dCalP F_quadruple_sign (aCons (dVar 1) (aNil))) [1] [some (.int m), none] [] = some (.fl ((qs.map signOf).map D.int), []) := by
    rw [List.map_map]
    refine dLc_map (e := encQ) (seq_cal rfl rfl F.o) (by have := F.len.1; omega) fun n hn => ⟨_, rfl, ?_⟩
    obtain ⟨t, T⟩ := F.one n hn
    exact cal1 rfl rfl T.s1
  exact wo_of (sum_of lc) rfl
theorem odd_tuples {m : Nat} (h1 : 1 ≤ m) (h2 : m ≤ 199) : F_odd_tuples [.int m] = some (.int (sumN (dvN m) : Nat)) := by
  refine bodyP_run rfl rfl ?_
  show Wo (b_odd_tuples [some (.int m)] []) _
  have e : (dvN m).map intD = ((dvN m).map fun n => ((n : Nat) : Int)).map D.int := by
    rw [List.map_map]
    rfl
  have d := divs h1 h2
  rw [e] at d
  rw [← sum_nats]
  exact wo_of (sum_ofT (cal1 rfl rfl d)) rfl
/-- the divisors by looking -/
theorem divs_look {v m : Nat} (h1 : 1 ≤ m) (h2 : m ≤ 199) {ρ : MS.Env} {S : Sto} (hv : ρ[v]? = some (some (.int m))) (v18 : v ≠ 18) (hl : 19 ≤ ρ.length) : dLc (iRange2 (aCons (dC (.int 1)) (aCons (dOp gAdd (dVar v) (dC (.int 1))) (aNil)))) (nN 18) (asB (dOp gEqA (dOp gMod (dCB cInt (aCons (dVar v) (aNil))) (dVar 18)) (dC (.int 0)))) (dVar 18) [18] ρ S = some (.fl ((dvN m).map intD), S) := by
  unfold dvN
  rw [List.map_map]
  refine dLc_filt (items := List.range m) (e := fun i : Nat => D.int (1 + i)) ?_ (by rw [List.length_range]; omega) fun i hi => ?_
  · refine rng2_eq (i := 1) (j := (m : Int) + 1) ?_ (by omega) (by omega)
    simp only [sAsg, sIf, sRet, sRetN, sNil, sPass, sSet, sExpr, sPar, sBrk, sCnt, dC, dVar, dOp, dUn, dIf, dCB, dCalP, dCalM, dMeth, dMeth0, dAnd, dOr, dNot, dIsi, aNil, aCons, asB, tbAnd, tbOr, tbNot, dChain, gN, gOf, nN, nT, nsCons, nsNil, dTup, dLst, dCell, wo_bnd, wo_some, wo_map, wo_bind, wo_if, bnd_mk, List.getElem?_cons_zero, List.getElem?_cons_succ, List.set_cons_zero, List.set_cons_succ, Option.map_some, Option.bind_some, gAdd, MS.gSub, gMul, gMod, gDiv, gLt, gLe, gGt, gGe, gI, gNeg, cInt, cI, cII, cAbs, cMax2, cMin2, decide_eq_true_eq, if_true, if_false, List.zip_cons_cons, List.zip_nil_right, List.foldl_cons, List.foldl_nil, List.length_cons, List.length_nil, Nat.zero_add, Nat.reduceAdd, Bool.false_eq_true, decide_true, decide_false, true_and, and_true, true_implies, implies_true, false_implies, not_true_eq_false, D.pureL, D.pure, D.fitL, D.fit, fit_dPair, fit_ints, Bool.and_true, Bool.true_and, Bool.and_self, wo_none, nn_iff, imp_and', and_false, false_and, szOk_0, szOk_1, szOk_2, szOk_3, szOk_4, szOk_5, szOk_6, szOk_7, szOk_8, eqA_int, neA_int, eqA_str, neA_str, eqA_bl, neA_bl, Bool.not_eq_true', Bool.not_true, Bool.not_false, not_false_eq_true, tyOf, isT, String.reduceBEq, Bool.or_false, Bool.false_or, Bool.and_false, Bool.or_true, Bool.true_or, Bool.false_and, hv]
  · have g : ((wipeE ρ [18]).set 18 (some (.int (1 + i))))[18]? = some (some (.int (1 + i))) := List.getElem?_set_self (by show 18 < (ρ.set 18 none).length; rw [List.length_set]; omega)
    have g2 : ((wipeE ρ [18]).set 18 (some (.int (1 + i))))[v]? = some (some (.int m)) := by
      rw [List.getElem?_set_ne (Ne.symm v18)]
      show (ρ.set 18 none)[v]? = _
      rw [List.getElem?_set_ne (Ne.symm v18), hv]
    have e : (1 + (i : Int)) = ((i + 1 : Nat) : Int) := by omega
    refine ⟨_, rfl, ?_, fun _ => ?_⟩
    · have nz : (1 + (i : Int)) ≠ 0 := by omega
      simp only [sAsg, sIf, sRet, sRetN, sNil, sPass, sSet, sExpr, sPar, sBrk, sCnt, dC, dVar, dOp, dUn, dIf, dCB, dCalP, dCalM, dMeth, dMeth0, dAnd, dOr, dNot, dIsi, aNil, aCons, asB, tbAnd, tbOr, tbNot, dChain, gN, gOf, nN, nT, nsCons, nsNil, dTup, dLst, dCell, wo_bnd, wo_some, wo_map, wo_bind, wo_if, bnd_mk, List.getElem?_cons_zero, List.getElem?_cons_succ, List.set_cons_zero, List.set_cons_succ, Option.map_some, Option.bind_some, gAdd, MS.gSub, gMul, gMod, gDiv, gLt, gLe, gGt, gGe, gI, gNeg, cInt, cI, cII, cAbs, cMax2, cMin2, decide_eq_true_eq, if_true, if_false, List.zip_cons_cons, List.zip_nil_right, List.foldl_cons, List.foldl_nil, List.length_cons, List.length_nil, Nat.zero_add, Nat.reduceAdd, Bool.false_eq_true, decide_true, decide_false, true_and, and_true, true_implies, implies_true, false_implies, not_true_eq_false, D.pureL, D.pure, D.fitL, D.fit, fit_dPair, fit_ints, Bool.and_true, Bool.true_and, Bool.and_self, wo_none, nn_iff, imp_and', and_false, false_and, szOk_0, szOk_1, szOk_2, szOk_3, szOk_4, szOk_5, szOk_6, szOk_7, szOk_8, eqA_int, neA_int, eqA_str, neA_str, eqA_bl, neA_bl, Bool.not_eq_true', Bool.not_true, Bool.not_false, not_false_eq_true, tyOf, isT, String.reduceBEq, Bool.or_false, Bool.false_or, Bool.and_false, Bool.or_true, Bool.true_or, Bool.false_and, g, g2]
      simp only [ne_eq, nz, not_false_eq_true, if_true, sAsg, sIf, sRet, sRetN, sNil, sPass, sSet, sExpr, sPar, sBrk, sCnt, dC, dVar, dOp, dUn, dIf, dCB, dCalP, dCalM, dMeth, dMeth0, dAnd, dOr, dNot, dIsi, aNil, aCons, asB, tbAnd, tbOr, tbNot, dChain, gN, gOf, nN, nT, nsCons, nsNil, dTup, dLst, dCell, wo_bnd, wo_some, wo_map, wo_bind, wo_if, bnd_mk, List.getElem?_cons_zero, List.getElem?_cons_succ, List.set_cons_zero, List.set_cons_succ, Option.map_some, Option.bind_some, gAdd, MS.gSub, gMul, gMod, gDiv, gLt, gLe, gGt, gGe, gI, gNeg, cInt, cI, cII, cAbs, cMax2, cMin2, decide_eq_true_eq, if_true, if_false, List.zip_cons_cons, List.zip_nil_right, List.foldl_cons, List.foldl_nil, List.length_cons, List.length_nil, Nat.zero_add, Nat.reduceAdd, Bool.false_eq_true, decide_true, decide_false, true_and, and_true, true_implies, implies_true, false_implies, not_true_eq_false, D.pureL, D.pure, D.fitL, D.fit, fit_dPair, fit_ints, Bool.and_true, Bool.true_and, Bool.and_self, wo_none, nn_iff, imp_and', and_false, false_and, szOk_0, szOk_1, szOk_2, szOk_3, szOk_4, szOk_5, szOk_6, szOk_7, szOk_8, eqA_int, neA_int, eqA_str, neA_str, eqA_bl, neA_bl, Bool.not_eq_true', Bool.not_true, Bool.not_false, not_false_eq_true, tyOf, isT, String.reduceBEq, Bool.or_false, Bool.false_or, Bool.and_false, Bool.or_true, Bool.true_or, Bool.false_and]
      rw [fmod_pos (by omega), e, ← Int.natCast_emod]
      have z : (((m % (i + 1) : Nat) : Int) = 0) ↔ m % (i + 1) = 0 := by omega
      simp only [z]
      by_cases q : m % (i + 1) = 0
      · rw [decide_eq_true q, show (m % (i + 1) == 0) = true from beq_iff_eq.mpr q]
      · rw [decide_eq_false q, show (m % (i + 1) == 0) = false from beq_eq_false_iff_ne.mpr q]
    · simp only [dVar, g, Function.comp_def]
      rw [e]
      rfl
end k71

namespace k71
open PySem PySem.Spec PyProof.Rows L2 MS
theorem repr_qs {S : Sto} {qs : List Nat} (h : qs.all (fun n => decide (n < 16777216)) = true) (hl : qs.length ≤ 1000) : cRepr [.tup (qs.map encQ)] S = some (.str (shownD (.tup (qs.map encQ))), S) := by
  have a : D.okSL 64 (qs.map encQ) = true := by
    clear hl
    induction qs with
    | nil => rfl
    | cons n qs ih =>
      rw [List.all_cons, Bool.and_eq_true] at h
      have hn : n < 16777216 := of_decide_eq_true h.1
      have l : ∀ k : Nat, k < 2 ^ 64 → decide (((k : Nat) : Int).natAbs.log2 < 64) = true := fun k hk => decide_eq_true (log2_of (by decide) (by omega))
      show ((decide _ && (decide _ && (decide _ && (decide _ && true)))) && D.okSL 64 (qs.map encQ)) = true
      rw [ih h.2, l _ (by omega), l _ (by omega), l _ (by omega), l _ (by omega)]
      rfl
  have b : D.bulkL (qs.map encQ) = 5 * qs.length ∧ D.depL (qs.map encQ) ≤ 1 := by
    clear hl h a
    induction qs with
    | nil => exact ⟨rfl, by decide⟩
    | cons n qs ih =>
      refine ⟨?_, ?_⟩
      · show 4 + 1 + D.bulkL (qs.map encQ) = _
        rw [ih.1, List.length_cons]
        omega
      · show max 1 (D.depL (qs.map encQ)) ≤ 1
        have := ih.2
        omega
  refine cRepr_ok 64 (by decide) (by decide) a ?_ ?_
  · show (64 + 3) * D.bulkL (qs.map encQ) + 64 + 1 ≤ _
    rw [b.1]
    omega
  · show D.depL (qs.map encQ) + 1 ≤ 62
    omega
theorem repr_dv {S : Sto} {m : Nat} (hm : m ≤ 199) : cRepr [.tup ((dvN m).map intD)] S = some (.str (shownD (.tup ((dvN m).map intD))), S) := by
  have e : (dvN m).map intD = ((dvN m).map fun n => ((n : Nat) : Int)).map D.int := by
    rw [List.map_map]
    rfl
  rw [e]
  refine repr_ints ?_ ?_
  · intro i hi
    obtain ⟨n, hn, rfl⟩ := List.mem_map.mp hi
    unfold dvN at hn
    obtain ⟨d, hd, rfl⟩ := List.mem_map.mp hn
    have := List.mem_range.mp (List.mem_filter.mp hd).1
    show ((d + 1 : Nat) : Int).natAbs < _
    omega
  · rw [List.length_map]
    unfold dvN
    rw [List.length_map]
    have := List.length_filter_le (fun d => m % (d + 1) == 0) (List.range m)
    rw [List.length_range] at this
    omega
abbrev t4 (x y z w : Int) : D := .tup [.int x, .int y, .int z, .int w]
theorem fit_t4 (n : Nat) (x y z w : Int) : D.fit n (t4 x y z w) = true := rfl
theorem doubled_ok (x y z w : Int) : F_doubled [t4 x y z w] = some (t4 (x + y) (x - y) (z + w) (z - w)) := by
  refine bodyP_run rfl rfl ?_
  show Wo (b_doubled [some (t4 x y z w), none, none, none, none] []) _
  unfold b_doubled
  refine wo_seqN fun K k1 => ?_
  unfold t4
  simp only [sAsg, sIf, sRet, sRetN, sNil, sPass, sSet, sExpr, sPar, sBrk, sCnt, dC, dVar, dOp, dUn, dIf, dCB, dCalP, dCalM, dMeth, dMeth0, dAnd, dOr, dNot, dIsi, aNil, aCons, asB, tbAnd, tbOr, tbNot, dChain, gN, gOf, nN, nT, nsCons, nsNil, dTup, dLst, dCell, wo_bnd, wo_some, wo_map, wo_bind, wo_if, bnd_mk, List.getElem?_cons_zero, List.getElem?_cons_succ, List.set_cons_zero, List.set_cons_succ, Option.map_some, Option.bind_some, gAdd, MS.gSub, gMul, gMod, gDiv, gLt, gLe, gGt, gGe, gI, gNeg, cInt, cI, cII, cAbs, cMax2, cMin2, decide_eq_true_eq, if_true, if_false, List.zip_cons_cons, List.zip_nil_right, List.foldl_cons, List.foldl_nil, List.length_cons, List.length_nil, Nat.zero_add, Nat.reduceAdd, Bool.false_eq_true, decide_true, decide_false, true_and, and_true, true_implies, implies_true, false_implies, not_true_eq_false, D.pureL, D.pure, D.fitL, D.fit, fit_dPair, fit_ints, Bool.and_true, Bool.true_and, Bool.and_self, wo_none, nn_iff, imp_and', and_false, false_and, szOk_0, szOk_1, szOk_2, szOk_3, szOk_4, szOk_5, szOk_6, szOk_7, szOk_8, eqA_int, neA_int, eqA_str, neA_str, eqA_bl, neA_bl, Bool.not_eq_true', Bool.not_true, Bool.not_false, not_false_eq_true, tyOf, isT, String.reduceBEq, Bool.or_false, Bool.false_or, Bool.and_false, Bool.or_true, Bool.true_or, Bool.false_and]
  refine k1 _ _ ?_
  clear k1
  simp only [sAsg, sIf, sRet, sRetN, sNil, sPass, sSet, sExpr, sPar, sBrk, sCnt, dC, dVar, dOp, dUn, dIf, dCB, dCalP, dCalM, dMeth, dMeth0, dAnd, dOr, dNot, dIsi, aNil, aCons, asB, tbAnd, tbOr, tbNot, dChain, gN, gOf, nN, nT, nsCons, nsNil, dTup, dLst, dCell, wo_bnd, wo_some, wo_map, wo_bind, wo_if, bnd_mk, List.getElem?_cons_zero, List.getElem?_cons_succ, List.set_cons_zero, List.set_cons_succ, Option.map_some, Option.bind_some, gAdd, MS.gSub, gMul, gMod, gDiv, gLt, gLe, gGt, gGe, gI, gNeg, cInt, cI, cII, cAbs, cMax2, cMin2, decide_eq_true_eq, if_true, if_false, List.zip_cons_cons, List.zip_nil_right, List.foldl_cons, List.foldl_nil, List.length_cons, List.length_nil, Nat.zero_add, Nat.reduceAdd, Bool.false_eq_true, decide_true, decide_false, true_and, and_true, true_implies, implies_true, false_implies, not_true_eq_false, D.pureL, D.pure, D.fitL, D.fit, fit_dPair, fit_ints, Bool.and_true, Bool.true_and, Bool.and_self, wo_none, nn_iff, imp_and', and_false, false_and, szOk_0, szOk_1, szOk_2, szOk_3, szOk_4, szOk_5, szOk_6, szOk_7, szOk_8, eqA_int, neA_int, eqA_str, neA_str, eqA_bl, neA_bl, Bool.not_eq_true', Bool.not_true, Bool.not_false, not_false_eq_true, tyOf, isT, String.reduceBEq, Bool.or_false, Bool.false_or, Bool.and_false, Bool.or_true, Bool.true_or, Bool.false_and]
theorem halved_ok (a b c d : Int) : F_halved [t4 a b c d] = some (if (a + b) % 2 = 1 ∨ (c + d) % 2 = 1 then .non else t4 ((a + b) / 2) ((a - b) / 2) ((c + d) / 2) ((c - d) / 2)) := by
  have hp : D.pure (if (a + b) % 2 = 1 ∨ (c + d) % 2 = 1 then D.non else t4 ((a + b) / 2) ((a - b) / 2) ((c + d) / 2) ((c - d) / 2)) = true := by split <;> rfl
  refine bodyP_run rfl hp ?_
  show Wo (b_halved [some (t4 a b c d), none, none, none, none] []) _
  have n2 : (2 : Int) ≠ 0 := by decide
  have d2 : divOk 2 = true := divOk_of (by decide) (by decide)
  unfold b_halved
  refine wo_seqN fun K k1 => ?_
  unfold t4
  simp only [sAsg, sIf, sRet, sRetN, sNil, sPass, sSet, sExpr, sPar, sBrk, sCnt, dC, dVar, dOp, dUn, dIf, dCB, dCalP, dCalM, dMeth, dMeth0, dAnd, dOr, dNot, dIsi, aNil, aCons, asB, tbAnd, tbOr, tbNot, dChain, gN, gOf, nN, nT, nsCons, nsNil, dTup, dLst, dCell, wo_bnd, wo_some, wo_map, wo_bind, wo_if, bnd_mk, List.getElem?_cons_zero, List.getElem?_cons_succ, List.set_cons_zero, List.set_cons_succ, Option.map_some, Option.bind_some, gAdd, MS.gSub, gMul, gMod, gDiv, gLt, gLe, gGt, gGe, gI, gNeg, cInt, cI, cII, cAbs, cMax2, cMin2, decide_eq_true_eq, if_true, if_false, List.zip_cons_cons, List.zip_nil_right, List.foldl_cons, List.foldl_nil, List.length_cons, List.length_nil, Nat.zero_add, Nat.reduceAdd, Bool.false_eq_true, decide_true, decide_false, true_and, and_true, true_implies, implies_true, false_implies, not_true_eq_false, D.pureL, D.pure, D.fitL, D.fit, fit_dPair, fit_ints, Bool.and_true, Bool.true_and, Bool.and_self, wo_none, nn_iff, imp_and', and_false, false_and, szOk_0, szOk_1, szOk_2, szOk_3, szOk_4, szOk_5, szOk_6, szOk_7, szOk_8, eqA_int, neA_int, eqA_str, neA_str, eqA_bl, neA_bl, Bool.not_eq_true', Bool.not_true, Bool.not_false, not_false_eq_true, tyOf, isT, String.reduceBEq, Bool.or_false, Bool.false_or, Bool.and_false, Bool.or_true, Bool.true_or, Bool.false_and]
  refine k1 _ _ ?_
  clear k1
  by_cases h1 : (a + b) % 2 = 1
  · rw [if_pos (.inl h1)]
    refine wo_seq.mpr ?_
    simp only [sAsg, sIf, sRet, sRetN, sNil, sPass, sSet, sExpr, sPar, sBrk, sCnt, dC, dVar, dOp, dUn, dIf, dCB, dCalP, dCalM, dMeth, dMeth0, dAnd, dOr, dNot, dIsi, aNil, aCons, asB, tbAnd, tbOr, tbNot, dChain, gN, gOf, nN, nT, nsCons, nsNil, dTup, dLst, dCell, wo_bnd, wo_some, wo_map, wo_bind, wo_if, bnd_mk, List.getElem?_cons_zero, List.getElem?_cons_succ, List.set_cons_zero, List.set_cons_succ, Option.map_some, Option.bind_some, gAdd, MS.gSub, gMul, gMod, gDiv, gLt, gLe, gGt, gGe, gI, gNeg, cInt, cI, cII, cAbs, cMax2, cMin2, decide_eq_true_eq, if_true, if_false, List.zip_cons_cons, List.zip_nil_right, List.foldl_cons, List.foldl_nil, List.length_cons, List.length_nil, Nat.zero_add, Nat.reduceAdd, Bool.false_eq_true, decide_true, decide_false, true_and, and_true, true_implies, implies_true, false_implies, not_true_eq_false, D.pureL, D.pure, D.fitL, D.fit, fit_dPair, fit_ints, Bool.and_true, Bool.true_and, Bool.and_self, wo_none, nn_iff, imp_and', and_false, false_and, szOk_0, szOk_1, szOk_2, szOk_3, szOk_4, szOk_5, szOk_6, szOk_7, szOk_8, eqA_int, neA_int, eqA_str, neA_str, eqA_bl, neA_bl, Bool.not_eq_true', Bool.not_true, Bool.not_false, not_false_eq_true, tyOf, isT, String.reduceBEq, Bool.or_false, Bool.false_or, Bool.and_false, Bool.or_true, Bool.true_or, Bool.false_and, fmod_pos (a := a + b) (b := 2) (by decide), h1, n2, d2, ne_eq]
  · refine wo_seqN fun K k1 => ?_
    simp only [sAsg, sIf, sRet, sRetN, sNil, sPass, sSet, sExpr, sPar, sBrk, sCnt, dC, dVar, dOp, dUn, dIf, dCB, dCalP, dCalM, dMeth, dMeth0, dAnd, dOr, dNot, dIsi, aNil, aCons, asB, tbAnd, tbOr, tbNot, dChain, gN, gOf, nN, nT, nsCons, nsNil, dTup, dLst, dCell, wo_bnd, wo_some, wo_map, wo_bind, wo_if, bnd_mk, List.getElem?_cons_zero, List.getElem?_cons_succ, List.set_cons_zero, List.set_cons_succ, Option.map_some, Option.bind_some, gAdd, MS.gSub, gMul, gMod, gDiv, gLt, gLe, gGt, gGe, gI, gNeg, cInt, cI, cII, cAbs, cMax2, cMin2, decide_eq_true_eq, if_true, if_false, List.zip_cons_cons, List.zip_nil_right, List.foldl_cons, List.foldl_nil, List.length_cons, List.length_nil, Nat.zero_add, Nat.reduceAdd, Bool.false_eq_true, decide_true, decide_false, true_and, and_true, true_implies, implies_true, false_implies, not_true_eq_false, D.pureL, D.pure, D.fitL, D.fit, fit_dPair, fit_ints, Bool.and_true, Bool.true_and, Bool.and_self, wo_none, nn_iff, imp_and', and_false, false_and, szOk_0, szOk_1, szOk_2, szOk_3, szOk_4, szOk_5, szOk_6, szOk_7, szOk_8, eqA_int, neA_int, eqA_str, neA_str, eqA_bl, neA_bl, Bool.not_eq_true', Bool.not_true, Bool.not_false, not_false_eq_true, tyOf, isT, String.reduceBEq, Bool.or_false, Bool.false_or, Bool.and_false, Bool.or_true, Bool.true_or, Bool.false_and, fmod_pos (a := a + b) (b := 2) (by decide), h1, n2, d2, ne_eq]
    refine k1 _ _ ?_
    clear k1
    by_cases h2 : (c + d) % 2 = 1
    · rw [if_pos (.inr h2)]
      refine wo_seq.mpr ?_
      simp only [sAsg, sIf, sRet, sRetN, sNil, sPass, sSet, sExpr, sPar, sBrk, sCnt, dC, dVar, dOp, dUn, dIf, dCB, dCalP, dCalM, dMeth, dMeth0, dAnd, dOr, dNot, dIsi, aNil, aCons, asB, tbAnd, tbOr, tbNot, dChain, gN, gOf, nN, nT, nsCons, nsNil, dTup, dLst, dCell, wo_bnd, wo_some, wo_map, wo_bind, wo_if, bnd_mk, List.getElem?_cons_zero, List.getElem?_cons_succ, List.set_cons_zero, List.set_cons_succ, Option.map_some, Option.bind_some, gAdd, MS.gSub, gMul, gMod, gDiv, gLt, gLe, gGt, gGe, gI, gNeg, cInt, cI, cII, cAbs, cMax2, cMin2, decide_eq_true_eq, if_true, if_false, List.zip_cons_cons, List.zip_nil_right, List.foldl_cons, List.foldl_nil, List.length_cons, List.length_nil, Nat.zero_add, Nat.reduceAdd, Bool.false_eq_true, decide_true, decide_false, true_and, and_true, true_implies, implies_true, false_implies, not_true_eq_false, D.pureL, D.pure, D.fitL, D.fit, fit_dPair, fit_ints, Bool.and_true, Bool.true_and, Bool.and_self, wo_none, nn_iff, imp_and', and_false, false_and, szOk_0, szOk_1, szOk_2, szOk_3, szOk_4, szOk_5, szOk_6, szOk_7, szOk_8, eqA_int, neA_int, eqA_str, neA_str, eqA_bl, neA_bl, Bool.not_eq_true', Bool.not_true, Bool.not_false, not_false_eq_true, tyOf, isT, String.reduceBEq, Bool.or_false, Bool.false_or, Bool.and_false, Bool.or_true, Bool.true_or, Bool.false_and, fmod_pos (a := c + d) (b := 2) (by decide), h2, n2, d2, ne_eq]
    · rw [if_neg (by rintro (h | h) <;> contradiction)]
      refine wo_seqN fun K k1 => ?_
      simp only [sAsg, sIf, sRet, sRetN, sNil, sPass, sSet, sExpr, sPar, sBrk, sCnt, dC, dVar, dOp, dUn, dIf, dCB, dCalP, dCalM, dMeth, dMeth0, dAnd, dOr, dNot, dIsi, aNil, aCons, asB, tbAnd, tbOr, tbNot, dChain, gN, gOf, nN, nT, nsCons, nsNil, dTup, dLst, dCell, wo_bnd, wo_some, wo_map, wo_bind, wo_if, bnd_mk, List.getElem?_cons_zero, List.getElem?_cons_succ, List.set_cons_zero, List.set_cons_succ, Option.map_some, Option.bind_some, gAdd, MS.gSub, gMul, gMod, gDiv, gLt, gLe, gGt, gGe, gI, gNeg, cInt, cI, cII, cAbs, cMax2, cMin2, decide_eq_true_eq, if_true, if_false, List.zip_cons_cons, List.zip_nil_right, List.foldl_cons, List.foldl_nil, List.length_cons, List.length_nil, Nat.zero_add, Nat.reduceAdd, Bool.false_eq_true, decide_true, decide_false, true_and, and_true, true_implies, implies_true, false_implies, not_true_eq_false, D.pureL, D.pure, D.fitL, D.fit, fit_dPair, fit_ints, Bool.and_true, Bool.true_and, Bool.and_self, wo_none, nn_iff, imp_and', and_false, false_and, szOk_0, szOk_1, szOk_2, szOk_3, szOk_4, szOk_5, szOk_6, szOk_7, szOk_8, eqA_int, neA_int, eqA_str, neA_str, eqA_bl, neA_bl, Bool.not_eq_true', Bool.not_true, Bool.not_false, not_false_eq_true, tyOf, isT, String.reduceBEq, Bool.or_false, Bool.false_or, Bool.and_false, Bool.or_true, Bool.true_or, Bool.false_and, fmod_pos (a := c + d) (b := 2) (by decide), h2, n2, d2, ne_eq]
      refine k1 _ _ ?_
      clear k1
      simp only [sAsg, sIf, sRet, sRetN, sNil, sPass, sSet, sExpr, sPar, sBrk, sCnt, dC, dVar, dOp, dUn, dIf, dCB, dCalP, dCalM, dMeth, dMeth0, dAnd, dOr, dNot, dIsi, aNil, aCons, asB, tbAnd, tbOr, tbNot, dChain, gN, gOf, nN, nT, nsCons, nsNil, dTup, dLst, dCell, wo_bnd, wo_some, wo_map, wo_bind, wo_if, bnd_mk, List.getElem?_cons_zero, List.getElem?_cons_succ, List.set_cons_zero, List.set_cons_succ, Option.map_some, Option.bind_some, gAdd, MS.gSub, gMul, gMod, gDiv, gLt, gLe, gGt, gGe, gI, gNeg, cInt, cI, cII, cAbs, cMax2, cMin2, decide_eq_true_eq, if_true, if_false, List.zip_cons_cons, List.zip_nil_right, List.foldl_cons, List.foldl_nil, List.length_cons, List.length_nil, Nat.zero_add, Nat.reduceAdd, Bool.false_eq_true, decide_true, decide_false, true_and, and_true, true_implies, implies_true, false_implies, not_true_eq_false, D.pureL, D.pure, D.fitL, D.fit, fit_dPair, fit_ints, Bool.and_true, Bool.true_and, Bool.and_self, wo_none, nn_iff, imp_and', and_false, false_and, szOk_0, szOk_1, szOk_2, szOk_3, szOk_4, szOk_5, szOk_6, szOk_7, szOk_8, eqA_int, neA_int, eqA_str, neA_str, eqA_bl, neA_bl, Bool.not_eq_true', Bool.not_true, Bool.not_false, not_false_eq_true, tyOf, isT, String.reduceBEq, Bool.or_false, Bool.false_or, Bool.and_false, Bool.or_true, Bool.true_or, Bool.false_and, fdiv_pos (b := 2) (show (0 : Int) < 2 by decide), n2, d2, ne_eq]
theorem shaped_t4 (x y z w : Int) : SeqAt.shaped (D.dat (t4 x y z w)) = true := rfl
theorem cmp_t4 {neg : Bool} {S : Sto} (x y z w : Int) : gCmpA neg (t4 x y z w) (t4 x y z w) S = some (.bl (!neg), S) := by
  have e1 : datS S (t4 x y z w) = some (D.dat (t4 x y z w)) := datS_pure rfl
  show gCmpD neg (t4 x y z w) (t4 x y z w) S = _
  unfold gCmpD
  rw [e1]
  have e2 : PyData.eqv (D.dat (t4 x y z w)) (D.dat (t4 x y z w)) = true := SeqAt.eqv_refl _ rfl
  simp only [shaped_t4, Bool.and_self, if_true, e2, Bool.not_true]
  cases neg <;> rfl
theorem eq_t4 {S : Sto} (x y z w : Int) : gEqA (t4 x y z w) (t4 x y z w) S = some (.bl true, S) := cmp_t4 x y z w
theorem ne_t4 {S : Sto} (x y z w : Int) : gNeA (t4 x y z w) (t4 x y z w) S = some (.bl false, S) := cmp_t4 x y z w
theorem repr_t4 {S : Sto} {x y z w : Int} (h : x.natAbs < 2 ^ 64 ∧ y.natAbs < 2 ^ 64 ∧ z.natAbs < 2 ^ 64 ∧ w.natAbs < 2 ^ 64) : cRepr [t4 x y z w] S = some (.str (shownD (t4 x y z w)), S) :=
  repr_ints (ns := [x, y, z, w]) (by
    intro i hi
    simp only [List.mem_cons, List.not_mem_nil, or_false] at hi
    rcases hi with rfl | rfl | rfl | rfl
    · exact h.1
    · exact h.2.1
    · exact h.2.2.1
    · exact h.2.2.2) (by show 4 ≤ _; decide)
/-- the drawn four -/
theorem draw_all {items ds : List D} {ρ : MS.Env} (h1 : ρ[1]? = some (some (.ref 1))) : ∀ {S : Sto}, MS.Drawn S → Wo (lcL (.fix items) (nN 20) tYesD (dOp MS.gSub (dCalM PG.F_n_law_pick (aCons (dVar 1) (aCons (dC (.int 200)) (aNil)))) (dC (.int 100))) ds ρ S) fun p => ∃ xs : List Int, p.1 = xs.map D.int ∧ xs.length = ds.length ∧ ∀ x ∈ xs, -100 ≤ x ∧ x < 100 := by
  induction ds with
  | nil => intro S _; exact ⟨_, rfl, [], rfl, rfl, fun _ h => by cases h⟩
  | cons d ds ih =>
    intro S hS
    have g : (ρ.set 20 (some d))[1]? = some (some (.ref 1)) := by
      rw [List.getElem?_set_ne (by decide)]
      exact h1
    unfold lcL
    rw [if_pos (show Src.ok (.fix items) S = true from rfl)]
    simp only [nN, tYesD, bnd_mk, if_true]
    rw [wo_bnd]
    simp only [dOp, dCalM, aCons, aNil, dVar, dC, g, bnd_mk]
    rw [wo_bnd]
    refine (pick_ok hS (by decide) (by decide)).mono ?_
    rintro ⟨p, S1⟩ ⟨r, hp, r0, r1, hS1, -⟩
    subst hp
    have gs : MS.gSub (.int r) (.int 100) S1 = some (.int (r - 100), S1) := rfl
    simp only [bnd_mk, gs, wo_some]
    rw [wo_bnd]
    refine (ih hS1).mono ?_
    rintro ⟨ys, S2⟩ ⟨xs, hx, hn, hb⟩
    subst hx
    rw [wo_some]
    refine ⟨(r - 100) :: xs, rfl, by simp only [List.length_cons, hn], fun x hx => ?_⟩
    rcases List.mem_cons.mp hx with rfl | hx
    · omega
    · exact hb x hx
end k71

namespace k71
open PySem PySem.Spec PyProof.Rows L2 MS
theorem sqs_list {fi : IDen} {ns : List Int} {ρ : MS.Env} {S : Sto} (hi : fi ρ S = some (.fix (ns.map D.int), S)) (hl : ns.length ≤ 1000) (h21 : 22 ≤ ρ.length) (hb : ∀ i ∈ ns, i.natAbs < 2 ^ 63) : dLc fi (nN 21) (tYesD) (dOp gMul (dVar 21) (dVar 21)) [21] ρ S = some (.fl ((ns.map fun i => i * i).map D.int), S) := by
  rw [List.map_map]
  refine dLc_map (e := D.int) hi (by omega) fun i hi => ⟨_, rfl, ?_⟩
  have g : ((wipeE ρ [21]).set 21 (some (.int i)))[21]? = some (some (.int i)) := List.getElem?_set_self (by show 21 < (ρ.set 21 none).length; rw [List.length_set]; omega)
  have := hb i hi
  have mo : mulOk i i = true := mulOk_l (by omega)
  simp only [sAsg, sIf, sRet, sRetN, sNil, sPass, sSet, sExpr, sPar, sBrk, sCnt, dC, dVar, dOp, dUn, dIf, dCB, dCalP, dCalM, dMeth, dMeth0, dAnd, dOr, dNot, dIsi, aNil, aCons, asB, tbAnd, tbOr, tbNot, dChain, gN, gOf, nN, nT, nsCons, nsNil, dTup, dLst, dCell, wo_bnd, wo_some, wo_map, wo_bind, wo_if, bnd_mk, List.getElem?_cons_zero, List.getElem?_cons_succ, List.set_cons_zero, List.set_cons_succ, Option.map_some, Option.bind_some, gAdd, MS.gSub, gMul, gMod, gDiv, gLt, gLe, gGt, gGe, gI, gNeg, cInt, cI, cII, cAbs, cMax2, cMin2, decide_eq_true_eq, if_true, if_false, List.zip_cons_cons, List.zip_nil_right, List.foldl_cons, List.foldl_nil, List.length_cons, List.length_nil, Nat.zero_add, Nat.reduceAdd, Bool.false_eq_true, decide_true, decide_false, true_and, and_true, true_implies, implies_true, false_implies, not_true_eq_false, D.pureL, D.pure, D.fitL, D.fit, fit_dPair, fit_ints, Bool.and_true, Bool.true_and, Bool.and_self, wo_none, nn_iff, imp_and', and_false, false_and, szOk_0, szOk_1, szOk_2, szOk_3, szOk_4, szOk_5, szOk_6, szOk_7, szOk_8, eqA_int, neA_int, eqA_str, neA_str, eqA_bl, neA_bl, Bool.not_eq_true', Bool.not_true, Bool.not_false, not_false_eq_true, tyOf, isT, String.reduceBEq, Bool.or_false, Bool.false_or, Bool.and_false, Bool.or_true, Bool.true_or, Bool.false_and, g, mo]
  rfl
theorem sums_eq (x y z w : Int) : ([x + y, x - y, z + w, z - w].map fun i => i * i).sum = 2 * ([x, y, z, w].map fun i => i * i).sum := by
  simp only [List.map_cons, List.map_nil, List.sum_cons, List.sum_nil]
  grind
theorem tail {x y z w : Int} (hx : x.natAbs < 1000 ∧ y.natAbs < 1000 ∧ z.natAbs < 1000 ∧ w.natAbs < 1000) {a0 a1 a2 a3 a4 a6 a7 a8 a9 a10 a11 a12 a13 a14 a15 a16 a17 a18 a19 a20 a21 : Option D} {S : Sto} : Wo ((sSeq (sAsg (dVar 5) (gOf (nT 4 (nsCons (nN 6) (nsCons (nN 15) (nsCons (nN 16) (nsCons (nN 17) (nsNil)))))))) <| sSeq (sIf (tbOr (asB (dOp gNeA (dCB cRepr (aCons (dCalP F_doubled (aCons (dVar 5) (aNil))) (aNil))) (dCB cRepr (aCons (dTup (aCons (dOp gAdd (dVar 6) (dVar 15)) (aCons (dOp gSub (dVar 6) (dVar 15)) (aCons (dOp gAdd (dVar 16) (dVar 17)) (aCons (dOp gSub (dVar 16) (dVar 17)) (aNil)))))) (aNil))))) (asB (dOp gNeA (dCalP F_halved (aCons (dCalP F_doubled (aCons (dVar 5) (aNil))) (aNil))) (dVar 5)))) (sRet (dC (.bl false))) (sNil)) <| sSeq (sIf (asB (dOp gNeA (dCB cSumA (aCons (dLc (iSeq (dCalP F_doubled (aCons (dVar 5) (aNil)))) (nN 21) (tYesD) (dOp gMul (dVar 21) (dVar 21)) [21]) (aNil))) (dOp gMul (dC (.int 2)) (dCB cSumA (aCons (dLc (iSeq (dVar 5)) (nN 21) (tYesD) (dOp gMul (dVar 21) (dVar 21)) [21]) (aNil)))))) (sRet (dC (.bl false))) (sNil)) <| sSeq (sAsg (dCalP F_halved (aCons (dVar 5) (aNil))) (gN 11)) <| sSeq (sAsg (dAnd (dOp gEqA (dOp gMod (dCB cInt (aCons (dOp gSub (dVar 6) (dVar 15)) (aNil))) (dC (.int 2))) (dC (.int 0))) (dOp gEqA (dOp gMod (dCB cInt (aCons (dOp gSub (dVar 16) (dVar 17)) (aNil))) (dC (.int 2))) (dC (.int 0)))) (gN 12)) <| sRet (dAnd (dOp gEqA (dOp gNotN (dVar 11) (dC .non)) (dVar 12)) (dOr (dOp gIsN (dVar 11) (dC .non)) (dOp gEqA (dCalP F_doubled (aCons (dVar 11) (aNil))) (dVar 5))))) [a0, a1, a2, a3, a4, some (t4 x y z w), a6, a7, a8, a9, a10, a11, a12, a13, a14, a15, a16, a17, a18, a19, a20, a21] S) fun r => r.1 = .rt (.bl true) := by
  refine wo_step (ρ' := [a0, a1, a2, a3, a4, some (t4 x y z w), some (.int x), a7, a8, a9, a10, a11, a12, a13, a14, some (.int y), some (.int z), some (.int w), a18, a19, a20, a21]) (S' := S) rfl ?_
  have d1 := doubled_ok x y z w
  have d2 : F_halved [t4 (x + y) (x - y) (z + w) (z - w)] = some (t4 x y z w) := by
    rw [halved_ok, if_neg (by omega), show (x + y + (x - y)) / 2 = x by omega, show (x + y - (x - y)) / 2 = y by omega, show (z + w + (z - w)) / 2 = z by omega, show (z + w - (z - w)) / 2 = w by omega]
  have d3 : ∀ S, cRepr [t4 (x + y) (x - y) (z + w) (z - w)] S = some (.str (shownD (t4 (x + y) (x - y) (z + w) (z - w))), S) := fun S => repr_t4 (by omega)
  have d4 : ∀ S, gNeA (t4 x y z w) (t4 x y z w) S = some (.bl false, S) := fun S => ne_t4 x y z w
  have d5 : ∀ S, gEqA (t4 x y z w) (t4 x y z w) S = some (.bl true, S) := fun S => eq_t4 x y z w
  unfold t4 at *
  refine wo_seqN fun K k1 => ?_
  simp only [sAsg, sIf, sRet, sRetN, sNil, sPass, sSet, sExpr, sPar, sBrk, sCnt, dC, dVar, dOp, dUn, dIf, dCB, dCalP, dCalM, dMeth, dMeth0, dAnd, dOr, dNot, dIsi, aNil, aCons, asB, tbAnd, tbOr, tbNot, dChain, gN, gOf, nN, nT, nsCons, nsNil, dTup, dLst, dCell, wo_bnd, wo_some, wo_map, wo_bind, wo_if, bnd_mk, List.getElem?_cons_zero, List.getElem?_cons_succ, List.set_cons_zero, List.set_cons_succ, Option.map_some, Option.bind_some, gAdd, MS.gSub, gMul, gMod, gDiv, gLt, gLe, gGt, gGe, gI, gNeg, cInt, cI, cII, cAbs, cMax2, cMin2, decide_eq_true_eq, if_true, if_false, List.zip_cons_cons, List.zip_nil_right, List.foldl_cons, List.foldl_nil, List.length_cons, List.length_nil, Nat.zero_add, Nat.reduceAdd, Bool.false_eq_true, decide_true, decide_false, true_and, and_true, true_implies, implies_true, false_implies, not_true_eq_false, D.pureL, D.pure, D.fitL, D.fit, fit_dPair, fit_ints, Bool.and_true, Bool.true_and, Bool.and_self, wo_none, nn_iff, imp_and', and_false, false_and, szOk_0, szOk_1, szOk_2, szOk_3, szOk_4, szOk_5, szOk_6, szOk_7, szOk_8, eqA_int, neA_int, eqA_str, neA_str, eqA_bl, neA_bl, Bool.not_eq_true', Bool.not_true, Bool.not_false, not_false_eq_true, tyOf, isT, String.reduceBEq, Bool.or_false, Bool.false_or, Bool.and_false, Bool.or_true, Bool.true_or, Bool.false_and, d1, d2, d3, d4]
  refine k1 _ _ ?_
  clear k1
  refine wo_seqN fun K k1 => ?_
  have l1 : dLc (iSeq (dCalP F_doubled (aCons (dVar 5) (aNil)))) (nN 21) (tYesD) (dOp gMul (dVar 21) (dVar 21)) [21] [a0, a1, a2, a3, a4, some (.tup [.int x, .int y, .int z, .int w]), some (.int x), a7, a8, a9, a10, a11, a12, a13, a14, some (.int y), some (.int z), some (.int w), a18, a19, a20, a21] S = _ := sqs_list (ns := [x + y, x - y, z + w, z - w]) (by
    unfold iSeq
    simp only [sAsg, sIf, sRet, sRetN, sNil, sPass, sSet, sExpr, sPar, sBrk, sCnt, dC, dVar, dOp, dUn, dIf, dCB, dCalP, dCalM, dMeth, dMeth0, dAnd, dOr, dNot, dIsi, aNil, aCons, asB, tbAnd, tbOr, tbNot, dChain, gN, gOf, nN, nT, nsCons, nsNil, dTup, dLst, dCell, wo_bnd, wo_some, wo_map, wo_bind, wo_if, bnd_mk, List.getElem?_cons_zero, List.getElem?_cons_succ, List.set_cons_zero, List.set_cons_succ, Option.map_some, Option.bind_some, gAdd, MS.gSub, gMul, gMod, gDiv, gLt, gLe, gGt, gGe, gI, gNeg, cInt, cI, cII, cAbs, cMax2, cMin2, decide_eq_true_eq, if_true, if_false, List.zip_cons_cons, List.zip_nil_right, List.foldl_cons, List.foldl_nil, List.length_cons, List.length_nil, Nat.zero_add, Nat.reduceAdd, Bool.false_eq_true, decide_true, decide_false, true_and, and_true, true_implies, implies_true, false_implies, not_true_eq_false, D.pureL, D.pure, D.fitL, D.fit, fit_dPair, fit_ints, Bool.and_true, Bool.true_and, Bool.and_self, wo_none, nn_iff, imp_and', and_false, false_and, szOk_0, szOk_1, szOk_2, szOk_3, szOk_4, szOk_5, szOk_6, szOk_7, szOk_8, eqA_int, neA_int, eqA_str, neA_str, eqA_bl, neA_bl, Bool.not_eq_true', Bool.not_true, Bool.not_false, not_false_eq_true, tyOf, isT, String.reduceBEq, Bool.or_false, Bool.false_or, Bool.and_false, Bool.or_true, Bool.true_or, Bool.false_and, d1]
    rfl) (by show 4 ≤ _; decide) (by show 22 ≤ 22; decide) (by
    intro i hi
    simp only [List.mem_cons, List.not_mem_nil, or_false] at hi
    rcases hi with rfl | rfl | rfl | rfl <;> omega)
  have l2 : dLc (iSeq (dVar 5)) (nN 21) (tYesD) (dOp gMul (dVar 21) (dVar 21)) [21] [a0, a1, a2, a3, a4, some (.tup [.int x, .int y, .int z, .int w]), some (.int x), a7, a8, a9, a10, a11, a12, a13, a14, some (.int y), some (.int z), some (.int w), a18, a19, a20, a21] S = _ := sqs_list (ns := [x, y, z, w]) rfl (by show 4 ≤ _; decide) (by show 22 ≤ 22; decide) (by
    intro i hi
    simp only [List.mem_cons, List.not_mem_nil, or_false] at hi
    rcases hi with rfl | rfl | rfl | rfl <;> omega)
  generalize dLc (iSeq (dCalP F_doubled (aCons (dVar 5) (aNil)))) (nN 21) (tYesD) (dOp gMul (dVar 21) (dVar 21)) [21] = lc1 at l1 ⊢
  generalize dLc (iSeq (dVar 5)) (nN 21) (tYesD) (dOp gMul (dVar 21) (dVar 21)) [21] = lc2 at l2 ⊢
  have s1 : ∀ ns : List Int, cSumA [.fl (ns.map D.int)] S = some (.int ns.sum, S) := fun ns => sum_ints rfl
  have mo : ∀ i : Int, mulOk 2 i = true := fun i => mulOk_l (by decide)
  simp only [sAsg, sIf, sRet, sRetN, sNil, sPass, sSet, sExpr, sPar, sBrk, sCnt, dC, dVar, dOp, dUn, dIf, dCB, dCalP, dCalM, dMeth, dMeth0, dAnd, dOr, dNot, dIsi, aNil, aCons, asB, tbAnd, tbOr, tbNot, dChain, gN, gOf, nN, nT, nsCons, nsNil, dTup, dLst, dCell, wo_bnd, wo_some, wo_map, wo_bind, wo_if, bnd_mk, List.getElem?_cons_zero, List.getElem?_cons_succ, List.set_cons_zero, List.set_cons_succ, Option.map_some, Option.bind_some, gAdd, MS.gSub, gMul, gMod, gDiv, gLt, gLe, gGt, gGe, gI, gNeg, cInt, cI, cII, cAbs, cMax2, cMin2, decide_eq_true_eq, if_true, if_false, List.zip_cons_cons, List.zip_nil_right, List.foldl_cons, List.foldl_nil, List.length_cons, List.length_nil, Nat.zero_add, Nat.reduceAdd, Bool.false_eq_true, decide_true, decide_false, true_and, and_true, true_implies, implies_true, false_implies, not_true_eq_false, D.pureL, D.pure, D.fitL, D.fit, fit_dPair, fit_ints, Bool.and_true, Bool.true_and, Bool.and_self, wo_none, nn_iff, imp_and', and_false, false_and, szOk_0, szOk_1, szOk_2, szOk_3, szOk_4, szOk_5, szOk_6, szOk_7, szOk_8, eqA_int, neA_int, eqA_str, neA_str, eqA_bl, neA_bl, Bool.not_eq_true', Bool.not_true, Bool.not_false, not_false_eq_true, tyOf, isT, String.reduceBEq, Bool.or_false, Bool.false_or, Bool.and_false, Bool.or_true, Bool.true_or, Bool.false_and, l1, l2, s1, mo, sums_eq]
  refine k1 _ _ ?_
  clear k1
  have d6 := halved_ok x y z w
  unfold t4 at d6
  refine wo_seqN fun K k1 => ?_
  simp only [sAsg, sIf, sRet, sRetN, sNil, sPass, sSet, sExpr, sPar, sBrk, sCnt, dC, dVar, dOp, dUn, dIf, dCB, dCalP, dCalM, dMeth, dMeth0, dAnd, dOr, dNot, dIsi, aNil, aCons, asB, tbAnd, tbOr, tbNot, dChain, gN, gOf, nN, nT, nsCons, nsNil, dTup, dLst, dCell, wo_bnd, wo_some, wo_map, wo_bind, wo_if, bnd_mk, List.getElem?_cons_zero, List.getElem?_cons_succ, List.set_cons_zero, List.set_cons_succ, Option.map_some, Option.bind_some, gAdd, MS.gSub, gMul, gMod, gDiv, gLt, gLe, gGt, gGe, gI, gNeg, cInt, cI, cII, cAbs, cMax2, cMin2, decide_eq_true_eq, if_true, if_false, List.zip_cons_cons, List.zip_nil_right, List.foldl_cons, List.foldl_nil, List.length_cons, List.length_nil, Nat.zero_add, Nat.reduceAdd, Bool.false_eq_true, decide_true, decide_false, true_and, and_true, true_implies, implies_true, false_implies, not_true_eq_false, D.pureL, D.pure, D.fitL, D.fit, fit_dPair, fit_ints, Bool.and_true, Bool.true_and, Bool.and_self, wo_none, nn_iff, imp_and', and_false, false_and, szOk_0, szOk_1, szOk_2, szOk_3, szOk_4, szOk_5, szOk_6, szOk_7, szOk_8, eqA_int, neA_int, eqA_str, neA_str, eqA_bl, neA_bl, Bool.not_eq_true', Bool.not_true, Bool.not_false, not_false_eq_true, tyOf, isT, String.reduceBEq, Bool.or_false, Bool.false_or, Bool.and_false, Bool.or_true, Bool.true_or, Bool.false_and, d6]
  refine k1 _ _ ?_
  clear k1
  refine wo_seqN fun K k1 => ?_
  have n2 : (2 : Int) ≠ 0 := by decide
  simp only [sAsg, sIf, sRet, sRetN, sNil, sPass, sSet, sExpr, sPar, sBrk, sCnt, dC, dVar, dOp, dUn, dIf, dCB, dCalP, dCalM, dMeth, dMeth0, dAnd, dOr, dNot, dIsi, aNil, aCons, asB, tbAnd, tbOr, tbNot, dChain, gN, gOf, nN, nT, nsCons, nsNil, dTup, dLst, dCell, wo_bnd, wo_some, wo_map, wo_bind, wo_if, bnd_mk, List.getElem?_cons_zero, List.getElem?_cons_succ, List.set_cons_zero, List.set_cons_succ, Option.map_some, Option.bind_some, gAdd, MS.gSub, gMul, gMod, gDiv, gLt, gLe, gGt, gGe, gI, gNeg, cInt, cI, cII, cAbs, cMax2, cMin2, decide_eq_true_eq, if_true, if_false, List.zip_cons_cons, List.zip_nil_right, List.foldl_cons, List.foldl_nil, List.length_cons, List.length_nil, Nat.zero_add, Nat.reduceAdd, Bool.false_eq_true, decide_true, decide_false, true_and, and_true, true_implies, implies_true, false_implies, not_true_eq_false, D.pureL, D.pure, D.fitL, D.fit, fit_dPair, fit_ints, Bool.and_true, Bool.true_and, Bool.and_self, wo_none, nn_iff, imp_and', and_false, false_and, szOk_0, szOk_1, szOk_2, szOk_3, szOk_4, szOk_5, szOk_6, szOk_7, szOk_8, eqA_int, neA_int, eqA_str, neA_str, eqA_bl, neA_bl, Bool.not_eq_true', Bool.not_true, Bool.not_false, not_false_eq_true, tyOf, isT, String.reduceBEq, Bool.or_false, Bool.false_or, Bool.and_false, Bool.or_true, Bool.true_or, Bool.false_and, n2, ne_eq, fmod_pos (b := 2) (show (0 : Int) < 2 by decide)]
  by_cases h : (x + y) % 2 = 1 ∨ (z + w) % 2 = 1
  · have h' : ¬ (x - y) % 2 = 0 ∨ (¬ ¬ (x - y) % 2 = 0 ∧ ¬ (z - w) % 2 = 0) := by omega
    rw [if_pos h]
    rcases h' with h' | ⟨h1, h2⟩
    · simp only [sAsg, sIf, sRet, sRetN, sNil, sPass, sSet, sExpr, sPar, sBrk, sCnt, dC, dVar, dOp, dUn, dIf, dCB, dCalP, dCalM, dMeth, dMeth0, dAnd, dOr, dNot, dIsi, aNil, aCons, asB, tbAnd, tbOr, tbNot, dChain, gN, gOf, nN, nT, nsCons, nsNil, dTup, dLst, dCell, wo_bnd, wo_some, wo_map, wo_bind, wo_if, bnd_mk, List.getElem?_cons_zero, List.getElem?_cons_succ, List.set_cons_zero, List.set_cons_succ, Option.map_some, Option.bind_some, gAdd, MS.gSub, gMul, gMod, gDiv, gLt, gLe, gGt, gGe, gI, gNeg, cInt, cI, cII, cAbs, cMax2, cMin2, decide_eq_true_eq, if_true, if_false, List.zip_cons_cons, List.zip_nil_right, List.foldl_cons, List.foldl_nil, List.length_cons, List.length_nil, Nat.zero_add, Nat.reduceAdd, Bool.false_eq_true, decide_true, decide_false, true_and, and_true, true_implies, implies_true, false_implies, not_true_eq_false, D.pureL, D.pure, D.fitL, D.fit, fit_dPair, fit_ints, Bool.and_true, Bool.true_and, Bool.and_self, wo_none, nn_iff, imp_and', and_false, false_and, szOk_0, szOk_1, szOk_2, szOk_3, szOk_4, szOk_5, szOk_6, szOk_7, szOk_8, eqA_int, neA_int, eqA_str, neA_str, eqA_bl, neA_bl, Bool.not_eq_true', Bool.not_true, Bool.not_false, not_false_eq_true, tyOf, isT, String.reduceBEq, Bool.or_false, Bool.false_or, Bool.and_false, Bool.or_true, Bool.true_or, Bool.false_and, h']
      refine k1 _ _ ?_
      clear k1
      simp only [sAsg, sIf, sRet, sRetN, sNil, sPass, sSet, sExpr, sPar, sBrk, sCnt, dC, dVar, dOp, dUn, dIf, dCB, dCalP, dCalM, dMeth, dMeth0, dAnd, dOr, dNot, dIsi, aNil, aCons, asB, tbAnd, tbOr, tbNot, dChain, gN, gOf, nN, nT, nsCons, nsNil, dTup, dLst, dCell, wo_bnd, wo_some, wo_map, wo_bind, wo_if, bnd_mk, List.getElem?_cons_zero, List.getElem?_cons_succ, List.set_cons_zero, List.set_cons_succ, Option.map_some, Option.bind_some, gAdd, MS.gSub, gMul, gMod, gDiv, gLt, gLe, gGt, gGe, gI, gNeg, cInt, cI, cII, cAbs, cMax2, cMin2, decide_eq_true_eq, if_true, if_false, List.zip_cons_cons, List.zip_nil_right, List.foldl_cons, List.foldl_nil, List.length_cons, List.length_nil, Nat.zero_add, Nat.reduceAdd, Bool.false_eq_true, decide_true, decide_false, true_and, and_true, true_implies, implies_true, false_implies, not_true_eq_false, D.pureL, D.pure, D.fitL, D.fit, fit_dPair, fit_ints, Bool.and_true, Bool.true_and, Bool.and_self, wo_none, nn_iff, imp_and', and_false, false_and, szOk_0, szOk_1, szOk_2, szOk_3, szOk_4, szOk_5, szOk_6, szOk_7, szOk_8, eqA_int, neA_int, eqA_str, neA_str, eqA_bl, neA_bl, Bool.not_eq_true', Bool.not_true, Bool.not_false, not_false_eq_true, tyOf, isT, String.reduceBEq, Bool.or_false, Bool.false_or, Bool.and_false, Bool.or_true, Bool.true_or, Bool.false_and, gNotN, gIsN, D.isNon]
    · have h1 : (x - y) % 2 = 0 := by omega
      simp only [sAsg, sIf, sRet, sRetN, sNil, sPass, sSet, sExpr, sPar, sBrk, sCnt, dC, dVar, dOp, dUn, dIf, dCB, dCalP, dCalM, dMeth, dMeth0, dAnd, dOr, dNot, dIsi, aNil, aCons, asB, tbAnd, tbOr, tbNot, dChain, gN, gOf, nN, nT, nsCons, nsNil, dTup, dLst, dCell, wo_bnd, wo_some, wo_map, wo_bind, wo_if, bnd_mk, List.getElem?_cons_zero, List.getElem?_cons_succ, List.set_cons_zero, List.set_cons_succ, Option.map_some, Option.bind_some, gAdd, MS.gSub, gMul, gMod, gDiv, gLt, gLe, gGt, gGe, gI, gNeg, cInt, cI, cII, cAbs, cMax2, cMin2, decide_eq_true_eq, if_true, if_false, List.zip_cons_cons, List.zip_nil_right, List.foldl_cons, List.foldl_nil, List.length_cons, List.length_nil, Nat.zero_add, Nat.reduceAdd, Bool.false_eq_true, decide_true, decide_false, true_and, and_true, true_implies, implies_true, false_implies, not_true_eq_false, D.pureL, D.pure, D.fitL, D.fit, fit_dPair, fit_ints, Bool.and_true, Bool.true_and, Bool.and_self, wo_none, nn_iff, imp_and', and_false, false_and, szOk_0, szOk_1, szOk_2, szOk_3, szOk_4, szOk_5, szOk_6, szOk_7, szOk_8, eqA_int, neA_int, eqA_str, neA_str, eqA_bl, neA_bl, Bool.not_eq_true', Bool.not_true, Bool.not_false, not_false_eq_true, tyOf, isT, String.reduceBEq, Bool.or_false, Bool.false_or, Bool.and_false, Bool.or_true, Bool.true_or, Bool.false_and, h1, h2]
      refine k1 _ _ ?_
      clear k1
      simp only [sAsg, sIf, sRet, sRetN, sNil, sPass, sSet, sExpr, sPar, sBrk, sCnt, dC, dVar, dOp, dUn, dIf, dCB, dCalP, dCalM, dMeth, dMeth0, dAnd, dOr, dNot, dIsi, aNil, aCons, asB, tbAnd, tbOr, tbNot, dChain, gN, gOf, nN, nT, nsCons, nsNil, dTup, dLst, dCell, wo_bnd, wo_some, wo_map, wo_bind, wo_if, bnd_mk, List.getElem?_cons_zero, List.getElem?_cons_succ, List.set_cons_zero, List.set_cons_succ, Option.map_some, Option.bind_some, gAdd, MS.gSub, gMul, gMod, gDiv, gLt, gLe, gGt, gGe, gI, gNeg, cInt, cI, cII, cAbs, cMax2, cMin2, decide_eq_true_eq, if_true, if_false, List.zip_cons_cons, List.zip_nil_right, List.foldl_cons, List.foldl_nil, List.length_cons, List.length_nil, Nat.zero_add, Nat.reduceAdd, Bool.false_eq_true, decide_true, decide_false, true_and, and_true, true_implies, implies_true, false_implies, not_true_eq_false, D.pureL, D.pure, D.fitL, D.fit, fit_dPair, fit_ints, Bool.and_true, Bool.true_and, Bool.and_self, wo_none, nn_iff, imp_and', and_false, false_and, szOk_0, szOk_1, szOk_2, szOk_3, szOk_4, szOk_5, szOk_6, szOk_7, szOk_8, eqA_int, neA_int, eqA_str, neA_str, eqA_bl, neA_bl, Bool.not_eq_true', Bool.not_true, Bool.not_false, not_false_eq_true, tyOf, isT, String.reduceBEq, Bool.or_false, Bool.false_or, Bool.and_false, Bool.or_true, Bool.true_or, Bool.false_and, gNotN, gIsN, D.isNon]
  · rw [if_neg h]
    have h1 : (x - y) % 2 = 0 := by omega
    have h2 : (z - w) % 2 = 0 := by omega
    have d7 : F_doubled [t4 ((x + y) / 2) ((x - y) / 2) ((z + w) / 2) ((z - w) / 2)] = some (t4 x y z w) := by
      rw [doubled_ok, show (x + y) / 2 + (x - y) / 2 = x by omega, show (x + y) / 2 - (x - y) / 2 = y by omega, show (z + w) / 2 + (z - w) / 2 = z by omega, show (z + w) / 2 - (z - w) / 2 = w by omega]
    unfold t4 at d7
    simp only [sAsg, sIf, sRet, sRetN, sNil, sPass, sSet, sExpr, sPar, sBrk, sCnt, dC, dVar, dOp, dUn, dIf, dCB, dCalP, dCalM, dMeth, dMeth0, dAnd, dOr, dNot, dIsi, aNil, aCons, asB, tbAnd, tbOr, tbNot, dChain, gN, gOf, nN, nT, nsCons, nsNil, dTup, dLst, dCell, wo_bnd, wo_some, wo_map, wo_bind, wo_if, bnd_mk, List.getElem?_cons_zero, List.getElem?_cons_succ, List.set_cons_zero, List.set_cons_succ, Option.map_some, Option.bind_some, gAdd, MS.gSub, gMul, gMod, gDiv, gLt, gLe, gGt, gGe, gI, gNeg, cInt, cI, cII, cAbs, cMax2, cMin2, decide_eq_true_eq, if_true, if_false, List.zip_cons_cons, List.zip_nil_right, List.foldl_cons, List.foldl_nil, List.length_cons, List.length_nil, Nat.zero_add, Nat.reduceAdd, Bool.false_eq_true, decide_true, decide_false, true_and, and_true, true_implies, implies_true, false_implies, not_true_eq_false, D.pureL, D.pure, D.fitL, D.fit, fit_dPair, fit_ints, Bool.and_true, Bool.true_and, Bool.and_self, wo_none, nn_iff, imp_and', and_false, false_and, szOk_0, szOk_1, szOk_2, szOk_3, szOk_4, szOk_5, szOk_6, szOk_7, szOk_8, eqA_int, neA_int, eqA_str, neA_str, eqA_bl, neA_bl, Bool.not_eq_true', Bool.not_true, Bool.not_false, not_false_eq_true, tyOf, isT, String.reduceBEq, Bool.or_false, Bool.false_or, Bool.and_false, Bool.or_true, Bool.true_or, Bool.false_and, h1, h2]
    refine k1 _ _ ?_
    clear k1
    simp only [sAsg, sIf, sRet, sRetN, sNil, sPass, sSet, sExpr, sPar, sBrk, sCnt, dC, dVar, dOp, dUn, dIf, dCB, dCalP, dCalM, dMeth, dMeth0, dAnd, dOr, dNot, dIsi, aNil, aCons, asB, tbAnd, tbOr, tbNot, dChain, gN, gOf, nN, nT, nsCons, nsNil, dTup, dLst, dCell, wo_bnd, wo_some, wo_map, wo_bind, wo_if, bnd_mk, List.getElem?_cons_zero, List.getElem?_cons_succ, List.set_cons_zero, List.set_cons_succ, Option.map_some, Option.bind_some, gAdd, MS.gSub, gMul, gMod, gDiv, gLt, gLe, gGt, gGe, gI, gNeg, cInt, cI, cII, cAbs, cMax2, cMin2, decide_eq_true_eq, if_true, if_false, List.zip_cons_cons, List.zip_nil_right, List.foldl_cons, List.foldl_nil, List.length_cons, List.length_nil, Nat.zero_add, Nat.reduceAdd, Bool.false_eq_true, decide_true, decide_false, true_and, and_true, true_implies, implies_true, false_implies, not_true_eq_false, D.pureL, D.pure, D.fitL, D.fit, fit_dPair, fit_ints, Bool.and_true, Bool.true_and, Bool.and_self, wo_none, nn_iff, imp_and', and_false, false_and, szOk_0, szOk_1, szOk_2, szOk_3, szOk_4, szOk_5, szOk_6, szOk_7, szOk_8, eqA_int, neA_int, eqA_str, neA_str, eqA_bl, neA_bl, Bool.not_eq_true', Bool.not_true, Bool.not_false, not_false_eq_true, tyOf, isT, String.reduceBEq, Bool.or_false, Bool.false_or, Bool.and_false, Bool.or_true, Bool.true_or, Bool.false_and, gNotN, gIsN, D.isNon, d7, d5]
end k71

namespace k71
open PySem PySem.Spec PyProof.Rows L2 MS
theorem getN_le {b : Nat} : ∀ {l : List (Nat × Nat)} (k : Nat), (∀ p ∈ l, p.2 ≤ b) → getN k l ≤ b
  | [], _, _ => Nat.zero_le _
  | p :: l, k, h => by
    unfold getN
    split
    · exact h p List.mem_cons_self
    · exact getN_le k fun q hq => h q (List.mem_cons_of_mem _ hq)
theorem pairSum_le {b n : Nat} {all : List (Nat × Nat)} (ha : ∀ p ∈ all, p.2 ≤ b) : ∀ {l : List (Nat × Nat)}, (∀ p ∈ l, p.2 ≤ b) → pairSum n all l ≤ b * b * l.length
  | [], _ => Nat.zero_le _
  | p :: l, h => by
    have ih := pairSum_le (n := n) ha (l := l) fun q hq => h q (List.mem_cons_of_mem _ hq)
    have h1 := h p List.mem_cons_self
    have h2 := getN_le (n - p.1) ha
    have h3 := Nat.mul_le_mul h1 h2
    unfold pairSum
    rw [List.length_cons, Nat.mul_add, Nat.mul_one]
    split <;> omega
theorem r2L_le : ∀ r ∈ r2L, r ≤ 16 := by decide +kernel
theorem two_le {n : Nat} : ∀ p ∈ twoN n, p.2 ≤ 16 := fun p hp => r2L_le _ (List.of_mem_zip (a := p.1) (b := p.2) hp).2
theorem two_len (n : Nat) : (twoN n).length ≤ n + 1 := by
  unfold twoN
  rw [List.length_zip, List.length_range]
  omega
theorem four_lt {n : Nat} (hn : n < 200) : pairSum n (twoN n) (twoN n) < 100000 := by
  have h := pairSum_le (n := n) (two_le (n := n)) (two_le (n := n))
  have := two_len n
  omega
theorem get_two : ∀ n ∈ List.range 200, getN n (twoN n) = pairSum n sqN sqN ∧ n ∈ (twoN n).map (·.1) ∧ pairSum n sqN sqN < 1000 := by decide +kernel
theorem look_is {k : Nat} : ∀ {l : List (Nat × Nat)}, k ∈ l.map (·.1) → dlook (kvN l) (.inl (k : Int)) = some (.int (getN k l : Nat))
  | [], h => by cases h
  | p :: l, h => by
    by_cases q : p.1 = k
    · simp [dlook, kvN, getN, q]
    · have q' : ¬ ((p.1 : Int) = (k : Int)) := fun z => q (by omega)
      rw [List.map_cons, List.mem_cons] at h
      have ih := look_is (l := l) (h.resolve_left fun z => q z.symm)
      have e : dlook (kvN (p :: l)) (.inl (k : Int)) = dlook (kvN l) (.inl (k : Int)) := by
        simp [dlook, kvN, List.find?_cons, q']
      rw [e, ih]
      simp [getN, q]
theorem okFour_of {k : Nat} (h : okFour k = true) : F_count_four_squares [.int k] = some (.int (pairSum k (twoN k) (twoN k) : Nat)) := by
  unfold okFour at h
  split at h
  · rename_i a e
    rw [e, of_decide_eq_true h]
  · cases h
theorem fours {k : Nat} (h : k < 200) : F_count_four_squares [.int k] = some (.int (pairSum k (twoN k) (twoN k) : Nat)) := by
  refine okFour_of ?_
  have go : ∀ c : Nat, (∀ k ∈ List.range 20, okFour (k + c) = true) → c ≤ k → k < c + 20 → okFour k = true := fun c hc h1 h2 => by
    have := hc (k - c) (List.mem_range.mpr (by omega))
    rwa [show k - c + c = k by omega] at this
  by_cases h0 : k < 20
  · exact go 0 four0 (by omega) (by omega)
  by_cases h1 : k < 40
  · exact go 20 four1 (by omega) (by omega)
  by_cases h2 : k < 60
  · exact go 40 four2 (by omega) (by omega)
  by_cases h3 : k < 80
  · exact go 60 four3 (by omega) (by omega)
  by_cases h4 : k < 100
  · exact go 80 four4 (by omega) (by omega)
  by_cases h5 : k < 120
  · exact go 100 four5 (by omega) (by omega)
  by_cases h6 : k < 140
  · exact go 120 four6 (by omega) (by omega)
  by_cases h7 : k < 160
  · exact go 140 four7 (by omega) (by omega)
  by_cases h8 : k < 180
  · exact go 160 four8 (by omega) (by omega)
  · exact go 180 four9 (by omega) (by omega)
theorem twos {k : Nat} (h : k < 200) : F_count_two_squares [.int k] = some (.int (pairSum k sqN sqN : Nat)) := by
  have h1 := two_all k (List.mem_range.mpr h)
  have h2 := r2_all k (List.mem_range.mpr h)
  unfold okTwo at h1
  split at h1
  · rename_i a r e e2
    rw [e2] at h2
    rw [e, of_decide_eq_true h1, Option.some.inj h2]
  · cases h1
theorem hass {k : Nat} (h0 : 0 < k) (h : k < 200) : F_has_two_squares [.int k] = some (.bl (decide (0 < ((pairSum k sqN sqN : Nat) : Int)))) := by
  have h1 := has_all (k - 1) (List.mem_range.mpr (by omega))
  have h2 := r2_all k (List.mem_range.mpr h)
  rw [show k - 1 + 1 = k by omega] at h1
  unfold okHas at h1
  split at h1
  · rename_i a r e e2
    rw [e2] at h2
    have h1 : a = decide (0 < r) := by simpa using h1
    rw [e, h1, Option.some.inj h2, show decide (0 < ((pairSum k sqN sqN : Nat) : Int)) = decide (0 < pairSum k sqN sqN) from decide_eq_decide.mpr (by omega)]
  · cases h1
theorem repr_two {S : Sto} {a b : Nat} (ha : a < 1000000) (hb : b < 1000000) : cRepr [.fl [.int a, .int b]] S = some (.str (shownD (.fl [.int a, .int b])), S) := by
  refine cRepr_ok 64 (by decide) (by decide) ?_ (by show (64 + 3) * 2 + 64 + 1 ≤ 16777216; decide) (by show 1 ≤ 62; decide)
  have a1 := log2_of (i := (a : Int)) (k := 64) (by decide) (by omega)
  have a2 := log2_of (i := (b : Int)) (k := 64) (by decide) (by omega)
  show (decide _ && (decide _ && true)) = true
  rw [decide_eq_true a1, decide_eq_true a2]
  rfl
end k71

namespace k71
open PySem PySem.Spec PyProof.Rows L2 MS
theorem part4 {S : Sto} (hS : MS.Drawn S) {a0 a2 a3 a4 a5 a6 a7 a8 a9 a10 a11 a12 a13 a14 a15 a16 a17 a18 a19 a20 a21 : Option D} : Wo ((sSeq (sAsg (dCB cTuple (aCons (dLc (iRange1 (aCons (dC (.int 4)) (aNil))) (nN 20) (tYesD) (dOp gSub (dCalM PG.F_n_law_pick (aCons (dVar 1) (aCons (dC (.int 200)) (aNil)))) (dC (.int 100))) [20]) (aNil))) (gN 5)) <| sSeq (sAsg (dVar 5) (gOf (nT 4 (nsCons (nN 6) (nsCons (nN 15) (nsCons (nN 16) (nsCons (nN 17) (nsNil)))))))) <| sSeq (sIf (tbOr (asB (dOp gNeA (dCB cRepr (aCons (dCalP F_doubled (aCons (dVar 5) (aNil))) (aNil))) (dCB cRepr (aCons (dTup (aCons (dOp gAdd (dVar 6) (dVar 15)) (aCons (dOp gSub (dVar 6) (dVar 15)) (aCons (dOp gAdd (dVar 16) (dVar 17)) (aCons (dOp gSub (dVar 16) (dVar 17)) (aNil)))))) (aNil))))) (asB (dOp gNeA (dCalP F_halved (aCons (dCalP F_doubled (aCons (dVar 5) (aNil))) (aNil))) (dVar 5)))) (sRet (dC (.bl false))) (sNil)) <| sSeq (sIf (asB (dOp gNeA (dCB cSumA (aCons (dLc (iSeq (dCalP F_doubled (aCons (dVar 5) (aNil)))) (nN 21) (tYesD) (dOp gMul (dVar 21) (dVar 21)) [21]) (aNil))) (dOp gMul (dC (.int 2)) (dCB cSumA (aCons (dLc (iSeq (dVar 5)) (nN 21) (tYesD) (dOp gMul (dVar 21) (dVar 21)) [21]) (aNil)))))) (sRet (dC (.bl false))) (sNil)) <| sSeq (sAsg (dCalP F_halved (aCons (dVar 5) (aNil))) (gN 11)) <| sSeq (sAsg (dAnd (dOp gEqA (dOp gMod (dCB cInt (aCons (dOp gSub (dVar 6) (dVar 15)) (aNil))) (dC (.int 2))) (dC (.int 0))) (dOp gEqA (dOp gMod (dCB cInt (aCons (dOp gSub (dVar 16) (dVar 17)) (aNil))) (dC (.int 2))) (dC (.int 0)))) (gN 12)) <| sRet (dAnd (dOp gEqA (dOp gNotN (dVar 11) (dC .non)) (dVar 12)) (dOr (dOp gIsN (dVar 11) (dC .non)) (dOp gEqA (dCalP F_doubled (aCons (dVar 11) (aNil))) (dVar 5))))) [a0, some (.ref 1), a2, a3, a4, a5, a6, a7, a8, a9, a10, a11, a12, a13, a14, a15, a16, a17, a18, a19, a20, a21] S) fun r => r.1 = .rt (.bl true) := by
  refine wo_mid (fun ρ' S' => ∃ x y z w : Int, (x.natAbs < 1000 ∧ y.natAbs < 1000 ∧ z.natAbs < 1000 ∧ w.natAbs < 1000) ∧ ρ' = [a0, some (.ref 1), a2, a3, a4, some (t4 x y z w), a6, a7, a8, a9, a10, a11, a12, a13, a14, a15, a16, a17, a18, a19, a20, a21]) ?_ ?_
  · have hL : Wo (dLc (iRange1 (aCons (dC (.int 4)) (aNil))) (nN 20) (tYesD) (dOp MS.gSub (dCalM PG.F_n_law_pick (aCons (dVar 1) (aCons (dC (.int 200)) (aNil)))) (dC (.int 100))) [20] [a0, some (.ref 1), a2, a3, a4, a5, a6, a7, a8, a9, a10, a11, a12, a13, a14, a15, a16, a17, a18, a19, a20, a21] S) fun p => ∃ x y z w : Int, (x.natAbs < 1000 ∧ y.natAbs < 1000 ∧ z.natAbs < 1000 ∧ w.natAbs < 1000) ∧ p.1 = .fl [.int x, .int y, .int z, .int w] := by
      have hi : iRange1 (aCons (dC (.int 4)) (aNil)) [a0, some (.ref 1), a2, a3, a4, a5, a6, a7, a8, a9, a10, a11, a12, a13, a14, a15, a16, a17, a18, a19, a20, a21] S = some (.fix (upto 0 4), S) := rfl
      unfold dLc
      rw [hi, bnd_mk, wo_bnd]
      refine (draw_all (ds := upto 0 4) (ρ := wipeE [a0, some (.ref 1), a2, a3, a4, a5, a6, a7, a8, a9, a10, a11, a12, a13, a14, a15, a16, a17, a18, a19, a20, a21] [20]) rfl hS).mono ?_
      rintro ⟨ds, S1⟩ ⟨xs, hd, hn, hb⟩
      have hd : ds = xs.map D.int := hd
      subst hd
      match xs, hn, hb with
      | [x, y, z, w], _, hb =>
        have b1 := hb x (by simp)
        have b2 := hb y (by simp)
        have b3 := hb z (by simp)
        have b4 := hb w (by simp)
        simp only [List.map_cons, List.map_nil, szOk_4, if_true, wo_some]
        exact ⟨x, y, z, w, by omega, rfl⟩
    generalize dLc (iRange1 (aCons (dC (.int 4)) (aNil))) (nN 20) (tYesD) (dOp MS.gSub (dCalM PG.F_n_law_pick (aCons (dVar 1) (aCons (dC (.int 200)) (aNil)))) (dC (.int 100))) [20] = lc at hL ⊢
    simp only [sAsg, dCB, aCons, aNil, wo_bnd]
    refine hL.mono ?_
    rintro ⟨d, S1⟩ ⟨x, y, z, w, hb, hd⟩
    have hd : d = .fl [.int x, .int y, .int z, .int w] := hd
    subst hd
    simp only [sAsg, sIf, sRet, sRetN, sNil, sPass, sSet, sExpr, sPar, sBrk, sCnt, dC, dVar, dOp, dUn, dIf, dCB, dCalP, dCalM, dMeth, dMeth0, dAnd, dOr, dNot, dIsi, aNil, aCons, asB, tbAnd, tbOr, tbNot, dChain, gN, gOf, nN, nT, nsCons, nsNil, dTup, dLst, dCell, wo_bnd, wo_some, wo_map, wo_bind, wo_if, bnd_mk, List.getElem?_cons_zero, List.getElem?_cons_succ, List.set_cons_zero, List.set_cons_succ, Option.map_some, Option.bind_some, gAdd, MS.gSub, gMul, gMod, gDiv, gLt, gLe, gGt, gGe, gI, gNeg, cInt, cI, cII, cAbs, cMax2, cMin2, decide_eq_true_eq, if_true, if_false, List.zip_cons_cons, List.zip_nil_right, List.foldl_cons, List.foldl_nil, List.length_cons, List.length_nil, Nat.zero_add, Nat.reduceAdd, Bool.false_eq_true, decide_true, decide_false, true_and, and_true, true_implies, implies_true, false_implies, not_true_eq_false, D.pureL, D.pure, D.fitL, D.fit, fit_dPair, fit_ints, Bool.and_true, Bool.true_and, Bool.and_self, wo_none, nn_iff, imp_and', and_false, false_and, szOk_0, szOk_1, szOk_2, szOk_3, szOk_4, szOk_5, szOk_6, szOk_7, szOk_8, eqA_int, neA_int, eqA_str, neA_str, eqA_bl, neA_bl, Bool.not_eq_true', Bool.not_true, Bool.not_false, not_false_eq_true, tyOf, isT, String.reduceBEq, Bool.or_false, Bool.false_or, Bool.and_false, Bool.or_true, Bool.true_or, Bool.false_and, cTuple, MS.listOf]
    exact ⟨x, y, z, w, hb, rfl⟩
  · rintro ρ' S' ⟨x, y, z, w, hb, rfl⟩
    exact tail hb
theorem part3 {n : Nat} (hn : n < 200) {c0 c1 c2 c3 : C} {a0 a2 a3 a4 a5 a6 a8 a10 a11 a12 a13 a14 a15 a16 a17 a18 a19 a20 a21 : Option D} (hS : MS.Drawn [c0, c1, c2, c3, .dct (kvN (twoN n))]) : Wo ((sSeq (sIf (asB (dOp gNeA (dCB cRepr (aCons (dLst (aCons (dCalP F_count_two_squares (aCons (dVar 7) (aNil))) (aCons (dCalP F_count_four_squares (aCons (dVar 7) (aNil))) (aNil)))) (aNil))) (dCB cRepr (aCons (dLst (aCons (dOp gItem (dVar 9) (dVar 7)) (aCons (dCalM F_n_law_pairs (aCons (dVar 7) (aCons (dVar 9) (aNil)))) (aNil)))) (aNil))))) (sRet (dC (.bl false))) (sNil)) <| sSeq (sIf (tbAnd (asB (dOp gGt (dVar 7) (dC (.int 0)))) (asB (dOp gNeA (dCB cRepr (aCons (dCalP F_has_two_squares (aCons (dVar 7) (aNil))) (aNil))) (dCB cRepr (aCons (dOp gGt (dOp gItem (dVar 9) (dVar 7)) (dC (.int 0))) (aNil)))))) (sRet (dC (.bl false))) (sNil)) <| sSeq (sIf (tbAnd (asB (dOp gGt (dVar 7) (dC (.int 0)))) (asB (dOp gNeA (dCB cRepr (aCons (dCalP F_divisors_of (aCons (dVar 7) (aNil))) (aNil))) (dCB cRepr (aCons (dCB cTuple (aCons (dLc (iRange2 (aCons (dC (.int 1)) (aCons (dOp gAdd (dVar 7) (dC (.int 1))) (aNil)))) (nN 18) (asB (dOp gEqA (dOp gMod (dCB cInt (aCons (dVar 7) (aNil))) (dVar 18)) (dC (.int 0)))) (dVar 18) [18]) (aNil))) (aNil)))))) (sRet (dC (.bl false))) (sNil)) <| sSeq (sAsg (dCB cTuple (aCons (dLc (iRange1 (aCons (dC (.int 4)) (aNil))) (nN 20) (tYesD) (dOp gSub (dCalM PG.F_n_law_pick (aCons (dVar 1) (aCons (dC (.int 200)) (aNil)))) (dC (.int 100))) [20]) (aNil))) (gN 5)) <| sSeq (sAsg (dVar 5) (gOf (nT 4 (nsCons (nN 6) (nsCons (nN 15) (nsCons (nN 16) (nsCons (nN 17) (nsNil)))))))) <| sSeq (sIf (tbOr (asB (dOp gNeA (dCB cRepr (aCons (dCalP F_doubled (aCons (dVar 5) (aNil))) (aNil))) (dCB cRepr (aCons (dTup (aCons (dOp gAdd (dVar 6) (dVar 15)) (aCons (dOp gSub (dVar 6) (dVar 15)) (aCons (dOp gAdd (dVar 16) (dVar 17)) (aCons (dOp gSub (dVar 16) (dVar 17)) (aNil)))))) (aNil))))) (asB (dOp gNeA (dCalP F_halved (aCons (dCalP F_doubled (aCons (dVar 5) (aNil))) (aNil))) (dVar 5)))) (sRet (dC (.bl false))) (sNil)) <| sSeq (sIf (asB (dOp gNeA (dCB cSumA (aCons (dLc (iSeq (dCalP F_doubled (aCons (dVar 5) (aNil)))) (nN 21) (tYesD) (dOp gMul (dVar 21) (dVar 21)) [21]) (aNil))) (dOp gMul (dC (.int 2)) (dCB cSumA (aCons (dLc (iSeq (dVar 5)) (nN 21) (tYesD) (dOp gMul (dVar 21) (dVar 21)) [21]) (aNil)))))) (sRet (dC (.bl false))) (sNil)) <| sSeq (sAsg (dCalP F_halved (aCons (dVar 5) (aNil))) (gN 11)) <| sSeq (sAsg (dAnd (dOp gEqA (dOp gMod (dCB cInt (aCons (dOp gSub (dVar 6) (dVar 15)) (aNil))) (dC (.int 2))) (dC (.int 0))) (dOp gEqA (dOp gMod (dCB cInt (aCons (dOp gSub (dVar 16) (dVar 17)) (aNil))) (dC (.int 2))) (dC (.int 0)))) (gN 12)) <| sRet (dAnd (dOp gEqA (dOp gNotN (dVar 11) (dC .non)) (dVar 12)) (dOr (dOp gIsN (dVar 11) (dC .non)) (dOp gEqA (dCalP F_doubled (aCons (dVar 11) (aNil))) (dVar 5))))) [a0, some (.ref 1), a2, a3, a4, a5, a6, some (.int n), a8, some (.ref 4), a10, a11, a12, a13, a14, a15, a16, a17, a18, a19, a20, a21] [c0, c1, c2, c3, .dct (kvN (twoN n))]) fun r => r.1 = .rt (.bl true) := by
  obtain ⟨g1, g2, g3⟩ := get_two n (List.mem_range.mpr hn)
  have it : gItem (.ref 4) (.int n) [c0, c1, c2, c3, .dct (kvN (twoN n))] = some (.int (pairSum n sqN sqN : Nat), [c0, c1, c2, c3, .dct (kvN (twoN n))]) := by
    have da : dctAt [c0, c1, c2, c3, .dct (kvN (twoN n))] (.ref 4) = some (kvN (twoN n)) := rfl
    unfold gItem
    simp only [da, keyOf, Option.bind_some, look_is g2, g1, Option.map_some]
  have cal : F_n_law_pairs [.int n, .ref 4] [c0, c1, c2, c3, .dct (kvN (twoN n))] = some (.int (pairSum n (twoN n) (twoN n) : Nat), [c0, c1, c2, c3, .dct (kvN (twoN n))]) := pairs_ok rfl (by have := two_len n; omega) fun p hp => by have := two_le p hp; omega
  have f1 := twos hn
  have f2 := fours hn
  have f3 := four_lt hn
  have f4 := fun h0 : 0 < n => hass h0 hn
  have r1 := repr_two (S := [c0, c1, c2, c3, .dct (kvN (twoN n))]) (a := pairSum n sqN sqN) (b := pairSum n (twoN n) (twoN n)) (by omega) (by omega)
  generalize pairSum n (twoN n) (twoN n) = q at *
  generalize pairSum n sqN sqN = r at *
  have df := fun h1 : 1 ≤ n => divs (k := n) h1 (by omega)
  generalize F_count_two_squares = G1 at *
  generalize F_count_four_squares = G2 at *
  generalize F_n_law_pairs = G3 at *
  generalize F_has_two_squares = G4 at *
  generalize F_divisors_of = G5 at *
  refine wo_seqN fun K k1 => ?_
  simp only [sAsg, sIf, sRet, sRetN, sNil, sPass, sSet, sExpr, sPar, sBrk, sCnt, dC, dVar, dOp, dUn, dIf, dCB, dCalP, dCalM, dMeth, dMeth0, dAnd, dOr, dNot, dIsi, aNil, aCons, asB, tbAnd, tbOr, tbNot, dChain, gN, gOf, nN, nT, nsCons, nsNil, dTup, dLst, dCell, wo_bnd, wo_some, wo_map, wo_bind, wo_if, bnd_mk, List.getElem?_cons_zero, List.getElem?_cons_succ, List.set_cons_zero, List.set_cons_succ, Option.map_some, Option.bind_some, gAdd, MS.gSub, gMul, gMod, gDiv, gLt, gLe, gGt, gGe, gI, gNeg, cInt, cI, cII, cAbs, cMax2, cMin2, decide_eq_true_eq, if_true, if_false, List.zip_cons_cons, List.zip_nil_right, List.foldl_cons, List.foldl_nil, List.length_cons, List.length_nil, Nat.zero_add, Nat.reduceAdd, Bool.false_eq_true, decide_true, decide_false, true_and, and_true, true_implies, implies_true, false_implies, not_true_eq_false, D.pureL, D.pure, D.fitL, D.fit, fit_dPair, fit_ints, Bool.and_true, Bool.true_and, Bool.and_self, wo_none, nn_iff, imp_and', and_false, false_and, szOk_0, szOk_1, szOk_2, szOk_3, szOk_4, szOk_5, szOk_6, szOk_7, szOk_8, eqA_int, neA_int, eqA_str, neA_str, eqA_bl, neA_bl, Bool.not_eq_true', Bool.not_true, Bool.not_false, not_false_eq_true, tyOf, isT, String.reduceBEq, Bool.or_false, Bool.false_or, Bool.and_false, Bool.or_true, Bool.true_or, Bool.false_and, f1, f2, it, cal, r1]
  refine k1 _ _ ?_
  clear k1
  have pos : ((0 : Int) < (n : Int)) ↔ 0 < n := by omega
  have r2 : ∀ b S, cRepr [.bl b] S = some (.str (shownD (.bl b)), S) := fun b S => repr_bl
  have dl := fun h1 : 1 ≤ n => divs_look (v := 7) (m := n) (ρ := [a0, some (.ref 1), a2, a3, a4, a5, a6, some (.int n), a8, some (.ref 4), a10, a11, a12, a13, a14, a15, a16, a17, a18, a19, a20, a21]) (S := [c0, c1, c2, c3, .dct (kvN (twoN n))]) h1 (by omega) rfl (by decide) (by show 19 ≤ 22; decide)
  have dr := repr_dv (m := n) (S := [c0, c1, c2, c3, .dct (kvN (twoN n))]) (by omega)
  generalize dLc (iRange2 (aCons (dC (.int 1)) (aCons (dOp gAdd (dVar 7) (dC (.int 1))) (aNil)))) (nN 18) (asB (dOp gEqA (dOp gMod (dCB cInt (aCons (dVar 7) (aNil))) (dVar 18)) (dC (.int 0)))) (dVar 18) [18] = lc at dl ⊢
  generalize shownD (.tup ((dvN n).map intD)) = sh at *
  generalize (dvN n).map intD = L at *
  by_cases h0 : 0 < n
  · have f4 := f4 h0
    have dl := dl h0
    have df := df h0
    refine wo_seqN fun K k1 => ?_
    simp only [sAsg, sIf, sRet, sRetN, sNil, sPass, sSet, sExpr, sPar, sBrk, sCnt, dC, dVar, dOp, dUn, dIf, dCB, dCalP, dCalM, dMeth, dMeth0, dAnd, dOr, dNot, dIsi, aNil, aCons, asB, tbAnd, tbOr, tbNot, dChain, gN, gOf, nN, nT, nsCons, nsNil, dTup, dLst, dCell, wo_bnd, wo_some, wo_map, wo_bind, wo_if, bnd_mk, List.getElem?_cons_zero, List.getElem?_cons_succ, List.set_cons_zero, List.set_cons_succ, Option.map_some, Option.bind_some, gAdd, MS.gSub, gMul, gMod, gDiv, gLt, gLe, gGt, gGe, gI, gNeg, cInt, cI, cII, cAbs, cMax2, cMin2, decide_eq_true_eq, if_true, if_false, List.zip_cons_cons, List.zip_nil_right, List.foldl_cons, List.foldl_nil, List.length_cons, List.length_nil, Nat.zero_add, Nat.reduceAdd, Bool.false_eq_true, decide_true, decide_false, true_and, and_true, true_implies, implies_true, false_implies, not_true_eq_false, D.pureL, D.pure, D.fitL, D.fit, fit_dPair, fit_ints, Bool.and_true, Bool.true_and, Bool.and_self, wo_none, nn_iff, imp_and', and_false, false_and, szOk_0, szOk_1, szOk_2, szOk_3, szOk_4, szOk_5, szOk_6, szOk_7, szOk_8, eqA_int, neA_int, eqA_str, neA_str, eqA_bl, neA_bl, Bool.not_eq_true', Bool.not_true, Bool.not_false, not_false_eq_true, tyOf, isT, String.reduceBEq, Bool.or_false, Bool.false_or, Bool.and_false, Bool.or_true, Bool.true_or, Bool.false_and, pos, h0, f4, it, r2]
    refine k1 _ _ ?_
    clear k1
    refine wo_step (if_nil ((and_go (by simp only [sAsg, sIf, sRet, sRetN, sNil, sPass, sSet, sExpr, sPar, sBrk, sCnt, dC, dVar, dOp, dUn, dIf, dCB, dCalP, dCalM, dMeth, dMeth0, dAnd, dOr, dNot, dIsi, aNil, aCons, asB, tbAnd, tbOr, tbNot, dChain, gN, gOf, nN, nT, nsCons, nsNil, dTup, dLst, dCell, wo_bnd, wo_some, wo_map, wo_bind, wo_if, bnd_mk, List.getElem?_cons_zero, List.getElem?_cons_succ, List.set_cons_zero, List.set_cons_succ, Option.map_some, Option.bind_some, gAdd, MS.gSub, gMul, gMod, gDiv, gLt, gLe, gGt, gGe, gI, gNeg, cInt, cI, cII, cAbs, cMax2, cMin2, decide_eq_true_eq, if_true, if_false, List.zip_cons_cons, List.zip_nil_right, List.foldl_cons, List.foldl_nil, List.length_cons, List.length_nil, Nat.zero_add, Nat.reduceAdd, Bool.false_eq_true, decide_true, decide_false, true_and, and_true, true_implies, implies_true, false_implies, not_true_eq_false, D.pureL, D.pure, D.fitL, D.fit, fit_dPair, fit_ints, Bool.and_true, Bool.true_and, Bool.and_self, wo_none, nn_iff, imp_and', and_false, false_and, szOk_0, szOk_1, szOk_2, szOk_3, szOk_4, szOk_5, szOk_6, szOk_7, szOk_8, eqA_int, neA_int, eqA_str, neA_str, eqA_bl, neA_bl, Bool.not_eq_true', Bool.not_true, Bool.not_false, not_false_eq_true, tyOf, isT, String.reduceBEq, Bool.or_false, Bool.false_or, Bool.and_false, Bool.or_true, Bool.true_or, Bool.false_and, pos, h0])).trans (ne_repr (cal1 rfl rfl df) (call1 dl ctup_fl) dr))) ?_
    exact part4 hS
  · refine wo_seqN fun K k1 => ?_
    simp only [sAsg, sIf, sRet, sRetN, sNil, sPass, sSet, sExpr, sPar, sBrk, sCnt, dC, dVar, dOp, dUn, dIf, dCB, dCalP, dCalM, dMeth, dMeth0, dAnd, dOr, dNot, dIsi, aNil, aCons, asB, tbAnd, tbOr, tbNot, dChain, gN, gOf, nN, nT, nsCons, nsNil, dTup, dLst, dCell, wo_bnd, wo_some, wo_map, wo_bind, wo_if, bnd_mk, List.getElem?_cons_zero, List.getElem?_cons_succ, List.set_cons_zero, List.set_cons_succ, Option.map_some, Option.bind_some, gAdd, MS.gSub, gMul, gMod, gDiv, gLt, gLe, gGt, gGe, gI, gNeg, cInt, cI, cII, cAbs, cMax2, cMin2, decide_eq_true_eq, if_true, if_false, List.zip_cons_cons, List.zip_nil_right, List.foldl_cons, List.foldl_nil, List.length_cons, List.length_nil, Nat.zero_add, Nat.reduceAdd, Bool.false_eq_true, decide_true, decide_false, true_and, and_true, true_implies, implies_true, false_implies, not_true_eq_false, D.pureL, D.pure, D.fitL, D.fit, fit_dPair, fit_ints, Bool.and_true, Bool.true_and, Bool.and_self, wo_none, nn_iff, imp_and', and_false, false_and, szOk_0, szOk_1, szOk_2, szOk_3, szOk_4, szOk_5, szOk_6, szOk_7, szOk_8, eqA_int, neA_int, eqA_str, neA_str, eqA_bl, neA_bl, Bool.not_eq_true', Bool.not_true, Bool.not_false, not_false_eq_true, tyOf, isT, String.reduceBEq, Bool.or_false, Bool.false_or, Bool.and_false, Bool.or_true, Bool.true_or, Bool.false_and, pos, h0]
    refine k1 _ _ ?_
    clear k1
    refine wo_seqN fun K k1 => ?_
    simp only [sAsg, sIf, sRet, sRetN, sNil, sPass, sSet, sExpr, sPar, sBrk, sCnt, dC, dVar, dOp, dUn, dIf, dCB, dCalP, dCalM, dMeth, dMeth0, dAnd, dOr, dNot, dIsi, aNil, aCons, asB, tbAnd, tbOr, tbNot, dChain, gN, gOf, nN, nT, nsCons, nsNil, dTup, dLst, dCell, wo_bnd, wo_some, wo_map, wo_bind, wo_if, bnd_mk, List.getElem?_cons_zero, List.getElem?_cons_succ, List.set_cons_zero, List.set_cons_succ, Option.map_some, Option.bind_some, gAdd, MS.gSub, gMul, gMod, gDiv, gLt, gLe, gGt, gGe, gI, gNeg, cInt, cI, cII, cAbs, cMax2, cMin2, decide_eq_true_eq, if_true, if_false, List.zip_cons_cons, List.zip_nil_right, List.foldl_cons, List.foldl_nil, List.length_cons, List.length_nil, Nat.zero_add, Nat.reduceAdd, Bool.false_eq_true, decide_true, decide_false, true_and, and_true, true_implies, implies_true, false_implies, not_true_eq_false, D.pureL, D.pure, D.fitL, D.fit, fit_dPair, fit_ints, Bool.and_true, Bool.true_and, Bool.and_self, wo_none, nn_iff, imp_and', and_false, false_and, szOk_0, szOk_1, szOk_2, szOk_3, szOk_4, szOk_5, szOk_6, szOk_7, szOk_8, eqA_int, neA_int, eqA_str, neA_str, eqA_bl, neA_bl, Bool.not_eq_true', Bool.not_true, Bool.not_false, not_false_eq_true, tyOf, isT, String.reduceBEq, Bool.or_false, Bool.false_or, Bool.and_false, Bool.or_true, Bool.true_or, Bool.false_and, pos, h0]
    refine k1 _ _ ?_
    clear k1
    exact part4 hS
end k71

namespace k71
open PySem PySem.Spec PyProof.Rows L2 MS
theorem sumN_le {b : Nat} : ∀ {l : List Nat}, (∀ x ∈ l, x ≤ b) → sumN l ≤ b * l.length
  | [], _ => Nat.zero_le _
  | x :: l, h => by
    have ih := sumN_le (l := l) fun y hy => h y (List.mem_cons_of_mem _ hy)
    have h1 := h x List.mem_cons_self
    unfold sumN
    rw [List.length_cons, Nat.mul_add, Nat.mul_one]
    omega
theorem dvN_le {m : Nat} : (∀ x ∈ dvN m, x ≤ m) ∧ (dvN m).length ≤ m := by
  unfold dvN
  refine ⟨fun x hx => ?_, ?_⟩
  · obtain ⟨d, hd, rfl⟩ := List.mem_map.mp hx
    have := List.mem_range.mp (List.mem_filter.mp hd).1
    omega
  · rw [List.length_map]
    have := List.length_filter_le (fun d => m % (d + 1) == 0) (List.range m)
    rw [List.length_range] at this
    exact this
theorem drawn_of {c0 c1 : C} {S S' : Sto} (h : MS.Drawn (c0 :: c1 :: S)) : MS.Drawn (c0 :: c1 :: S') := by
  obtain ⟨cs, l, m, t, ⟨hc, hd⟩, hl⟩ := h
  exact ⟨cs, l, m, t, ⟨hc, hd⟩, hl⟩
theorem par_new {L : EDen} {v w : Nat} {d : D} {ρ : MS.Env} {S : Sto} (h : L ρ S = some (d, S)) : sPar [v, w] (aCons L (aCons (dNewD) (aNil))) ρ S = some (.nx, (ρ.set v (some d)).set w (some (.ref S.length)), S ++ [.dct []]) := by
  simp only [sAsg, sIf, sRet, sRetN, sNil, sPass, sSet, sExpr, sPar, sBrk, sCnt, dC, dVar, dOp, dUn, dIf, dCB, dCalP, dCalM, dMeth, dMeth0, dAnd, dOr, dNot, dIsi, aNil, aCons, asB, tbAnd, tbOr, tbNot, dChain, gN, gOf, nN, nT, nsCons, nsNil, dTup, dLst, dCell, wo_bnd, wo_some, wo_map, wo_bind, wo_if, bnd_mk, List.getElem?_cons_zero, List.getElem?_cons_succ, List.set_cons_zero, List.set_cons_succ, Option.map_some, Option.bind_some, gAdd, MS.gSub, gMul, gMod, gDiv, gLt, gLe, gGt, gGe, gI, gNeg, cInt, cI, cII, cAbs, cMax2, cMin2, decide_eq_true_eq, if_true, if_false, List.zip_cons_cons, List.zip_nil_right, List.foldl_cons, List.foldl_nil, List.length_cons, List.length_nil, Nat.zero_add, Nat.reduceAdd, Bool.false_eq_true, decide_true, decide_false, true_and, and_true, true_implies, implies_true, false_implies, not_true_eq_false, D.pureL, D.pure, D.fitL, D.fit, fit_dPair, fit_ints, Bool.and_true, Bool.true_and, Bool.and_self, wo_none, nn_iff, imp_and', and_false, false_and, szOk_0, szOk_1, szOk_2, szOk_3, szOk_4, szOk_5, szOk_6, szOk_7, szOk_8, eqA_int, neA_int, eqA_str, neA_str, eqA_bl, neA_bl, Bool.not_eq_true', Bool.not_true, Bool.not_false, not_false_eq_true, tyOf, isT, String.reduceBEq, Bool.or_false, Bool.false_or, Bool.and_false, Bool.or_true, Bool.true_or, Bool.false_and, h, dNewD]
theorem part2 {m : Nat} {qs : List Nat} (F : MFacts m qs) (h1 : 1 ≤ m) (h2 : m ≤ 27) {c0 c1 : C} (hS : MS.Drawn [c0, c1]) {a0 a3 a4 a5 a6 a7 a8 a9 a10 a11 a12 a13 a14 a15 a16 a17 a18 a19 a20 a21 : Option D} : Wo ((sSeq (sPar [13, 14] (aCons (dLc (iRange3 (aCons (dC (.int 1)) (aCons (dOp gAdd (dOp gMul (dC (.int 2)) (dVar 2)) (dC (.int 2))) (aCons (dC (.int 2)) (aNil))))) (nN 6) (tYesD) (dOp gMul (dVar 6) (dVar 6)) [6]) (aCons (dNewD) (aNil)))) <| sSeq (sFor (iSeq (dVar 13)) (gOf (nN 6)) (f3b_law)) <| sSeq (sIf (asB (dOp gNeA (dCB cRepr (aCons (dCalP F_odd_tuples (aCons (dVar 2) (aNil))) (aNil))) (dCB cRepr (aCons (dCalM F_n_law_pairs (aCons (dOp gMul (dC (.int 4)) (dVar 2)) (aCons (dVar 14) (aNil)))) (aNil))))) (sRet (dC (.bl false))) (sNil)) <| sSeq (sAsg (dCalM PG.F_n_law_pick (aCons (dVar 1) (aCons (dC (.int 200)) (aNil)))) (gN 7)) <| sSeq (sAsg (dDisp [(.inl 0, dC (.int 1))]) (gN 8)) <| sSeq (sFor (iRange2 (aCons (dC (.int 1)) (aCons (dC (.int 15)) (aNil)))) (gOf (nN 6)) (f4b_law)) <| sSeq (sAsg (dNewD) (gN 9)) <| sSeq (sFor (iRange1 (aCons (dOp gAdd (dVar 7) (dC (.int 1))) (aNil))) (gOf (nN 10)) (f5b_law)) <| sSeq (sIf (asB (dOp gNeA (dCB cRepr (aCons (dLst (aCons (dCalP F_count_two_squares (aCons (dVar 7) (aNil))) (aCons (dCalP F_count_four_squares (aCons (dVar 7) (aNil))) (aNil)))) (aNil))) (dCB cRepr (aCons (dLst (aCons (dOp gItem (dVar 9) (dVar 7)) (aCons (dCalM F_n_law_pairs (aCons (dVar 7) (aCons (dVar 9) (aNil)))) (aNil)))) (aNil))))) (sRet (dC (.bl false))) (sNil)) <| sSeq (sIf (tbAnd (asB (dOp gGt (dVar 7) (dC (.int 0)))) (asB (dOp gNeA (dCB cRepr (aCons (dCalP F_has_two_squares (aCons (dVar 7) (aNil))) (aNil))) (dCB cRepr (aCons (dOp gGt (dOp gItem (dVar 9) (dVar 7)) (dC (.int 0))) (aNil)))))) (sRet (dC (.bl false))) (sNil)) <| sSeq (sIf (tbAnd (asB (dOp gGt (dVar 7) (dC (.int 0)))) (asB (dOp gNeA (dCB cRepr (aCons (dCalP F_divisors_of (aCons (dVar 7) (aNil))) (aNil))) (dCB cRepr (aCons (dCB cTuple (aCons (dLc (iRange2 (aCons (dC (.int 1)) (aCons (dOp gAdd (dVar 7) (dC (.int 1))) (aNil)))) (nN 18) (asB (dOp gEqA (dOp gMod (dCB cInt (aCons (dVar 7) (aNil))) (dVar 18)) (dC (.int 0)))) (dVar 18) [18]) (aNil))) (aNil)))))) (sRet (dC (.bl false))) (sNil)) <| sSeq (sAsg (dCB cTuple (aCons (dLc (iRange1 (aCons (dC (.int 4)) (aNil))) (nN 20) (tYesD) (dOp gSub (dCalM PG.F_n_law_pick (aCons (dVar 1) (aCons (dC (.int 200)) (aNil)))) (dC (.int 100))) [20]) (aNil))) (gN 5)) <| sSeq (sAsg (dVar 5) (gOf (nT 4 (nsCons (nN 6) (nsCons (nN 15) (nsCons (nN 16) (nsCons (nN 17) (nsNil)))))))) <| sSeq (sIf (tbOr (asB (dOp gNeA (dCB cRepr (aCons (dCalP F_doubled (aCons (dVar 5) (aNil))) (aNil))) (dCB cRepr (aCons (dTup (aCons (dOp gAdd (dVar 6) (dVar 15)) (aCons (dOp gSub (dVar 6) (dVar 15)) (aCons (dOp gAdd (dVar 16) (dVar 17)) (aCons (dOp gSub (dVar 16) (dVar 17)) (aNil)))))) (aNil))))) (asB (dOp gNeA (dCalP F_halved (aCons (dCalP F_doubled (aCons (dVar 5) (aNil))) (aNil))) (dVar 5)))) (sRet (dC (.bl false))) (sNil)) <| sSeq (sIf (asB (dOp gNeA (dCB cSumA (aCons (dLc (iSeq (dCalP F_doubled (aCons (dVar 5) (aNil)))) (nN 21) (tYesD) (dOp gMul (dVar 21) (dVar 21)) [21]) (aNil))) (dOp gMul (dC (.int 2)) (dCB cSumA (aCons (dLc (iSeq (dVar 5)) (nN 21) (tYesD) (dOp gMul (dVar 21) (dVar 21)) [21]) (aNil)))))) (sRet (dC (.bl false))) (sNil)) <| sSeq (sAsg (dCalP F_halved (aCons (dVar 5) (aNil))) (gN 11)) <| sSeq (sAsg (dAnd (dOp gEqA (dOp gMod (dCB cInt (aCons (dOp gSub (dVar 6) (dVar 15)) (aNil))) (dC (.int 2))) (dC (.int 0))) (dOp gEqA (dOp gMod (dCB cInt (aCons (dOp gSub (dVar 16) (dVar 17)) (aNil))) (dC (.int 2))) (dC (.int 0)))) (gN 12)) <| sRet (dAnd (dOp gEqA (dOp gNotN (dVar 11) (dC .non)) (dVar 12)) (dOr (dOp gIsN (dVar 11) (dC .non)) (dOp gEqA (dCalP F_doubled (aCons (dVar 11) (aNil))) (dVar 5))))) [a0, some (.ref 1), some (.int m), a3, a4, a5, a6, a7, a8, a9, a10, a11, a12, a13, a14, a15, a16, a17, a18, a19, a20, a21] [c0, c1]) fun r => r.1 = .rt (.bl true) := by
  refine wo_step (par_new (odd_list h2 (ρ := [a0, some (.ref 1), some (.int m), a3, a4, a5, a6, a7, a8, a9, a10, a11, a12, a13, a14, a15, a16, a17, a18, a19, a20, a21]) rfl (by show 7 ≤ 22; decide))) ?_
  refine wo_seqN fun K k1 => ?_
  have ol : (oddSq m).length ≤ 100 := by
    unfold oddSq
    rw [List.length_map, List.length_range]
    omega
  refine outer (c0 := c0) (c1 := c1) (a1 := some (.ref 1)) (a2 := some (.int m)) ol fun b6 b15 => ?_
  refine k1 _ _ ?_
  clear k1
  refine wo_seqN fun K k1 => ?_
  have t1 := odd_tuples h1 (by omega)
  have sb : sumN (dvN m) ≤ 729 := by
    have a := sumN_le (dvN_le (m := m)).1
    have b := (dvN_le (m := m)).2
    have c : m * (dvN m).length ≤ 27 * 27 := Nat.mul_le_mul h2 (by omega)
    omega
  have cal : F_n_law_pairs [.int (4 * (m : Int)), .ref 2] [c0, c1, .dct (kvN (incOuter (oddSq m) (oddSq m) []))] = some (.int (sumN (dvN m) : Nat), [c0, c1, .dct (kvN (incOuter (oddSq m) (oddSq m) []))]) := by
    rw [← F.pr, show (4 * (m : Int)) = ((4 * m : Nat) : Int) by omega]
    refine pairs_ok (l := pairsN m) rfl (by have := F.pl.1; omega) fun p hp => ?_
    have := of_decide_eq_true (List.all_eq_true.mp F.pl.2 p hp)
    omega
  have mo : mulOk 4 (m : Int) = true := mulOk_l (by decide)
  have ri := repr_int (S := [c0, c1, .dct (kvN (incOuter (oddSq m) (oddSq m) []))]) (i := (sumN (dvN m) : Nat)) (by omega)
  simp only [sAsg, sIf, sRet, sRetN, sNil, sPass, sSet, sExpr, sPar, sBrk, sCnt, dC, dVar, dOp, dUn, dIf, dCB, dCalP, dCalM, dMeth, dMeth0, dAnd, dOr, dNot, dIsi, aNil, aCons, asB, tbAnd, tbOr, tbNot, dChain, gN, gOf, nN, nT, nsCons, nsNil, dTup, dLst, dCell, wo_bnd, wo_some, wo_map, wo_bind, wo_if, bnd_mk, List.getElem?_cons_zero, List.getElem?_cons_succ, List.set_cons_zero, List.set_cons_succ, Option.map_some, Option.bind_some, gAdd, MS.gSub, gMul, gMod, gDiv, gLt, gLe, gGt, gGe, gI, gNeg, cInt, cI, cII, cAbs, cMax2, cMin2, decide_eq_true_eq, if_true, if_false, List.zip_cons_cons, List.zip_nil_right, List.foldl_cons, List.foldl_nil, List.length_cons, List.length_nil, Nat.zero_add, Nat.reduceAdd, Bool.false_eq_true, decide_true, decide_false, true_and, and_true, true_implies, implies_true, false_implies, not_true_eq_false, D.pureL, D.pure, D.fitL, D.fit, fit_dPair, fit_ints, Bool.and_true, Bool.true_and, Bool.and_self, wo_none, nn_iff, imp_and', and_false, false_and, szOk_0, szOk_1, szOk_2, szOk_3, szOk_4, szOk_5, szOk_6, szOk_7, szOk_8, eqA_int, neA_int, eqA_str, neA_str, eqA_bl, neA_bl, Bool.not_eq_true', Bool.not_true, Bool.not_false, not_false_eq_true, tyOf, isT, String.reduceBEq, Bool.or_false, Bool.false_or, Bool.and_false, Bool.or_true, Bool.true_or, Bool.false_and, t1, cal, mo, ri]
  refine k1 _ _ ?_
  clear k1
  generalize C.dct (kvN (incOuter (oddSq m) (oddSq m) [])) = c2
  refine wo_mid (fun ρ' S' => ∃ n : Nat, n < 200 ∧ ∃ c0 c1, S' = [c0, c1, c2] ∧ MS.Drawn [c0, c1, c2] ∧ ρ' = [a0, some (.ref 1), some (.int m), a3, a4, a5, b6, some (.int n), a8, a9, a10, a11, a12, some (.fl ((oddSq m).map intD)), some (.ref 2), b15, a16, a17, a18, a19, a20, a21]) ?_ ?_
  · simp only [sAsg, sIf, sRet, sRetN, sNil, sPass, sSet, sExpr, sPar, sBrk, sCnt, dC, dVar, dOp, dUn, dIf, dCB, dCalP, dCalM, dMeth, dMeth0, dAnd, dOr, dNot, dIsi, aNil, aCons, asB, tbAnd, tbOr, tbNot, dChain, gN, gOf, nN, nT, nsCons, nsNil, dTup, dLst, dCell, wo_bnd, wo_some, wo_map, wo_bind, wo_if, bnd_mk, List.getElem?_cons_zero, List.getElem?_cons_succ, List.set_cons_zero, List.set_cons_succ, Option.map_some, Option.bind_some, gAdd, MS.gSub, gMul, gMod, gDiv, gLt, gLe, gGt, gGe, gI, gNeg, cInt, cI, cII, cAbs, cMax2, cMin2, decide_eq_true_eq, if_true, if_false, List.zip_cons_cons, List.zip_nil_right, List.foldl_cons, List.foldl_nil, List.length_cons, List.length_nil, Nat.zero_add, Nat.reduceAdd, Bool.false_eq_true, decide_true, decide_false, true_and, and_true, true_implies, implies_true, false_implies, not_true_eq_false, D.pureL, D.pure, D.fitL, D.fit, fit_dPair, fit_ints, Bool.and_true, Bool.true_and, Bool.and_self, wo_none, nn_iff, imp_and', and_false, false_and, szOk_0, szOk_1, szOk_2, szOk_3, szOk_4, szOk_5, szOk_6, szOk_7, szOk_8, eqA_int, neA_int, eqA_str, neA_str, eqA_bl, neA_bl, Bool.not_eq_true', Bool.not_true, Bool.not_false, not_false_eq_true, tyOf, isT, String.reduceBEq, Bool.or_false, Bool.false_or, Bool.and_false, Bool.or_true, Bool.true_or, Bool.false_and]
    refine (pick_ok (drawn_of hS) (by decide) (by decide)).mono ?_
    rintro ⟨d, S1⟩ ⟨r, hd, r0, r1, hS1, hl, hs⟩
    have hd : d = .int r := hd
    subst hd
    have hl : S1.length = 3 := hl
    have hs2 : S1[2]? = some c2 := hs 2 (by decide)
    match S1, hl, hs2, hS1 with
    | [e0, e1, e2], _, hs2, hS1 =>
      cases hs2
      refine ⟨r.toNat, by omega, e0, e1, rfl, hS1, ?_⟩
      rw [show ((r.toNat : Nat) : Int) = r by omega]
  · rintro ρ' S' ⟨n, hn, c0, c1, rfl, hS, rfl⟩
    refine wo_step (ρ' := [a0, some (.ref 1), some (.int m), a3, a4, a5, b6, some (.int n), some (.ref 3), a9, a10, a11, a12, some (.fl ((oddSq m).map intD)), some (.ref 2), b15, a16, a17, a18, a19, a20, a21]) (S' := [c0, c1, c2, .dct [(.inl 0, .int 1)]]) rfl ?_
    refine wo_seqN fun K k1 => ?_
    refine sqloop (a1 := some (.ref 1)) fun b6 => ?_
    refine k1 _ _ ?_
    clear k1
    refine wo_step (ρ' := [a0, some (.ref 1), some (.int m), a3, a4, a5, b6, some (.int n), some (.ref 3), some (.ref 4), a10, a11, a12, some (.fl ((oddSq m).map intD)), some (.ref 2), b15, a16, a17, a18, a19, a20, a21]) (S' := [c0, c1, c2, .dct (kvN sqN), .dct []]) rfl ?_
    refine wo_seqN fun K k1 => ?_
    refine twloop hn (a1 := some (.ref 1)) fun b10 => ?_
    refine k1 _ _ ?_
    clear k1
    exact part3 hn (drawn_of hS)
theorem law_true (ns : List Int) (h : ns.length ≤ 63) : F_law [.rl (ns.map D.int)] = some (.bl true) := by
  refine bodyP_run rfl rfl ?_
  show Wo (b_law [some (.rl (ns.map D.int)), none, none, none, none, none, none, none, none, none, none, none, none, none, none, none, none, none, none, none, none, none] []) _
  have hs := src_ok h
  generalize D.rl (ns.map D.int) = sc at *
  unfold b_law
  refine wo_mid (fun ρ' S' => ρ' = [some sc, some (.ref 1), none, none, none, none, none, none, none, none, none, none, none, none, none, none, none, none, none, none, none, none] ∧ MS.Drawn S' ∧ S'.length = 2) ?_ ?_
  · simp only [sAsg, sIf, sRet, sRetN, sNil, sPass, sSet, sExpr, sPar, sBrk, sCnt, dC, dVar, dOp, dUn, dIf, dCB, dCalP, dCalM, dMeth, dMeth0, dAnd, dOr, dNot, dIsi, aNil, aCons, asB, tbAnd, tbOr, tbNot, dChain, gN, gOf, nN, nT, nsCons, nsNil, dTup, dLst, dCell, wo_bnd, wo_some, wo_map, wo_bind, wo_if, bnd_mk, List.getElem?_cons_zero, List.getElem?_cons_succ, List.set_cons_zero, List.set_cons_succ, Option.map_some, Option.bind_some, gAdd, MS.gSub, gMul, gMod, gDiv, gLt, gLe, gGt, gGe, gI, gNeg, cInt, cI, cII, cAbs, cMax2, cMin2, decide_eq_true_eq, if_true, if_false, List.zip_cons_cons, List.zip_nil_right, List.foldl_cons, List.foldl_nil, List.length_cons, List.length_nil, Nat.zero_add, Nat.reduceAdd, Bool.false_eq_true, decide_true, decide_false, true_and, and_true, true_implies, implies_true, false_implies, not_true_eq_false, D.pureL, D.pure, D.fitL, D.fit, fit_dPair, fit_ints, Bool.and_true, Bool.true_and, Bool.and_self, wo_none, nn_iff, imp_and', and_false, false_and, szOk_0, szOk_1, szOk_2, szOk_3, szOk_4, szOk_5, szOk_6, szOk_7, szOk_8, eqA_int, neA_int, eqA_str, neA_str, eqA_bl, neA_bl, Bool.not_eq_true', Bool.not_true, Bool.not_false, not_false_eq_true, tyOf, isT, String.reduceBEq, Bool.or_false, Bool.false_or, Bool.and_false, Bool.or_true, Bool.true_or, Bool.false_and]
    refine hs.mono ?_
    rintro ⟨d, S1⟩ ⟨rfl, hS, hl⟩
    exact ⟨rfl, hS, hl⟩
  rintro ρ' S1 ⟨rfl, hS1, hl1⟩
  refine wo_mid (fun ρ' S' => ∃ r : Nat, r < 14 ∧ ρ' = [some sc, some (.ref 1), some (.int (1 + 2 * r : Nat)), none, none, none, none, none, none, none, none, none, none, none, none, none, none, none, none, none, none, none] ∧ MS.Drawn S' ∧ S'.length = 2) ?_ ?_
  · simp only [sAsg, sIf, sRet, sRetN, sNil, sPass, sSet, sExpr, sPar, sBrk, sCnt, dC, dVar, dOp, dUn, dIf, dCB, dCalP, dCalM, dMeth, dMeth0, dAnd, dOr, dNot, dIsi, aNil, aCons, asB, tbAnd, tbOr, tbNot, dChain, gN, gOf, nN, nT, nsCons, nsNil, dTup, dLst, dCell, wo_bnd, wo_some, wo_map, wo_bind, wo_if, bnd_mk, List.getElem?_cons_zero, List.getElem?_cons_succ, List.set_cons_zero, List.set_cons_succ, Option.map_some, Option.bind_some, gAdd, MS.gSub, gMul, gMod, gDiv, gLt, gLe, gGt, gGe, gI, gNeg, cInt, cI, cII, cAbs, cMax2, cMin2, decide_eq_true_eq, if_true, if_false, List.zip_cons_cons, List.zip_nil_right, List.foldl_cons, List.foldl_nil, List.length_cons, List.length_nil, Nat.zero_add, Nat.reduceAdd, Bool.false_eq_true, decide_true, decide_false, true_and, and_true, true_implies, implies_true, false_implies, not_true_eq_false, D.pureL, D.pure, D.fitL, D.fit, fit_dPair, fit_ints, Bool.and_true, Bool.true_and, Bool.and_self, wo_none, nn_iff, imp_and', and_false, false_and, szOk_0, szOk_1, szOk_2, szOk_3, szOk_4, szOk_5, szOk_6, szOk_7, szOk_8, eqA_int, neA_int, eqA_str, neA_str, eqA_bl, neA_bl, Bool.not_eq_true', Bool.not_true, Bool.not_false, not_false_eq_true, tyOf, isT, String.reduceBEq, Bool.or_false, Bool.false_or, Bool.and_false, Bool.or_true, Bool.true_or, Bool.false_and]
    refine (pick_ok hS1 (by decide) (by decide)).mono ?_
    rintro ⟨d, S2⟩ ⟨r, hd, r0, r1, hS2, hl2, -⟩
    have hd : d = .int r := hd
    subst hd
    have mo : mulOk 2 r = true := mulOk_l (by decide)
    simp only [sAsg, sIf, sRet, sRetN, sNil, sPass, sSet, sExpr, sPar, sBrk, sCnt, dC, dVar, dOp, dUn, dIf, dCB, dCalP, dCalM, dMeth, dMeth0, dAnd, dOr, dNot, dIsi, aNil, aCons, asB, tbAnd, tbOr, tbNot, dChain, gN, gOf, nN, nT, nsCons, nsNil, dTup, dLst, dCell, wo_bnd, wo_some, wo_map, wo_bind, wo_if, bnd_mk, List.getElem?_cons_zero, List.getElem?_cons_succ, List.set_cons_zero, List.set_cons_succ, Option.map_some, Option.bind_some, gAdd, MS.gSub, gMul, gMod, gDiv, gLt, gLe, gGt, gGe, gI, gNeg, cInt, cI, cII, cAbs, cMax2, cMin2, decide_eq_true_eq, if_true, if_false, List.zip_cons_cons, List.zip_nil_right, List.foldl_cons, List.foldl_nil, List.length_cons, List.length_nil, Nat.zero_add, Nat.reduceAdd, Bool.false_eq_true, decide_true, decide_false, true_and, and_true, true_implies, implies_true, false_implies, not_true_eq_false, D.pureL, D.pure, D.fitL, D.fit, fit_dPair, fit_ints, Bool.and_true, Bool.true_and, Bool.and_self, wo_none, nn_iff, imp_and', and_false, false_and, szOk_0, szOk_1, szOk_2, szOk_3, szOk_4, szOk_5, szOk_6, szOk_7, szOk_8, eqA_int, neA_int, eqA_str, neA_str, eqA_bl, neA_bl, Bool.not_eq_true', Bool.not_true, Bool.not_false, not_false_eq_true, tyOf, isT, String.reduceBEq, Bool.or_false, Bool.false_or, Bool.and_false, Bool.or_true, Bool.true_or, Bool.false_and, mo]
    refine ⟨r.toNat, by omega, ?_, hS2, by rw [hl2, hl1]⟩
    rw [show ((1 + 2 * r.toNat : Nat) : Int) = 1 + 2 * r by omega]
  rintro ρ' S2 ⟨r, hr, rfl, hS2, hl2⟩
  obtain ⟨qs, F⟩ := m_all r hr
  have m1 : 1 ≤ 1 + 2 * r := by omega
  have m2 : 1 + 2 * r ≤ 27 := by omega
  generalize 1 + 2 * r = m at *
  clear hS1 hl1 hr hs
  match S2, hl2, hS2 with
  | [c0, c1], _, hS2 =>
  have fq := F.q
  refine wo_step (ρ' := [some sc, some (.ref 1), some (.int m), some (.fl (qs.map encQ)), none, none, none, none, none, none, none, none, none, none, none, none, none, none, none, none, none, none]) (S' := [c0, c1]) (asg (cal1 rfl rfl fq)) ?_
  have dl := divs_look (v := 2) (m := m) (ρ := [some sc, some (.ref 1), some (.int m), some (.fl (qs.map encQ)), none, none, none, none, none, none, none, none, none, none, none, none, none, none, none, none, none, none]) (S := [c0, c1]) m1 (by omega) rfl (by decide) (by show 19 ≤ 22; decide)
  refine wo_step (ρ' := [some sc, some (.ref 1), some (.int m), some (.fl (qs.map encQ)), some (.fl ((dvN m).map intD)), none, none, none, none, none, none, none, none, none, none, none, none, none, none, none, none, none]) (S' := [c0, c1]) (asg dl) ?_
  clear dl
  have rq := repr_qs (S := [c0, c1]) F.len.2 F.len.1
  have rd := repr_dv (S := [c0, c1]) (m := m) (by omega)
  have df := divs (k := m) m1 (by omega)
  have fo := F.o
  refine wo_step (if_nil ((or_go (ne_repr (cal1 rfl rfl fo) (call1 rfl ctup_fl) rq)).trans (ne_repr (cal1 rfl rfl df) (call1 rfl ctup_fl) rd))) ?_
  refine wo_mid (fun ρ' S' => S' = [c0, c1] ∧ ∃ a5 a19, ρ' = [some sc, some (.ref 1), some (.int m), some (.fl (qs.map encQ)), some (.fl ((dvN m).map intD)), a5, none, none, none, none, none, none, none, none, none, none, none, none, none, a19, none, none]) ?_ ?_
  · unfold sFor iSeq
    simp only [dVar, List.getElem?_cons_succ, List.getElem?_cons_zero, bnd_mk, MS.listOf]
    refine wo_for (items := qs.map encQ) (fun i ρ' S' => S' = [c0, c1] ∧ ∃ a5 a19, ρ' = [some sc, some (.ref 1), some (.int m), some (.fl (qs.map encQ)), some (.fl ((dvN m).map intD)), a5, none, none, none, none, none, none, none, none, none, none, none, none, none, a19, none, none]) ⟨rfl, none, none, rfl⟩ (fun _ _ _ _ _ => rfl) ?_ ?_
    · rintro i d ρ' S' hd ⟨rfl, b5, b19, rfl⟩
      rw [List.getElem?_map, Option.map_eq_some_iff] at hd
      obtain ⟨n, hn, rfl⟩ := hd
      obtain ⟨t, T⟩ := F.one n (List.mem_of_getElem? hn)
      refine wo_of (b := ([some sc, some (.ref 1), some (.int m), some (.fl (qs.map encQ)), some (.fl ((dvN m).map intD)), some (encQ n), none, none, none, none, none, none, none, none, none, none, none, none, none, b19, none, none], [c0, c1])) rfl ?_
      refine one_turn T fun a19 => ?_
      exact ⟨rfl, some (encQ n), a19, rfl⟩
    · rintro ρ' S' ⟨rfl, b5, b19, rfl⟩
      exact ⟨rfl, rfl, b5, b19, rfl⟩
  rintro ρ' S' ⟨rfl, b5, b19, rfl⟩
  have sl := law_signs F (ρ := [some sc, some (.ref 1), some (.int m), some (.fl (qs.map encQ)), some (.fl ((dvN m).map intD)), b5, none, none, none, none, none, none, none, none, none, none, none, none, none, b19, none, none]) (S := [c0, c1]) rfl (by show 6 ≤ 22; decide)
  have sa := signs_added F
  have sm := sum_ints (S := [c0, c1]) (d := .fl ((qs.map signOf).map D.int)) (ns := qs.map signOf) rfl
  have sr := repr_int (S := [c0, c1]) (i := (qs.map signOf).sum) (by have := sum_le qs; have := F.len.1; omega)
  refine wo_step (if_nil (ne_repr (cal1 rfl rfl sa) (call1 sl sm) sr)) ?_
  exact part2 F m1 m2 hS2
end k71

namespace k71
open PySem PySem.Spec PyProof.Rows L2 MS
def d_n_law_source : He.DefD := ⟨("_law_source", none), "_law_source", "_law_source", defArgs S_n_law_source, defBody S_n_law_source, defScope S_n_law_source, [], []⟩
def d_n_law_quadruples : He.DefD := ⟨("_law_quadruples", none), "_law_quadruples", "_law_quadruples", defArgs S_n_law_quadruples, defBody S_n_law_quadruples, defScope S_n_law_quadruples, [], []⟩
def d_n_law_pick : He.DefD := ⟨("_law_pick", none), "_law_pick", "_law_pick", defArgs S_n_law_pick, defBody S_n_law_pick, defScope S_n_law_pick, [], []⟩
def d_halved : He.DefD := ⟨("halved", none), "halved", "halved", defArgs S_halved, defBody S_halved, defScope S_halved, [], []⟩
def d_n_law_pairs : He.DefD := ⟨("_law_pairs", none), "_law_pairs", "_law_pairs", defArgs S_n_law_pairs, defBody S_n_law_pairs, defScope S_n_law_pairs, [], []⟩
def d_turned_down : He.DefD := ⟨("turned_down", none), "turned_down", "turned_down", defArgs S_turned_down, defBody S_turned_down, defScope S_turned_down, [], []⟩
def d_pairs_exchanged : He.DefD := ⟨("pairs_exchanged", none), "pairs_exchanged", "pairs_exchanged", defArgs S_pairs_exchanged, defBody S_pairs_exchanged, defScope S_pairs_exchanged, [], []⟩
def d_turned_quadruple : He.DefD := ⟨("turned_quadruple", none), "turned_quadruple", "turned_quadruple", defArgs S_turned_quadruple, defBody S_turned_quadruple, defScope S_turned_quadruple, [], []⟩
def d_quadruple_sign : He.DefD := ⟨("quadruple_sign", none), "quadruple_sign", "quadruple_sign", defArgs S_quadruple_sign, defBody S_quadruple_sign, defScope S_quadruple_sign, [], []⟩
def d_whole_root : He.DefD := ⟨("whole_root", none), "whole_root", "whole_root", defArgs S_whole_root, defBody S_whole_root, defScope S_whole_root, [], []⟩
def d_divisors_of : He.DefD := ⟨("divisors_of", none), "divisors_of", "divisors_of", defArgs S_divisors_of, defBody S_divisors_of, defScope S_divisors_of, [], []⟩
def d_odd_divisors : He.DefD := ⟨("odd_divisors", none), "odd_divisors", "odd_divisors", defArgs S_odd_divisors, defBody S_odd_divisors, defScope S_odd_divisors, [], []⟩
def d_odd_quadruples : He.DefD := ⟨("odd_quadruples", none), "odd_quadruples", "odd_quadruples", defArgs S_odd_quadruples, defBody S_odd_quadruples, defScope S_odd_quadruples, [], []⟩
def d_signs_added : He.DefD := ⟨("signs_added", none), "signs_added", "signs_added", defArgs S_signs_added, defBody S_signs_added, defScope S_signs_added, [], []⟩
def d_odd_tuples : He.DefD := ⟨("odd_tuples", none), "odd_tuples", "odd_tuples", defArgs S_odd_tuples, defBody S_odd_tuples, defScope S_odd_tuples, [], []⟩
def d_n_law_sign : He.DefD := ⟨("_law_sign", none), "_law_sign", "_law_sign", defArgs S_n_law_sign, defBody S_n_law_sign, defScope S_n_law_sign, [], []⟩
def d_sign_by_four : He.DefD := ⟨("sign_by_four", none), "sign_by_four", "sign_by_four", defArgs S_sign_by_four, defBody S_sign_by_four, defScope S_sign_by_four, [], []⟩
def d_signs_by_four : He.DefD := ⟨("signs_by_four", none), "signs_by_four", "signs_by_four", defArgs S_signs_by_four, defBody S_signs_by_four, defScope S_signs_by_four, [], []⟩
def d_count_two_squares : He.DefD := ⟨("count_two_squares", none), "count_two_squares", "count_two_squares", defArgs S_count_two_squares, defBody S_count_two_squares, defScope S_count_two_squares, [], []⟩
def d_odd_part : He.DefD := ⟨("odd_part", none), "odd_part", "odd_part", defArgs S_odd_part, defBody S_odd_part, defScope S_odd_part, [], []⟩
def d_count_four_squares : He.DefD := ⟨("count_four_squares", none), "count_four_squares", "count_four_squares", defArgs S_count_four_squares, defBody S_count_four_squares, defScope S_count_four_squares, [], []⟩
def d_has_two_squares : He.DefD := ⟨("has_two_squares", none), "has_two_squares", "has_two_squares", defArgs S_has_two_squares, defBody S_has_two_squares, defScope S_has_two_squares, [], []⟩
def d_doubled : He.DefD := ⟨("doubled", none), "doubled", "doubled", defArgs S_doubled, defBody S_doubled, defScope S_doubled, [], []⟩
def d_law : He.DefD := ⟨("law", none), "law", "law", defArgs S_law, defBody S_law, defScope S_law, [], []⟩
def fn : List He.DefD := [d_n_law_source, d_n_law_quadruples, d_n_law_pick, d_halved, d_n_law_pairs, d_turned_down, d_pairs_exchanged, d_turned_quadruple, d_quadruple_sign, d_whole_root, d_divisors_of, d_odd_divisors, d_odd_quadruples, d_signs_added, d_odd_tuples, d_n_law_sign, d_sign_by_four, d_signs_by_four, d_count_two_squares, d_odd_part, d_count_four_squares, d_has_two_squares, d_doubled, d_law]
def fa : List He.Fa := [.glo "_law_source", .glo "_law_quadruples", .glo "_law_pick", .glo "halved", .glo "_law_pairs", .glo "turned_down", .glo "pairs_exchanged", .glo "turned_quadruple", .glo "quadruple_sign", .glo "whole_root", .glo "divisors_of", .glo "odd_divisors", .glo "odd_quadruples", .glo "signs_added", .glo "odd_tuples", .glo "_law_sign", .glo "sign_by_four", .glo "signs_by_four", .glo "count_two_squares", .glo "odd_part", .glo "count_four_squares", .glo "has_two_squares", .glo "doubled", .glo "law", .free "abs", .free "int", .free "len", .free "range", .free "repr", .free "sorted", .free "sum", .free "tuple"]
abbrev R : PySem.W.OpenRow := PySem.W.OpenLaw.row PySem.Challenge.rw_leastwholes_k71_whole_squares_and_quadru
abbrev hk : PySem.W.Hook := He.hookD 4 fa fn
def ob (s : PySem.W.SharedT) : He.AlD := He.obsDG 4 fa fn (HandSHeadRun.getT s)
theorem ob_eq (s : PySem.W.SharedT) : ob s = hk.obs s.abs := He.obsDG_eq (HandSHeadRun.getT_eq s)
def loose : List Str := ["whole_root", "divisors_of", "sign_by_four", "signs_by_four", "count_two_squares", "has_two_squares", "odd_part", "count_four_squares", "odd_divisors", "odd_quadruples", "quadruple_sign", "pairs_exchanged", "turned_quadruple", "turned_down", "signs_added", "odd_tuples", "doubled", "halved", "_law_source", "_law_pick", "_law_quadruples", "_law_sign", "_law_pairs"]
theorem run (w : World) : HandSHeadRun.RunEq R (PySem.W.view R.prog [27]) hk ob 3000 loose w := by
  intro os
  kernel_rfl
theorem facts {P : Program} {w : World} {K : PySem.W.Frag} {h : Heap} {mg : Str → Option Value} {f : Addr} (X : K.In h) (G : h.Ns mainGlobals mg) (hfa : mg ("law" : Str) = some (.ref f)) (c : He.SaysD fa fn K) :
    ∃ fd : FuncData, (∀ (s : Shared) (v : Value), BindsTo s fd ⟨[v], []⟩ [("script", v)]) ∧ ∀ base : Heap, K.In base → base.Ns mainGlobals mg → FnG P w K mg base CX0 6 f fd ["script"] (spLaw K) := by
  obtain ⟨fd_n_law_source, F_n_law_source⟩ := c.def_ 0 (d := d_n_law_source) rfl
  obtain ⟨fd_n_law_quadruples, F_n_law_quadruples⟩ := c.def_ 1 (d := d_n_law_quadruples) rfl
  obtain ⟨fd_n_law_pick, F_n_law_pick⟩ := c.def_ 2 (d := d_n_law_pick) rfl
  obtain ⟨fd_halved, F_halved⟩ := c.def_ 3 (d := d_halved) rfl
  obtain ⟨fd_n_law_pairs, F_n_law_pairs⟩ := c.def_ 4 (d := d_n_law_pairs) rfl
  obtain ⟨fd_turned_down, F_turned_down⟩ := c.def_ 5 (d := d_turned_down) rfl
  obtain ⟨fd_pairs_exchanged, F_pairs_exchanged⟩ := c.def_ 6 (d := d_pairs_exchanged) rfl
  obtain ⟨fd_turned_quadruple, F_turned_quadruple⟩ := c.def_ 7 (d := d_turned_quadruple) rfl
  obtain ⟨fd_quadruple_sign, F_quadruple_sign⟩ := c.def_ 8 (d := d_quadruple_sign) rfl
  obtain ⟨fd_whole_root, F_whole_root⟩ := c.def_ 9 (d := d_whole_root) rfl
  obtain ⟨fd_divisors_of, F_divisors_of⟩ := c.def_ 10 (d := d_divisors_of) rfl
  obtain ⟨fd_odd_divisors, F_odd_divisors⟩ := c.def_ 11 (d := d_odd_divisors) rfl
  obtain ⟨fd_odd_quadruples, F_odd_quadruples⟩ := c.def_ 12 (d := d_odd_quadruples) rfl
  obtain ⟨fd_signs_added, F_signs_added⟩ := c.def_ 13 (d := d_signs_added) rfl
  obtain ⟨fd_odd_tuples, F_odd_tuples⟩ := c.def_ 14 (d := d_odd_tuples) rfl
  obtain ⟨fd_n_law_sign, F_n_law_sign⟩ := c.def_ 15 (d := d_n_law_sign) rfl
  obtain ⟨fd_sign_by_four, F_sign_by_four⟩ := c.def_ 16 (d := d_sign_by_four) rfl
  obtain ⟨fd_signs_by_four, F_signs_by_four⟩ := c.def_ 17 (d := d_signs_by_four) rfl
  obtain ⟨fd_count_two_squares, F_count_two_squares⟩ := c.def_ 18 (d := d_count_two_squares) rfl
  obtain ⟨fd_odd_part, F_odd_part⟩ := c.def_ 19 (d := d_odd_part) rfl
  obtain ⟨fd_count_four_squares, F_count_four_squares⟩ := c.def_ 20 (d := d_count_four_squares) rfl
  obtain ⟨fd_has_two_squares, F_has_two_squares⟩ := c.def_ 21 (d := d_has_two_squares) rfl
  obtain ⟨fd_doubled, F_doubled⟩ := c.def_ 22 (d := d_doubled) rfl
  obtain ⟨fd_law, F_law⟩ := c.def_ 23 (d := d_law) rfl
  cases hfa.symm.trans (He.glo_ok X G (c.fact 23 (f := .glo "law") rfl))
  have b := FunD.bindsA (ps := ["script"]) F_law fun _ _ _ _ _ _ us hl => match us, hl with | [_], _ => rfl
  have g_abs : mg "abs" = none := He.free_ok X G (c.fact 24 (f := .free "abs") rfl)
  have g_int : mg "int" = none := He.free_ok X G (c.fact 25 (f := .free "int") rfl)
  have g_len : mg "len" = none := He.free_ok X G (c.fact 26 (f := .free "len") rfl)
  have g_range : mg "range" = none := He.free_ok X G (c.fact 27 (f := .free "range") rfl)
  have g_repr : mg "repr" = none := He.free_ok X G (c.fact 28 (f := .free "repr") rfl)
  have g_sorted : mg "sorted" = none := He.free_ok X G (c.fact 29 (f := .free "sorted") rfl)
  have g_sum : mg "sum" = none := He.free_ok X G (c.fact 30 (f := .free "sum") rfl)
  have g_tuple : mg "tuple" = none := He.free_ok X G (c.fact 31 (f := .free "tuple") rfl)
  refine ⟨fd_law, fun s v => b s [v] rfl, fun base _ _ => ?_⟩
  have c_n_law_source := cal_n_law_source (P := P) (w := w) (base := base) F_n_law_source (He.glo_ok X G (c.fact 0 (f := .glo "_law_source") rfl)) g_int g_abs
  have c_n_law_quadruples := cal_n_law_quadruples (P := P) (w := w) (base := base) F_n_law_quadruples (He.glo_ok X G (c.fact 1 (f := .glo "_law_quadruples") rfl)) g_range g_int g_sorted
  have c_n_law_pick := cal_n_law_pick (P := P) (w := w) (base := base) F_n_law_pick (He.glo_ok X G (c.fact 2 (f := .glo "_law_pick") rfl)) g_len g_int
  have c_halved := cal_halved (P := P) (w := w) (base := base) F_halved (He.glo_ok X G (c.fact 3 (f := .glo "halved") rfl))
  have c_n_law_pairs := cal_n_law_pairs (P := P) (w := w) (base := base) F_n_law_pairs (He.glo_ok X G (c.fact 4 (f := .glo "_law_pairs") rfl)) g_sum
  have c_turned_down := cal_turned_down (P := P) (w := w) (base := base) F_turned_down (He.glo_ok X G (c.fact 5 (f := .glo "turned_down") rfl))
  have c_pairs_exchanged := cal_pairs_exchanged (P := P) (w := w) (base := base) F_pairs_exchanged (He.glo_ok X G (c.fact 6 (f := .glo "pairs_exchanged") rfl))
  have c_turned_quadruple := cal_turned_quadruple (P := P) (w := w) (base := base) F_turned_quadruple (He.glo_ok X G (c.fact 7 (f := .glo "turned_quadruple") rfl)) c_pairs_exchanged c_turned_down
  have c_quadruple_sign := cal_quadruple_sign (P := P) (w := w) (base := base) F_quadruple_sign (He.glo_ok X G (c.fact 8 (f := .glo "quadruple_sign") rfl))
  have c_whole_root := cal_whole_root (P := P) (w := w) (base := base) F_whole_root (He.glo_ok X G (c.fact 9 (f := .glo "whole_root") rfl))
  have c_divisors_of := cal_divisors_of (P := P) (w := w) (base := base) F_divisors_of (He.glo_ok X G (c.fact 10 (f := .glo "divisors_of") rfl)) c_whole_root g_range g_tuple
  have c_odd_divisors := cal_odd_divisors (P := P) (w := w) (base := base) F_odd_divisors (He.glo_ok X G (c.fact 11 (f := .glo "odd_divisors") rfl)) c_divisors_of
  have c_odd_quadruples := cal_odd_quadruples (P := P) (w := w) (base := base) F_odd_quadruples (He.glo_ok X G (c.fact 12 (f := .glo "odd_quadruples") rfl)) c_odd_divisors g_range g_sorted g_tuple
  have c_signs_added := cal_signs_added (P := P) (w := w) (base := base) F_signs_added (He.glo_ok X G (c.fact 13 (f := .glo "signs_added") rfl)) c_odd_quadruples c_quadruple_sign g_sum
  have c_odd_tuples := cal_odd_tuples (P := P) (w := w) (base := base) F_odd_tuples (He.glo_ok X G (c.fact 14 (f := .glo "odd_tuples") rfl)) c_divisors_of g_sum
  have c_n_law_sign := cal_n_law_sign (P := P) (w := w) (base := base) F_n_law_sign (He.glo_ok X G (c.fact 15 (f := .glo "_law_sign") rfl)) g_int
  have c_sign_by_four := cal_sign_by_four (P := P) (w := w) (base := base) F_sign_by_four (He.glo_ok X G (c.fact 16 (f := .glo "sign_by_four") rfl))
  have c_signs_by_four := cal_signs_by_four (P := P) (w := w) (base := base) F_signs_by_four (He.glo_ok X G (c.fact 17 (f := .glo "signs_by_four") rfl)) c_divisors_of c_sign_by_four g_sum
  have c_count_two_squares := cal_count_two_squares (P := P) (w := w) (base := base) F_count_two_squares (He.glo_ok X G (c.fact 18 (f := .glo "count_two_squares") rfl)) c_signs_by_four
  have c_odd_part := cal_odd_part (P := P) (w := w) (base := base) F_odd_part (He.glo_ok X G (c.fact 19 (f := .glo "odd_part") rfl))
  have c_count_four_squares := cal_count_four_squares (P := P) (w := w) (base := base) F_count_four_squares (He.glo_ok X G (c.fact 20 (f := .glo "count_four_squares") rfl)) c_divisors_of c_odd_part g_sum
  have c_has_two_squares := cal_has_two_squares (P := P) (w := w) (base := base) F_has_two_squares (He.glo_ok X G (c.fact 21 (f := .glo "has_two_squares") rfl)) c_signs_by_four
  have c_doubled := cal_doubled (P := P) (w := w) (base := base) F_doubled (He.glo_ok X G (c.fact 22 (f := .glo "doubled") rfl))
  exact law_imp (ok_law F_law c_n_law_source c_n_law_pick c_n_law_quadruples c_odd_quadruples c_divisors_of c_quadruple_sign c_n_law_sign c_turned_quadruple c_signs_added c_odd_tuples c_n_law_pairs c_count_four_squares c_count_two_squares c_has_two_squares c_doubled c_halved g_range g_int g_repr g_tuple g_abs g_sum) law_true
end k71
open PySem PySem.W PySem.Calls PyProof.Rows
theorem PySem.Challenge.cw_leastwholes_k71_whole_squares_and_quadru_holds : PySem.Challenge.rw_leastwholes_k71_whole_squares_and_quadru.Holds := by
  w_on; o_law
  refine HandSHeadRun.head_any (r := k71.R) (q := view (k71.R).prog [27]) (H := k71.hk) (ob := k71.ob) (M := 3000) (loose := k71.loose) (d := HandSHeadRun.topDef (k71.R).prog 27) (kwd := []) k71.ob_eq
    (by kernel_rfl) (fun s => by kernel_rfl) k71.run (by kernel_rfl) (by kernel_rfl) (by kernel_rfl) (by rfl) (by first | assumption | decide +kernel) (by decide +kernel) ⟨rfl, rfl, rfl, rfl, rfl, by decide +kernel⟩ ?hw ?hc
  case hw => w_witness2
  case hc =>
    refine MS.walkG (l := PySem.Challenge.rw_leastwholes_k71_whole_squares_and_quadru) (k := 6) rfl (by kernel_rfl) ⟨⟨rfl, by decide, by decide⟩, rfl⟩ ?F
    intro w mg fa h Y G hmg0
    obtain ⟨K, KX, c⟩ := Y
    have hmg : mg ("law" : PySem.Str) = some (.ref fa) := by
      have e : (HandSHeadRun.topDef (k71.R).prog 27).name = ("law" : PySem.Str) := by kernel_rfl
      rw [← e]
      exact hmg0
    obtain ⟨fd, hb, hF⟩ := k71.facts (P := (PySem.Challenge.rw_leastwholes_k71_whole_squares_and_quadru).prog) (w := w) KX G hmg c
    exact ⟨K, fd, KX, hb, hF⟩
