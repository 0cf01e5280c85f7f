import PyProof.Rows.All
import Wide.All
import OpenK.AllK
import Wide.FinOn
import HandS.ForMost
import HandS.Walk
import HandS.Conv
import HandS.Style
import HandS.Flow
import HandS.Wide
import HandS.WideBits
import HandS.TupAny
import HandS.TupMul
import HandS.Deep
import HandS.Sort
import HandS.SortRule
import HandS.Zip
import HandS.RevTup
import HandS.Defaults
import HandS.Codes
import HandS.SortInts
import HandS.IsInst
import HandS.WordsExc
import HandS.Head0
import HandS.Head1
import HandS.Head2
import HandS.HeadEnd
import HandS.HeadHook1
import HandS.HeadHook2
import HandS.RaiseMore
import HandS.Star
import KE.GoesMore
import KE.GoesZip
import KE.GoesEnum
import KE.SortData
import KE.KTupSum
import HandS.DictComp
import PySem.Challenge.RW_leastwholes_k53_whole_polynomials_and_ro
set_option Elab.async false
set_option linter.all false
set_option maxRecDepth 100000
set_option maxHeartbeats 0
set_option autoImplicit false
/-! ## MS: values without addresses; a denotation for each construct of Python, proved from the hand layer's rules -/
namespace MS
open PySem PySem.Spec PyProof.Rows L2

/-- values: tup a tuple, fl a list that is never changed again, rl one that can only be read (the script), ref n the n-th mutable thing of the store -/
inductive D where
  | non | bl (b : Bool) | int (i : Int) | str (x : Str) | tup (ds : List D) | fl (ds : List D) | rl (ds : List D) | ref (n : Nat)
  deriving Inhabited
/-- mutable things -/
inductive C where
  | lst (ds : List D) | dct (kvs : List (Key × D)) | lck (kvs : List (Key × D))
  deriving Inhabited
abbrev Frag := PySem.W.Frag
abbrev Env := List (Option D)
abbrev Sto := List C

/-! ### how far the numbers of mutable things go -/
mutual
def D.fit (n : Nat) : D → Bool
  | .non => true
  | .bl _ => true
  | .int _ => true
  | .str _ => true
  | .tup ds => D.fitL n ds
  | .fl ds => D.fitL n ds
  | .rl ds => D.fitL n ds
  | .ref m => decide (m < n)
def D.fitL (n : Nat) : List D → Bool
  | [] => true
  | d :: ds => D.fit n d && D.fitL n ds
end
abbrev D.pure (d : D) : Bool := D.fit 0 d
abbrev D.pureL (ds : List D) : Bool := D.fitL 0 ds
def C.fit (n : Nat) : C → Bool
  | .lst ds => D.fitL n ds
  | .dct kvs => D.fitL n (kvs.map (·.2))
  | .lck kvs => D.fitL n (kvs.map (·.2))
mutual
theorem D.fit_mono {m n : Nat} (h : m ≤ n) : ∀ {d : D}, D.fit m d = true → D.fit n d = true
  | .non, _ => rfl
  | .bl _, _ => rfl
  | .int _, _ => rfl
  | .str _, _ => rfl
  | .tup _, e => D.fitL_mono h e
  | .fl _, e => D.fitL_mono h e
  | .rl _, e => D.fitL_mono h e
  | .ref k, e => decide_eq_true (Nat.lt_of_lt_of_le (of_decide_eq_true e) h)
theorem D.fitL_mono {m n : Nat} (h : m ≤ n) : ∀ {ds : List D}, D.fitL m ds = true → D.fitL n ds = true
  | [], _ => rfl
  | d :: ds, e => by
    have e' : (D.fit m d && D.fitL m ds) = true := e
    rw [Bool.and_eq_true] at e'
    show (D.fit n d && D.fitL n ds) = true
    rw [D.fit_mono h e'.1, D.fitL_mono h e'.2]
    rfl
end
theorem D.fitL_all {n : Nat} : ∀ {ds : List D}, D.fitL n ds = true ↔ ∀ d ∈ ds, D.fit n d = true
  | [] => ⟨fun _ d h => (by cases h), fun _ => rfl⟩
  | d :: ds => by
    show (D.fit n d && D.fitL n ds) = true ↔ _
    rw [Bool.and_eq_true, D.fitL_all]
    simp

/-! ### what a value is in the heap -/
/-- a tuple, a list that is not among the mutable ones (ξ the foreign ones, ι the own) -/
def TupX (H : Hp) (ξ ι : List Addr) (a : Addr) (vs : List V) : Prop := H a = some (.tup vs) ∧ a ∉ ξ ∧ a ∉ ι
def SqLx (K : Frag) (H : Hp) (ξ ι : List Addr) (a : Addr) (vs : List V) : Prop := (Rd H a (.lst vs) ∧ a ∉ ξ ∧ a ∉ ι) ∨ ∀ H', SqL K H' a vs
def FlX (H : Hp) (ξ ι : List Addr) (a : Addr) (vs : List V) : Prop := H a = some (.lst vs) ∧ a ∉ ξ ∧ a ∉ ι
theorem TupX.sq {K : Frag} {H : Hp} {ξ ι : List Addr} {a : Addr} {vs : List V} (h : TupX H ξ ι a vs) : SqT K H a vs := .inl (.inl h.1)
theorem FlX.sq {K : Frag} {H : Hp} {ξ ι : List Addr} {a : Addr} {vs : List V} (h : FlX H ξ ι a vs) : SqL K H a vs := .inl (.inl h.1)
theorem SqLx.sq {K : Frag} {H : Hp} {ξ ι : List Addr} {a : Addr} {vs : List V} (h : SqLx K H ξ ι a vs) : SqL K H a vs := h.elim (fun h => .inl h.1) fun h => h H
mutual
def RepV (K : Frag) (H : Hp) (ξ ι : List Addr) : D → V → Prop
  | .non, v => v = .non
  | .bl b, v => v = .bl b
  | .int i, v => v = .int i
  | .str x, v => v = .str x
  | .tup ds, v => ∃ a vs, v = .ref a ∧ TupX H ξ ι a vs ∧ RepL K H ξ ι ds vs
  | .fl ds, v => ∃ a vs, v = .ref a ∧ FlX H ξ ι a vs ∧ RepL K H ξ ι ds vs
  | .rl ds, v => ∃ a vs, v = .ref a ∧ SqLx K H ξ ι a vs ∧ RepL K H ξ ι ds vs
  | .ref n, v => ∃ a, v = .ref a ∧ ι[n]? = some a
def RepL (K : Frag) (H : Hp) (ξ ι : List Addr) : List D → List V → Prop
  | [], vs => vs = []
  | d :: ds, vs => ∃ v r, vs = v :: r ∧ RepV K H ξ ι d v ∧ RepL K H ξ ι ds r
end
section
variable {K : Frag} {H H' : Hp} {ξ ξ' ι ι' : List Addr}
mutual
theorem RepV.fit : ∀ {d : D} {v : V}, RepV K H ξ ι d v → D.fit ι.length d = true
  | .non, _, _ => rfl
  | .bl _, _, _ => rfl
  | .int _, _, _ => rfl
  | .str _, _, _ => rfl
  | .tup _, _, ⟨_, _, _, _, h⟩ => RepL.fit h
  | .fl _, _, ⟨_, _, _, _, h⟩ => RepL.fit h
  | .rl _, _, ⟨_, _, _, _, h⟩ => RepL.fit h
  | .ref _, _, ⟨_, _, h⟩ => decide_eq_true (List.getElem?_eq_some_iff.mp h).1
theorem RepL.fit : ∀ {ds : List D} {vs : List V}, RepL K H ξ ι ds vs → D.fitL ι.length ds = true
  | [], _, _ => rfl
  | d :: ds, _, ⟨_, _, _, h1, h2⟩ => by
    show (D.fit ι.length d && D.fitL ι.length ds) = true
    rw [RepV.fit h1, RepL.fit h2]
    rfl
end
/-- what moves a value to another heap -/
structure Mv (H : Hp) (ξ ι : List Addr) (n : Nat) (H' : Hp) (ξ' ι' : List Addr) : Prop where
  keep : ∀ a o, H a = some o → a ∉ ξ → a ∉ ι → H' a = some o ∧ a ∉ ξ' ∧ a ∉ ι'
  own : ∀ m a, m < n → ι[m]? = some a → ι'[m]? = some a
theorem Mv.rd {n : Nat} (m : Mv H ξ ι n H' ξ' ι') {a : Addr} {u : HO} (h : Rd H a u ∧ a ∉ ξ ∧ a ∉ ι) : Rd H' a u ∧ a ∉ ξ' ∧ a ∉ ι' := by
  obtain ⟨h | ⟨o, h⟩, h1, h2⟩ := h
  · exact ⟨.inl (m.keep a _ h h1 h2).1, (m.keep a _ h h1 h2).2⟩
  · exact ⟨.inr ⟨o, (m.keep a _ h h1 h2).1⟩, (m.keep a _ h h1 h2).2⟩
mutual
theorem RepV.mv {n : Nat} (m : Mv H ξ ι n H' ξ' ι') : ∀ {d : D} {v : V}, D.fit n d = true → RepV K H ξ ι d v → RepV K H' ξ' ι' d v
  | .non, _, _, h => h
  | .bl _, _, _, h => h
  | .int _, _, _, h => h
  | .str _, _, _, h => h
  | .tup _, _, b, ⟨a, vs, e, t, h⟩ => ⟨a, vs, e, m.keep a _ t.1 t.2.1 t.2.2, RepL.mv m b h⟩
  | .fl _, _, b, ⟨a, vs, e, t, h⟩ => ⟨a, vs, e, m.keep a _ t.1 t.2.1 t.2.2, RepL.mv m b h⟩
  | .rl _, _, b, ⟨a, vs, e, t, h⟩ => ⟨a, vs, e, t.imp m.rd id, RepL.mv m b h⟩
  | .ref k, _, b, ⟨a, e, h⟩ => ⟨a, e, m.own k a (of_decide_eq_true b) h⟩
theorem RepL.mv {n : Nat} (m : Mv H ξ ι n H' ξ' ι') : ∀ {ds : List D} {vs : List V}, D.fitL n ds = true → RepL K H ξ ι ds vs → RepL K H' ξ' ι' ds vs
  | [], _, _, h => h
  | d :: ds, _, b, ⟨v, r, e, h1, h2⟩ => by
    have b' : (D.fit n d && D.fitL n ds) = true := b
    rw [Bool.and_eq_true] at b'
    exact ⟨v, r, e, RepV.mv m b'.1 h1, RepL.mv m b'.2 h2⟩
end
theorem RepL.length : ∀ {ds : List D} {vs : List V}, RepL K H ξ ι ds vs → vs.length = ds.length
  | [], _, e => by rw [show _ = [] from e]; rfl
  | _ :: _, _, ⟨_, _, e, _, h⟩ => by rw [e, List.length_cons, List.length_cons, RepL.length h]
theorem RepL.get : ∀ {ds : List D} {vs : List V} {i : Nat} {d : D}, RepL K H ξ ι ds vs → ds[i]? = some d → ∃ v, vs[i]? = some v ∧ RepV K H ξ ι d v
  | [], _, _, _, _, e => by simp at e
  | _ :: _, _, 0, _, ⟨v, r, e1, h1, _⟩, e => by
    subst e1
    have e : _ = _ := Option.some.inj e
    subst e
    exact ⟨v, rfl, h1⟩
  | _ :: ds, _, i + 1, _, ⟨v, r, e1, _, h2⟩, e => by
    subst e1
    exact RepL.get (i := i) h2 e
theorem RepL.append : ∀ {ds es : List D} {vs ws : List V}, RepL K H ξ ι ds vs → RepL K H ξ ι es ws → RepL K H ξ ι (ds ++ es) (vs ++ ws)
  | [], _, _, _, e, h => by rw [show _ = [] from e]; exact h
  | _ :: _, _, _, _, ⟨v, r, e, h1, h2⟩, h => by
    subst e
    exact ⟨v, _, rfl, h1, RepL.append h2 h⟩
theorem RepL.cons {d : D} {v : V} {ds : List D} {vs : List V} (h1 : RepV K H ξ ι d v) (h2 : RepL K H ξ ι ds vs) : RepL K H ξ ι (d :: ds) (v :: vs) := ⟨v, vs, rfl, h1, h2⟩
theorem RepL.one {d : D} {v : V} (h1 : RepV K H ξ ι d v) : RepL K H ξ ι [d] [v] := RepL.cons h1 rfl
theorem RepL.set {d : D} {v : V} (hv : RepV K H ξ ι d v) : ∀ {ds : List D} {vs : List V} (i : Nat), RepL K H ξ ι ds vs → RepL K H ξ ι (ds.set i d) (vs.set i v)
  | [], _, _, e => by rw [show _ = [] from e]; rfl
  | _ :: _, _, 0, ⟨v, r, e, _, h2⟩ => by
    subst e
    exact ⟨_, _, rfl, hv, h2⟩
  | _ :: _, _, i + 1, ⟨v, r, e, h1, h2⟩ => by
    subst e
    exact ⟨_, _, rfl, h1, RepL.set hv i h2⟩
theorem RepL.take : ∀ {ds : List D} {vs : List V} (n : Nat), RepL K H ξ ι ds vs → RepL K H ξ ι (ds.take n) (vs.take n)
  | [], _, n, e => by rw [show _ = [] from e]; cases n <;> rfl
  | _ :: _, _, 0, _ => rfl
  | _ :: _, _, n + 1, ⟨v, r, e, h1, h2⟩ => by
    subst e
    exact ⟨_, _, rfl, h1, RepL.take n h2⟩
theorem RepL.drop : ∀ {ds : List D} {vs : List V} (n : Nat), RepL K H ξ ι ds vs → RepL K H ξ ι (ds.drop n) (vs.drop n)
  | [], _, n, e => by rw [show _ = [] from e]; cases n <;> rfl
  | _ :: _, _, 0, h => h
  | _ :: _, _, n + 1, ⟨v, r, e, h1, h2⟩ => by
    subst e
    exact RepL.drop n h2
theorem RepL.reverse : ∀ {ds : List D} {vs : List V}, RepL K H ξ ι ds vs → RepL K H ξ ι ds.reverse vs.reverse
  | [], _, e => by rw [show _ = [] from e]; rfl
  | _ :: _, _, ⟨v, r, e, h1, h2⟩ => by
    subst e
    rw [List.reverse_cons, List.reverse_cons]
    exact RepL.append (RepL.reverse h2) (RepL.one h1)
theorem RepL.ints : ∀ {ns : List Int} {vs : List V}, RepL K H ξ ι (ns.map D.int) vs ↔ vs = ns.map V.int
  | [], _ => Iff.rfl
  | n :: ns, vs => by
    constructor
    · rintro ⟨v, r, e, h1, h2⟩
      rw [e, show v = .int n from h1, RepL.ints.mp h2]
      rfl
    · intro e
      exact ⟨.int n, ns.map V.int, e, rfl, RepL.ints.mpr rfl⟩

/-! ### the store, the environment, steps -/
def CellOk (K : Frag) (H : Hp) (ξ ι : List Addr) (a : Addr) : C → Prop
  | .lst ds => ∃ vs, H a = some (.lst vs) ∧ RepL K H ξ ι ds vs
  | .dct kvs => ∃ ws : List (Key × V), H a = some (.dK ws) ∧ ws.map (·.1) = kvs.map (·.1) ∧ RepL K H ξ ι (kvs.map (·.2)) (ws.map (·.2))
  | .lck kvs => ∃ (ws : List (Key × V)) (o : Obj), H a = some (.frz o (.dK ws)) ∧ ws.map (·.1) = kvs.map (·.1) ∧ RepL K H ξ ι (kvs.map (·.2)) (ws.map (·.2))
structure StoOk (K : Frag) (H : Hp) (ξ ι : List Addr) (S : Sto) : Prop where
  len : ι.length = S.length
  nd : ι.Nodup
  apart : ∀ a ∈ ι, a ∉ ξ
  live : ∀ a ∈ ξ, H a ≠ none
  cell : ∀ (n : Nat) (c : C), S[n]? = some c → ∃ a, ι[n]? = some a ∧ CellOk K H ξ ι a c
  asc : ∀ (n : Nat) (c : C), S[n]? = some c → C.fit n c = true
structure RepE (K : Frag) (H : Hp) (ξ ι : List Addr) (ρ : Env) (σ : L2.St) : Prop where
  len : ρ.length = σ.length
  at_ : ∀ (i : Nat) (d : D), ρ[i]? = some (some d) → ∃ v, σ[i]? = some (some v) ∧ RepV K H ξ ι d v
structure Step (H : Hp) (ι : List Addr) (H' : Hp) (ι' : List Addr) : Prop where
  more : ∃ m, ι' = ι ++ m
  keep : ∀ a o, H a = some o → a ∉ ι → H' a = some o ∧ a ∉ ι'
  frz : ∀ a o u, H a = some (.frz o u) → H' a = some (.frz o u)
theorem Step.refl : Step H ι H ι := ⟨⟨[], (List.append_nil _).symm⟩, fun _ _ h n => ⟨h, n⟩, fun _ _ _ h => h⟩
theorem Step.trans {H2 : Hp} {ι2 : List Addr} (s : Step H ι H' ι') (t : Step H' ι' H2 ι2) : Step H ι H2 ι2 := by
  obtain ⟨⟨m, rfl⟩, k, f⟩ := s
  obtain ⟨⟨n, rfl⟩, l, g⟩ := t
  exact ⟨⟨m ++ n, by rw [List.append_assoc]⟩, fun a o h hn => l a o (k a o h hn).1 (k a o h hn).2, fun a o u h => g a o u (f a o u h)⟩
theorem Step.mv (s : Step H ι H' ι') : Mv H ξ ι ι.length H' ξ ι' := by
  obtain ⟨⟨m, rfl⟩, k, _⟩ := s
  refine ⟨fun a o h h1 h2 => ⟨(k a o h h2).1, h1, (k a o h h2).2⟩, fun i a hi e => ?_⟩
  rw [List.getElem?_append_left hi]
  exact e
theorem Step.val (s : Step H ι H' ι') {d : D} {v : V} (r : RepV K H ξ ι d v) : RepV K H' ξ ι' d v := RepV.mv s.mv r.fit r
theorem Step.vals (s : Step H ι H' ι') {ds : List D} {vs : List V} (r : RepL K H ξ ι ds vs) : RepL K H' ξ ι' ds vs := RepL.mv s.mv r.fit r
theorem Step.env (s : Step H ι H' ι') {ρ : Env} {σ : L2.St} (r : RepE K H ξ ι ρ σ) : RepE K H' ξ ι' ρ σ := ⟨r.len, fun i d e => by
  obtain ⟨v, h1, h2⟩ := r.at_ i d e
  exact ⟨v, h1, s.val h2⟩⟩
/-- a new immutable thing -/
theorem Step.upd {p : Addr} {o : HO} (h : H p = none) : Step H ι (upd H p o) ι := ⟨⟨[], (List.append_nil _).symm⟩, fun a u e n => ⟨by rw [upd_ne (ne_of_none e h)]; exact e, n⟩, fun a o u e => by rw [upd_ne (ne_of_none e h)]; exact e⟩
theorem CellOk.mono {a : Addr} {c : C} (s : ∀ ds vs, RepL K H ξ ι ds vs → RepL K H' ξ' ι' ds vs) (k : ∀ o, H a = some o → H' a = some o) (h : CellOk K H ξ ι a c) : CellOk K H' ξ' ι' a c := by
  cases c with
  | lst ds =>
    obtain ⟨vs, h1, h2⟩ := h
    exact ⟨vs, k _ h1, s _ _ h2⟩
  | dct kvs =>
    obtain ⟨ws, h1, h2, h3⟩ := h
    exact ⟨ws, k _ h1, h2, s _ _ h3⟩
  | lck kvs =>
    obtain ⟨ws, o, h1, h2, h3⟩ := h
    exact ⟨ws, o, k _ h1, h2, s _ _ h3⟩
theorem CellOk.some {a : Addr} {c : C} (h : CellOk K H ξ ι a c) : H a ≠ none := by
  cases c with
  | lst ds =>
    obtain ⟨vs, h1, h2⟩ := h
    rw [h1]
    exact fun z => nomatch z
  | dct kvs =>
    obtain ⟨ws, h1, h2, h3⟩ := h
    rw [h1]
    exact fun z => nomatch z
  | lck kvs =>
    obtain ⟨ws, o, h1, h2, h3⟩ := h
    rw [h1]
    exact fun z => nomatch z
theorem StoOk.get {S : Sto} (h : StoOk K H ξ ι S) {a : Addr} (ha : a ∈ ι) : ∃ (n : Nat) (c : C), S[n]? = some c ∧ ι[n]? = some a ∧ CellOk K H ξ ι a c := by
  obtain ⟨n, hn, e⟩ := List.getElem_of_mem ha
  have hn' : n < S.length := by rw [← h.len]; exact hn
  obtain ⟨b, hb, hc⟩ := h.cell n S[n] (List.getElem?_eq_getElem hn')
  have e2 : ι[n]? = some a := by rw [List.getElem?_eq_getElem hn, e]
  have : b = a := Option.some.inj (hb.symm.trans e2)
  subst this
  exact ⟨n, S[n], List.getElem?_eq_getElem hn', e2, hc⟩
theorem StoOk.ne {S : Sto} (h : StoOk K H ξ ι S) {a : Addr} (ha : a ∈ ι) : H a ≠ none := by
  obtain ⟨n, c, _, _, hc⟩ := h.get ha
  exact hc.some
/-- something new beside the store -/
theorem StoOk.beside {S : Sto} (h : StoOk K H ξ ι S) (k : ∀ a o, H a = some o → H' a = some o) : StoOk K H' ξ ι S := by
  have s : Step H ι H' ι := ⟨⟨[], (List.append_nil _).symm⟩, fun a o e n => ⟨k a o e, n⟩, fun a o u e => k a _ e⟩
  refine ⟨h.len, h.nd, h.apart, fun a ha z => ?_, fun n c e => ?_, h.asc⟩
  · cases q : H a with
    | none => exact h.live a ha q
    | some o => rw [k a o q] at z; cases z
  · obtain ⟨a, h1, h2⟩ := h.cell n c e
    exact ⟨a, h1, h2.mono (fun _ _ r => s.vals r) (k a)⟩
theorem keep_upd {p : Addr} {o : HO} (h : H p = none) : ∀ a u, H a = some u → (upd H p o) a = some u := fun a u e => by rw [upd_ne (ne_of_none e h)]; exact e
theorem StoOk.upd {S : Sto} {p : Addr} {o : HO} (h : StoOk K H ξ ι S) (hp : H p = none) : StoOk K (upd H p o) ξ ι S := h.beside (keep_upd hp)
theorem StoOk.fresh {S : Sto} {p : Addr} (h : StoOk K H ξ ι S) (hp : H p = none) : p ∉ ξ ∧ p ∉ ι := ⟨fun z => h.live p z hp, fun z => h.ne z hp⟩
/-- a new tuple, a new unchanging list -/
theorem new_tup {S : Sto} {p : Addr} {ds : List D} {vs : List V} (h : StoOk K H ξ ι S) (hp : H p = none) (r : RepL K H ξ ι ds vs) : RepV K (upd H p (.tup vs)) ξ ι (.tup ds) (.ref p) :=
  ⟨p, vs, rfl, ⟨upd_same, h.fresh hp⟩, (Step.upd hp).vals r⟩
theorem new_fl {S : Sto} {p : Addr} {ds : List D} {vs : List V} (h : StoOk K H ξ ι S) (hp : H p = none) (r : RepL K H ξ ι ds vs) : RepV K (upd H p (.lst vs)) ξ ι (.fl ds) (.ref p) :=
  ⟨p, vs, rfl, ⟨upd_same, h.fresh hp⟩, (Step.upd hp).vals r⟩
/-- a new mutable thing -/
theorem Step.push {S : Sto} {p : Addr} {o : HO} (h : StoOk K H ξ ι S) (hp : H p = none) : Step H ι (L2.upd H p o) (ι ++ [p]) :=
  ⟨⟨[p], rfl⟩, fun a u e n => ⟨by rw [upd_ne (ne_of_none e hp)]; exact e, fun z => by
    rcases List.mem_append.mp z with z | z
    · exact n z
    · rw [List.mem_singleton.mp z, hp] at e
      cases e⟩, fun a o u e => by rw [upd_ne (ne_of_none e hp)]; exact e⟩
theorem StoOk.push {S : Sto} {p : Addr} {o : HO} {c : C} (h : StoOk K H ξ ι S) (hp : H p = none) (hc : CellOk K (L2.upd H p o) ξ (ι ++ [p]) p c) (hb : C.fit S.length c = true) : StoOk K (L2.upd H p o) ξ (ι ++ [p]) (S ++ [c]) := by
  have s : Step H ι (L2.upd H p o) (ι ++ [p]) := Step.push h hp
  have f := h.fresh hp
  refine ⟨by simp [h.len], ?_, fun a ha => ?_, fun a ha z => ?_, fun n d e => ?_, fun n d e => ?_⟩
  · rw [List.nodup_append]
    exact ⟨h.nd, by simp, fun a ha b hb => by rw [List.mem_singleton.mp hb]; exact fun z => f.2 (z ▸ ha)⟩
  · rcases List.mem_append.mp ha with ha | ha
    · exact h.apart a ha
    · rw [List.mem_singleton.mp ha]
      exact f.1
  · cases q : H a with
    | none => exact h.live a ha q
    | some u => rw [keep_upd hp a u q] at z; cases z
  · by_cases hn : n < S.length
    · rw [List.getElem?_append_left hn] at e
      obtain ⟨a, h1, h2⟩ := h.cell n d e
      exact ⟨a, by rw [List.getElem?_append_left (by rw [h.len]; exact hn)]; exact h1, h2.mono (fun _ _ r => s.vals r) (keep_upd hp a)⟩
    · rw [List.getElem?_append_right (by omega)] at e
      have hz : n - S.length = 0 := by
        rcases Nat.eq_zero_or_pos (n - S.length) with z | z
        · exact z
        · rw [List.getElem?_eq_none (by simp; omega)] at e; cases e
      rw [hz] at e
      cases e
      exact ⟨p, by rw [List.getElem?_append_right (by rw [h.len]; omega), h.len, hz]; rfl, hc⟩
  · by_cases hn : n < S.length
    · rw [List.getElem?_append_left hn] at e
      exact h.asc n d e
    · rw [List.getElem?_append_right (by omega)] at e
      have hz : n - S.length = 0 := by
        rcases Nat.eq_zero_or_pos (n - S.length) with z | z
        · exact z
        · rw [List.getElem?_eq_none (by simp; omega)] at e; cases e
      rw [hz] at e
      cases e
      rw [show n = S.length by omega]
      exact hb
/-- a thing that is not locked -/
def NoFrz (H : Hp) (p : Addr) : Prop := ∀ o u, H p ≠ some (.frz o u)
theorem NoFrz.lst {H : Hp} {p : Addr} {vs : List V} (h : H p = some (.lst vs)) : NoFrz H p := fun o u z => by rw [h] at z; cases z
theorem NoFrz.dK {H : Hp} {p : Addr} {ws : List (Key × V)} (h : H p = some (.dK ws)) : NoFrz H p := fun o u z => by rw [h] at z; cases z
theorem Step.write {S : Sto} {n : Nat} {p : Addr} {o : HO} (hn : ι[n]? = some p) (hf : NoFrz H p) : Step H ι (L2.upd H p o) ι :=
  ⟨⟨[], (List.append_nil _).symm⟩, fun a u e z => ⟨by rw [upd_ne (fun w => z (by rw [w]; exact List.mem_of_getElem? hn))]; exact e, z⟩, fun a o' u e => by rw [upd_ne (fun w => hf o' u (by rw [← w]; exact e))]; exact e⟩
theorem nodup_ix {l : List Addr} (h : l.Nodup) {i j : Nat} {a : Addr} (hi : l[i]? = some a) (hj : l[j]? = some a) : i = j := by
  exact (List.getElem?_inj (List.getElem?_eq_some_iff.mp hi).1 h).mp (hi.trans hj.symm)
theorem Mv.write {p : Addr} {o : HO} {k : Nat} (hp : p ∈ ι) : Mv H ξ ι k (L2.upd H p o) ξ ι := ⟨fun a u e h1 h2 => ⟨by rw [upd_ne (fun w => h2 (by rw [w]; exact hp))]; exact e, h1, h2⟩, fun _ _ _ e => e⟩
theorem StoOk.swap {S : Sto} {n : Nat} {p : Addr} {o : HO} {c : C} (h : StoOk K H ξ ι S) (hn : ι[n]? = some p) (hc : CellOk K (L2.upd H p o) ξ ι p c) (hb : C.fit n c = true) : StoOk K (L2.upd H p o) ξ ι (S.set n c) := by
  have s : Mv H ξ ι ι.length (L2.upd H p o) ξ ι := Mv.write (List.mem_of_getElem? hn)
  refine ⟨by rw [List.length_set]; exact h.len, h.nd, h.apart, fun a ha z => ?_, fun m d e => ?_, fun m d e => ?_⟩
  · have hne : a ≠ p := fun w => h.apart p (List.mem_of_getElem? hn) (w ▸ ha)
    rw [upd_ne hne] at z
    exact h.live a ha z
  · by_cases hm : m = n
    · subst hm
      have hl : m < S.length := by
        rw [← h.len]
        exact (List.getElem?_eq_some_iff.mp hn).1
      rw [List.getElem?_set_self hl] at e
      cases e
      exact ⟨p, hn, hc⟩
    · rw [List.getElem?_set_ne (Ne.symm hm)] at e
      obtain ⟨a, h1, h2⟩ := h.cell m d e
      have hne : a ≠ p := fun w => hm (nodup_ix h.nd (w ▸ h1) hn)
      exact ⟨a, h1, h2.mono (fun _ _ r => RepL.mv s r.fit r) (fun u q => by rw [upd_ne hne]; exact q)⟩
  · by_cases hm : m = n
    · subst hm
      have hl : m < S.length := by
        rw [← h.len]
        exact (List.getElem?_eq_some_iff.mp hn).1
      rw [List.getElem?_set_self hl] at e
      cases e
      exact hb
    · rw [List.getElem?_set_ne (Ne.symm hm)] at e
      exact h.asc m d e
theorem StoOk.write {S : Sto} {n : Nat} {p : Addr} {o : HO} {c : C} (h : StoOk K H ξ ι S) (hn : ι[n]? = some p) (_ : NoFrz H p) (hc : CellOk K (L2.upd H p o) ξ ι p c) (hb : C.fit n c = true) : StoOk K (L2.upd H p o) ξ ι (S.set n c) := h.swap hn hc hb
theorem RepE.set {ρ : Env} {σ : L2.St} {i : Nat} {d : D} {v : V} (h : RepE K H ξ ι ρ σ) (r : RepV K H ξ ι d v) : RepE K H ξ ι (ρ.set i (some d)) (σ.set i (some v)) := by
  refine ⟨by rw [List.length_set, List.length_set]; exact h.len, fun j e hj => ?_⟩
  by_cases hij : j = i
  · subst hij
    by_cases hl : j < ρ.length
    · rw [List.getElem?_set_self hl] at hj
      cases hj
      exact ⟨v, by rw [List.getElem?_set_self (by rw [← h.len]; exact hl)], r⟩
    · rw [List.getElem?_eq_none (by rw [List.length_set]; omega)] at hj
      cases hj
  · rw [List.getElem?_set_ne (Ne.symm hij)] at hj ⊢
    exact h.at_ j e hj
end
end MS

namespace MS
open PySem PySem.Spec PyProof.Rows L2

/-! ### readings by denotations -/
abbrev EDen := Env → Sto → Option (D × Sto)
abbrev TDen := Env → Sto → Option (Bool × Sto)
abbrev ADen := Env → Sto → Option (List D × Sto)
def bnd {α β : Type} (x : Option (α × Sto)) (k : α → Sto → Option β) : Option β := match x with
  | some (a, S) => k a S
  | none => none
theorem bnd_some {α β : Type} {x : Option (α × Sto)} {k : α → Sto → Option β} {r : β} (h : bnd x k = some r) : ∃ a S, x = some (a, S) ∧ k a S = some r := by
  unfold bnd at h
  split at h
  · exact ⟨_, _, rfl, h⟩
  · cases h
@[simp] theorem bnd_mk {α β : Type} {a : α} {S : Sto} {k : α → Sto → Option β} : bnd (some (a, S)) k = k a S := rfl
/-- what must hold of the end -/
def Ans (K : Frag) (ξ ι : List Addr) (H : Hp) (S' : Sto) (d : D) (Q : VK) : Prop := ∀ v H' ι', Step H ι H' ι' → StoOk K H' ξ ι' S' → RepV K H' ξ ι' d v → Q v H'
def AnsL (K : Frag) (ξ ι : List Addr) (H : Hp) (S' : Sto) (ds : List D) (Q : List V → Hp → Prop) : Prop := ∀ vs H' ι', Step H ι H' ι' → StoOk K H' ξ ι' S' → RepL K H' ξ ι' ds vs → Q vs H'
def AnsT (K : Frag) (ξ ι : List Addr) (H : Hp) (S' : Sto) (Q : Hp → Prop) : Prop := ∀ H' ι', Step H ι H' ι' → StoOk K H' ξ ι' S' → Q H'
def tE (K : Frag) (f : EDen) : TE := fun σ H Q => ∃ ξ ι ρ S d S', StoOk K H ξ ι S ∧ RepE K H ξ ι ρ σ ∧ f ρ S = some (d, S') ∧ Ans K ξ ι H S' d Q
def tB (K : Frag) (f : TDen) : TT := fun σ H Q => ∃ ξ ι ρ S b S', StoOk K H ξ ι S ∧ RepE K H ξ ι ρ σ ∧ f ρ S = some (b, S') ∧ AnsT K ξ ι H S' (Q b)
def tA (K : Frag) (f : ADen) : TA := fun σ H Q => ∃ ξ ι ρ S ds S', StoOk K H ξ ι S ∧ RepE K H ξ ι ρ σ ∧ f ρ S = some (ds, S') ∧ AnsL K ξ ι H S' ds Q
abbrev ME (X : Cx) (e : Expr) (f : EDen) : Prop := PE X e (tE X.K f)
abbrev MT (X : Cx) (e : Expr) (f : TDen) : Prop := PT X e (tB X.K f)
abbrev MA (X : Cx) (es : List Expr) (f : ADen) : Prop := PA X es (tA X.K f)
section
variable {K : Frag} {H : Hp} {ξ ι : List Addr} {S S' : Sto} {ρ : Env} {σ : L2.St}
theorem Ans.here {d : D} {v : V} {Q : VK} (h : Ans K ξ ι H S d Q) (st : StoOk K H ξ ι S) (r : RepV K H ξ ι d v) : Q v H := h v H ι Step.refl st r
theorem Ans.next {H' : Hp} {ι' : List Addr} {d : D} {Q : VK} (h : Ans K ξ ι H S d Q) (s : Step H ι H' ι') : Ans K ξ ι' H' S d Q := fun v H2 ι2 s2 => h v H2 ι2 (s.trans s2)
theorem AnsT.next {H' : Hp} {ι' : List Addr} {Q : Hp → Prop} (h : AnsT K ξ ι H S Q) (s : Step H ι H' ι') : AnsT K ξ ι' H' S Q := fun H2 ι2 s2 => h H2 ι2 (s.trans s2)
theorem AnsL.next {H' : Hp} {ι' : List Addr} {ds : List D} {Q : List V → Hp → Prop} (h : AnsL K ξ ι H S ds Q) (s : Step H ι H' ι') : AnsL K ξ ι' H' S ds Q := fun v H2 ι2 s2 => h v H2 ι2 (s.trans s2)
theorem tE.run {f : EDen} {d : D} {Q : VK} (st : StoOk K H ξ ι S) (re : RepE K H ξ ι ρ σ) (e : f ρ S = some (d, S')) (k : Ans K ξ ι H S' d Q) : tE K f σ H Q := ⟨ξ, ι, ρ, S, d, S', st, re, e, k⟩
theorem tB.run {f : TDen} {b : Bool} {Q : Bool → Hp → Prop} (st : StoOk K H ξ ι S) (re : RepE K H ξ ι ρ σ) (e : f ρ S = some (b, S')) (k : AnsT K ξ ι H S' (Q b)) : tB K f σ H Q := ⟨ξ, ι, ρ, S, b, S', st, re, e, k⟩
theorem tA.run {f : ADen} {ds : List D} {Q : List V → Hp → Prop} (st : StoOk K H ξ ι S) (re : RepE K H ξ ι ρ σ) (e : f ρ S = some (ds, S')) (k : AnsL K ξ ι H S' ds Q) : tA K f σ H Q := ⟨ξ, ι, ρ, S, ds, S', st, re, e, k⟩
end
section
variable {X : Cx} {e a b c : Expr}
theorem _root_.L2.PE.weak {t t' : TE} (h : PE X e t) (w : ∀ σ H Q, t' σ H Q → t σ H Q) : PE X e t' := ⟨fun pins s σ H Q I q => h.run pins s σ H Q I (w σ H Q q)⟩
theorem _root_.L2.PT.weak {t t' : TT} (h : PT X e t) (w : ∀ σ H Q, t' σ H Q → t σ H Q) : PT X e t' := ⟨fun pins s σ H Q I q => h.run pins s σ H Q I (w σ H Q q)⟩
theorem _root_.L2.PA.weak {es : List Expr} {t t' : TA} (h : PA X es t) (w : ∀ σ H Q, t' σ H Q → t σ H Q) : PA X es t' := ⟨fun pos pins s σ H Q I q => h.run pos pins s σ H Q I (w σ H Q q)⟩

/-! ### names, constants -/
def dVar (i : Nat) : EDen := fun ρ S => match ρ[i]? with
  | some (some d) => some (d, S)
  | _ => none
theorem me_var (i : Nat) {x : Str} {pos : Pos} (hN : X.N[i]? = some x := by rfl) (hv : Vis X.env.scope x := by first | exact Or.inl rfl | exact Or.inr (Or.inl rfl) | exact Or.inr (Or.inr rfl)) (hd : (x == ("__debug__" : Str)) = false := by decide)
    (hcd : (x == ("__classdict__" : Str)) = false := by decide) : ME X (.Name x pos) (dVar i) := (pe_var hN hv hd hcd).weak fun σ H Q ⟨ξ, ι, ρ, S, d, S', st, re, e, k⟩ => by
  unfold dVar at e
  split at e
  · rename_i d' h
    cases e
    obtain ⟨v, h1, h2⟩ := re.at_ i d h
    exact ⟨v, h1, k.here st h2⟩
  · cases e
def dC (d : D) : EDen := fun _ S => some (d, S)
theorem tE.const {K : Frag} {d : D} {v : V} (r : ∀ H ξ ι, RepV K H ξ ι d v) {σ : L2.St} {H : Hp} {Q : VK} (h : tE K (dC d) σ H Q) : tC v σ H Q := by
  obtain ⟨ξ, ι, ρ, S, d', S', st, re, e, k⟩ := h
  cases e
  exact k.here st (r _ _ _)
theorem me_int {i : Int} {j : Nat} {pos : Pos} : ME X (.Constant (.int i) j pos) (dC (.int i)) := pe_int.weak fun _ _ _ h => tE.const (d := .int i) (fun _ _ _ => rfl) h
theorem me_bl {b : Bool} {j : Nat} {pos : Pos} : ME X (.Constant (.bool b) j pos) (dC (.bl b)) := pe_bl.weak fun _ _ _ h => tE.const (d := .bl b) (fun _ _ _ => rfl) h
theorem me_non {j : Nat} {pos : Pos} : ME X (.Constant .none j pos) (dC .non) := pe_non.weak fun _ _ _ h => tE.const (d := .non) (fun _ _ _ => rfl) h
theorem me_str {x : Str} {j : Nat} {pos : Pos} : ME X (.Constant (.str x) j pos) (dC (.str x)) := pe_str.weak fun _ _ _ h => tE.const (d := .str x) (fun _ _ _ => rfl) h

/-! ### operations on two values -/
abbrev Op2 := D → D → Sto → Option (D × Sto)
def MOp (K : Frag) (r : R2) (g : Op2) : Prop := ∀ (H : Hp) (ξ ι : List Addr) (S S' : Sto) (x y d : D) (v w : V) (Q : VK), StoOk K H ξ ι S → RepV K H ξ ι x v → RepV K H ξ ι y w → g x y S = some (d, S') → Ans K ξ ι H S' d Q → r v w H Q
def dOp (g : Op2) (fa fb : EDen) : EDen := fun ρ S => bnd (fa ρ S) fun x S => bnd (fb ρ S) fun y S => g x y S
theorem tE.op {K : Frag} {r : R2} {g : Op2} (m : MOp K r g) {fa fb : EDen} {σ : L2.St} {H : Hp} {Q : VK} (h : tE K (dOp g fa fb) σ H Q) : tOp r (tE K fa) (tE K fb) σ H Q := by
  obtain ⟨ξ, ι, ρ, S, d, S', st, re, e, k⟩ := h
  obtain ⟨x, S1, e1, e⟩ := bnd_some e
  obtain ⟨y, S2, e2, e⟩ := bnd_some e
  refine tE.run st re e1 fun v1 H1 ι1 s1 st1 r1 => tE.run st1 (s1.env re) e2 fun v2 H2 ι2 s2 st2 r2 => ?_
  exact m H2 ξ ι2 S2 S' x y d v1 v2 Q st2 (s2.val r1) r2 e ((k.next s1).next s2)
theorem me_op {op : Operator} {r : R2} {g : Op2} {fa fb : EDen} {pos : Pos} (ho : OpR X (binaryOp op) r) (m : MOp X.K r g) (ha : ME X a fa) (hb : ME X b fb) : ME X (.BinOp a op b pos) (dOp g fa fb) :=
  (pe_op ho ha hb).weak fun _ _ _ h => h.op m
theorem me_cmp {op : CmpOp} {r : R2} {g : Op2} {fa fb : EDen} {pos : Pos} (ho : OpR X (compareOp op) r) (m : MOp X.K r g) (ha : ME X a fa) (hb : ME X b fb) (hm : behindInMarks op b = false) : ME X (.Compare a [op] [b] pos) (dOp g fa fb) :=
  (pe_cmpR ho ha hb hm).weak fun _ _ _ h => h.op m
def asB (f : EDen) : TDen := fun ρ S => bnd (f ρ S) fun d S => match d with
  | .bl b => some (b, S)
  | _ => none
theorem tB.of {K : Frag} {f : EDen} {σ : L2.St} {H : Hp} {Q : Bool → Hp → Prop} (h : tB K (asB f) σ H Q) : tE K f σ H fun z H3 => ∃ k, z = .bl k ∧ Q k H3 := by
  obtain ⟨ξ, ι, ρ, S, b, S', st, re, e, k⟩ := h
  obtain ⟨x, S1, e1, e⟩ := bnd_some e
  cases x with
  | bl c =>
    cases e
    exact tE.run st re e1 fun v H1 ι1 s1 st1 r1 => ⟨b, r1, k H1 ι1 s1 st1⟩
  | _ => cases e
theorem mt_cmp {op : CmpOp} {r : R2} {g : Op2} {fa fb : EDen} {pos : Pos} (ho : OpR X (compareOp op) r) (m : MOp X.K r g) (ha : ME X a fa) (hb : ME X b fb) (hm : behindInMarks op b = false) : MT X (.Compare a [op] [b] pos) (asB (dOp g fa fb)) :=
  (pt_cmpR ho ha hb hm).weak fun _ _ _ h => (tB.of h).op m
/-- an expression that gives True or False, as a test -/
theorem mt_val {f : EDen} (h : ME X e f) (he : ∀ whole, isTrue e X.env whole = (do let v ← whole; standAt e.pos; holding [v] (truthy v)) := by intro _; rfl) : MT X e (asB f) := (pt_val h he).weak fun _ _ _ h => tB.of h
/-- a < b < c -/
def dChain (g g' : Op2) (fa fb fc : EDen) : EDen := fun ρ S => bnd (fa ρ S) fun x S => bnd (fb ρ S) fun y S => bnd (g x y S) fun z S => match z with
  | .bl true => bnd (fc ρ S) fun w S => g' y w S
  | .bl false => some (.bl false, S)
  | _ => none
theorem tE.chain {K : Frag} {r r' : R2} {g g' : Op2} (m : MOp K r g) (m' : MOp K r' g') {fa fb fc : EDen} {σ : L2.St} {H : Hp} {Q : VK} (h : tE K (dChain g g' fa fb fc) σ H Q) : tChain r r' (tE K fa) (tE K fb) (tE K fc) σ H Q := by
  obtain ⟨ξ, ι, ρ, S, d, S', st, re, e, k⟩ := h
  obtain ⟨x, S1, e1, e⟩ := bnd_some e
  obtain ⟨y, S2, e2, e⟩ := bnd_some e
  obtain ⟨z, S3, e3, e⟩ := bnd_some e
  refine tE.run st re e1 fun v1 H1 ι1 s1 st1 r1 => tE.run st1 (s1.env re) e2 fun v2 H2 ι2 s2 st2 r2 => ?_
  refine m H2 ξ ι2 S2 S3 x y z v1 v2 _ st2 (s2.val r1) r2 e3 fun v3 H3 ι3 s3 st3 r3 => ?_
  cases z with
  | bl b =>
    refine ⟨b, r3, ?_⟩
    cases b with
    | true =>
      obtain ⟨w, S4, e4, e⟩ := bnd_some e
      refine iteT (tE.run st3 (s3.env (s2.env (s1.env re))) e4 fun v4 H4 ι4 s4 st4 r4 => ?_)
      exact m' H4 ξ ι4 S4 S' y w d v2 v4 Q st4 (s4.val (s3.val r2)) r4 e ((((k.next s1).next s2).next s3).next s4)
    | false =>
      cases e
      exact iteF ((((k.next s1).next s2).next s3).here st3 rfl)
  | _ => cases e
theorem me_chain {op op' : CmpOp} {r r' : R2} {g g' : Op2} {fa fb fc : EDen} {pos : Pos} (ho : OpR X (compareOp op) r) (m : MOp X.K r g) (ho' : OpR X (compareOp op') r') (m' : MOp X.K r' g') (ha : ME X a fa) (hb : ME X b fb) (hc : ME X c fc)
    (hm : lastMarks [op, op'] [b, c] = false := by with_unfolding_all rfl) : ME X (.Compare a [op, op'] [b, c] pos) (dChain g g' fa fb fc) := (pe_chain ho ho' ha hb hc hm).weak fun _ _ _ h => h.chain m m'
theorem mt_chain {op op' : CmpOp} {r r' : R2} {g g' : Op2} {fa fb fc : EDen} {pos : Pos} (ho : OpR X (compareOp op) r) (m : MOp X.K r g) (ho' : OpR X (compareOp op') r') (m' : MOp X.K r' g') (ha : ME X a fa) (hb : ME X b fb) (hc : ME X c fc)
    (hm : lastMarks [op, op'] [b, c] = false := by with_unfolding_all rfl) : MT X (.Compare a [op, op'] [b, c] pos) (asB (dChain g g' fa fb fc)) := (pt_chain ho ho' ha hb hc hm).weak fun _ _ _ h => (tB.of h).chain m m'
theorem OpR.or {f : Value → Value → Sem Value} {r r' : R2} (h : OpR X f r) (h' : OpR X f r') : OpR X f (fun x y H Q => r x y H Q ∨ r' x y H Q) := by
  intro pins s σ H x y v u Q I rx ry q
  rcases q with q | q
  · exact h pins s σ H x y v u Q I rx ry q
  · exact h' pins s σ H x y v u Q I rx ry q

/-! ### ints -/
def gI (g : Int → Int → Option D) : Op2 := fun x y S => match x, y with
  | .int i, .int j => (g i j).map fun d => (d, S)
  | _, _ => none
theorem gI_some {g : Int → Int → Option D} {x y d : D} {S S' : Sto} (h : gI g x y S = some (d, S')) : ∃ i j, x = .int i ∧ y = .int j ∧ g i j = some d ∧ S' = S := by
  unfold gI at h
  split at h
  · rename_i i j
    cases q : g i j with
    | none => rw [q] at h; cases h
    | some e => rw [q] at h; cases h; exact ⟨i, j, rfl, rfl, q, rfl⟩
  · cases h
theorem mI {K : Frag} {C : Int → Int → Prop} {g : Int → Int → Option D} {f : Int → Int → V} (h : ∀ i j d, g i j = some d → C i j ∧ ∀ H ξ ι, RepV K H ξ ι d (f i j)) : MOp K (rI C f) (gI g) := by
  intro H ξ ι S S' x y d v w Q st rx ry e k
  obtain ⟨i, j, rfl, rfl, e2, rfl⟩ := gI_some e
  obtain ⟨h1, h2⟩ := h i j d e2
  exact ⟨i, j, rx, ry, h1, k.here st (h2 _ _ _)⟩
theorem mI0 {K : Frag} {g : Int → Int → Option D} {f : Int → Int → V} (h : ∀ i j d, g i j = some d → ∀ H ξ ι, RepV K H ξ ι d (f i j)) : MOp K (rI0 f) (gI g) := by
  intro H ξ ι S S' x y d v w Q st rx ry e k
  obtain ⟨i, j, rfl, rfl, e2, rfl⟩ := gI_some e
  exact ⟨i, j, rx, ry, k.here st (h i j d e2 _ _ _)⟩
/-- products: one side below 2 ^ 64, or both together below a million bits -/
def mulOk (i j : Int) : Bool := decide (i.natAbs < 2 ^ 64) || decide (j.natAbs < 2 ^ 64) || decide (i.natAbs.log2 + j.natAbs.log2 < 1000000)
def divOk (j : Int) : Bool := decide (j ≠ 0) && decide (j.natAbs.log2 < 9000)
def gSub : Op2 := gI fun i j => some (.int (i - j))
def gMod : Op2 := gI fun i j => if j ≠ 0 then some (.int (i.fmod j)) else none
def gDiv : Op2 := gI fun i j => if divOk j then some (.int (i.fdiv j)) else none
def gPow : Op2 := gI fun i j => if 0 ≤ j ∧ j ≤ 1000000 ∧ i.natAbs < 2 ^ 64 then some (.int (i ^ j.toNat)) else none
def gShl : Op2 := gI fun i j => if 0 ≤ j ∧ j ≤ 1000000 ∧ i.natAbs < 2 ^ 64 then some (.int (i * 2 ^ j.toNat)) else none
def gLt : Op2 := gI fun i j => some (.bl (decide (i < j)))
def gLe : Op2 := gI fun i j => some (.bl (decide (i ≤ j)))
def gGt : Op2 := gI fun i j => some (.bl (decide (j < i)))
def gGe : Op2 := gI fun i j => some (.bl (decide (j ≤ i)))
variable {K : Frag}
theorem o_sub : OpR X (binaryOp .Sub) (rI0 fun i j => .int (i - j)) := op_sub
theorem m_sub : MOp K (rI0 fun i j => .int (i - j)) gSub := mI0 fun i j d h _ _ _ => by cases h; rfl
def CMulA (i j : Int) : Prop := mulOk i j = true
theorem CMulA.ok {i j : Int} (h : CMulA i j) : IntMulOk i j := by
  have h : mulOk i j = true := h
  unfold mulOk at h
  simp only [Bool.or_eq_true, decide_eq_true_eq] at h
  rcases h with (h | h) | h
  · exact CMul.ok (.inl (by omega))
  · exact CMul.ok (.inr (by omega))
  · exact CMulW.ok h
theorem o_mulI : OpR X (binaryOp .Mult) (rI CMulA fun i j => .int (i * j)) := opI fun _ _ _ _ _ _ _ hc q => mul_int q hc.ok
def gMulI : Op2 := gI fun i j => if mulOk i j then some (.int (i * j)) else none
theorem m_mulI : MOp K (rI CMulA fun i j => .int (i * j)) gMulI := mI fun i j d h => by
  split at h
  · rename_i q
    cases h
    exact ⟨q, fun _ _ _ => rfl⟩
  · cases h
theorem o_mod : OpR X (binaryOp .Mod) (rI (fun _ j => j ≠ 0) fun i j => .int (i.fmod j)) := op_modN
theorem m_mod : MOp K (rI (fun _ j => j ≠ 0) fun i j => .int (i.fmod j)) gMod := mI fun i j d h => by
  split at h
  · rename_i q
    cases h
    exact ⟨q, fun _ _ _ => rfl⟩
  · cases h
def CDivA (_ j : Int) : Prop := divOk j = true
theorem o_div : OpR X (binaryOp .FloorDiv) (rI CDivA fun i j => .int (i.fdiv j)) := opI fun i j _ _ _ _ _ hc q => by
  have hc : divOk j = true := hc
  unfold divOk at hc
  simp only [Bool.and_eq_true, decide_eq_true_eq] at hc
  exact floordiv_int hc.1 q (.inl (PyProof.noPylong_of_log2 hc.2))
theorem m_div : MOp K (rI CDivA fun i j => .int (i.fdiv j)) gDiv := mI fun i j d h => by
  split at h
  · rename_i q
    cases h
    exact ⟨q, fun _ _ _ => rfl⟩
  · cases h
theorem m_pow : MOp K (rI CPow fun i j => .int (i ^ j.toNat)) gPow := mI fun i j d h => by
  split at h
  · rename_i q
    cases h
    exact ⟨q, fun _ _ _ => rfl⟩
  · cases h
theorem m_shl : MOp K (rI CPow fun i j => .int (i * 2 ^ j.toNat)) gShl := mI fun i j d h => by
  split at h
  · rename_i q
    cases h
    exact ⟨q, fun _ _ _ => rfl⟩
  · cases h
theorem m_lt : MOp K (rI0 fun i j => .bl (decide (i < j))) gLt := mI0 fun i j d h _ _ _ => by cases h; rfl
theorem m_le : MOp K (rI0 fun i j => .bl (decide (i ≤ j))) gLe := mI0 fun i j d h _ _ _ => by cases h; rfl
theorem m_gt : MOp K (rI0 fun i j => .bl (decide (j < i))) gGt := mI0 fun i j d h _ _ _ => by cases h; rfl
theorem m_ge : MOp K (rI0 fun i j => .bl (decide (j ≤ i))) gGe := mI0 fun i j d h _ _ _ => by cases h; rfl
/-- one value -/
def MUn (K : Frag) (r : V → Hp → VK → Prop) (g : D → Option D) : Prop := ∀ (H : Hp) (ξ ι : List Addr) (S : Sto) (x d : D) (v : V) (Q : VK), StoOk K H ξ ι S → RepV K H ξ ι x v → g x = some d → Ans K ξ ι H S d Q → r v H Q
def dUn (g : D → Option D) (fa : EDen) : EDen := fun ρ S => bnd (fa ρ S) fun x S => (g x).map fun d => (d, S)
theorem me_un {op : UnaryOp} {r : V → Hp → VK → Prop} {g : D → Option D} {fa : EDen} {pos : Pos} (ho : UnR X (unaryOp op) r) (m : MUn X.K r g) (ha : ME X a fa) : ME X (.UnaryOp op a pos) (dUn g fa) :=
  (pe_un ho ha).weak fun σ H Q ⟨ξ, ι, ρ, S, d, S', st, re, e, k⟩ => by
    obtain ⟨x, S1, e1, e⟩ := bnd_some e
    cases q : g x with
    | none => rw [q] at e; cases e
    | some d' =>
      rw [q] at e
      cases e
      exact tE.run st re e1 fun v1 H1 ι1 s1 st1 r1 => m H1 ξ ι1 _ x _ v1 Q st1 r1 q (k.next s1)
def gNeg : D → Option D
  | .int i => some (.int (-i))
  | _ => none
theorem m_neg : MUn K (rU fun i => .int (-i)) gNeg := by
  intro H ξ ι S x d v Q st rx e k
  cases x with
  | int i => cases e; exact ⟨i, rx, k.here st rfl⟩
  | _ => cases e

/-! ### and, or, not, if -/
def tbAnd (fa fb : TDen) : TDen := fun ρ S => bnd (fa ρ S) fun b S => if b = true then fb ρ S else some (false, S)
def tbOr (fa fb : TDen) : TDen := fun ρ S => bnd (fa ρ S) fun b S => if b = true then some (true, S) else fb ρ S
def tbNot (fa : TDen) : TDen := fun ρ S => bnd (fa ρ S) fun b S => some (!b, S)
abbrev MW (X : Cx) (e : Expr) (f : TDen) : Prop := PW X e (tB X.K f)
theorem _root_.L2.PW.weak {t t' : TT} (h : PW X e t) (w : ∀ σ H Q, t' σ H Q → t σ H Q) : PW X e t' := ⟨fun wh pins s σ H Q I q => h.run wh pins s σ H Q I (w σ H Q q)⟩
theorem mw_and1 {fa : TDen} {pos : Pos} (h : MT X a fa) : MW X (.BoolOp .And [a] pos) fa := pw_and1 h
theorem mw_or1 {fa : TDen} {pos : Pos} (h : MT X a fa) : MW X (.BoolOp .Or [a] pos) fa := pw_or1 h
theorem mw_and {fa fb : TDen} {rest : List Expr} {pos : Pos} (ha : MT X a fa) (hb : MW X (.BoolOp .And (b :: rest) pos) fb) : MW X (.BoolOp .And (a :: b :: rest) pos) (tbAnd fa fb) :=
  (pw_and ha hb).weak fun σ H Q ⟨ξ, ι, ρ, S, d, S', st, re, e, k⟩ => by
    obtain ⟨x, S1, e1, e⟩ := bnd_some e
    refine tB.run st re e1 fun H1 ι1 s1 st1 => ?_
    cases x with
    | true => exact iteT (tB.run st1 (s1.env re) e (k.next s1))
    | false => cases e; exact iteF (k H1 ι1 s1 st1)
theorem mw_or {fa fb : TDen} {rest : List Expr} {pos : Pos} (ha : MT X a fa) (hb : MW X (.BoolOp .Or (b :: rest) pos) fb) : MW X (.BoolOp .Or (a :: b :: rest) pos) (tbOr fa fb) :=
  (pw_or ha hb).weak fun σ H Q ⟨ξ, ι, ρ, S, d, S', st, re, e, k⟩ => by
    obtain ⟨x, S1, e1, e⟩ := bnd_some e
    refine tB.run st re e1 fun H1 ι1 s1 st1 => ?_
    cases x with
    | false => exact iteF (tB.run st1 (s1.env re) e (k.next s1))
    | true => cases e; exact iteT (k H1 ι1 s1 st1)
theorem MW.pt {f : TDen} (h : MW X e f) : MT X e f := L2.PW.pt h
theorem mt_not {fa : TDen} {pos : Pos} (ha : MT X a fa) : MT X (.UnaryOp .Not a pos) (tbNot fa) := (pt_not ha).weak fun σ H Q ⟨ξ, ι, ρ, S, d, S', st, re, e, k⟩ => by
  obtain ⟨x, S1, e1, e⟩ := bnd_some e
  cases e
  exact tB.run st re e1 k
/-- .. as values -/
def dAnd (fa fb : EDen) : EDen := fun ρ S => bnd (fa ρ S) fun x S => match x with
  | .bl true => fb ρ S
  | .bl false => some (.bl false, S)
  | _ => none
def dOr (fa fb : EDen) : EDen := fun ρ S => bnd (fa ρ S) fun x S => match x with
  | .bl true => some (.bl true, S)
  | .bl false => fb ρ S
  | _ => none
def dNot (fa : EDen) : EDen := fun ρ S => bnd (fa ρ S) fun x S => match x with
  | .bl b => some (.bl !b, S)
  | _ => none
theorem me_one {op : BoolOp} {f : EDen} {pos : Pos} (h : ME X a f) : ME X (.BoolOp op [a] pos) f := pe_one h
theorem me_and {fa fb : EDen} {rest : List Expr} {pos : Pos} (ha : ME X a fa) (hb : ME X (.BoolOp .And (b :: rest) pos) fb) : ME X (.BoolOp .And (a :: b :: rest) pos) (dAnd fa fb) :=
  (pe_and ha hb).weak fun σ H Q ⟨ξ, ι, ρ, S, d, S', st, re, e, k⟩ => by
    obtain ⟨x, S1, e1, e⟩ := bnd_some e
    refine tE.run st re e1 fun v1 H1 ι1 s1 st1 r1 => ?_
    cases x with
    | bl c =>
      refine ⟨c, r1, ?_⟩
      cases c with
      | true => exact iteT (tE.run st1 (s1.env re) e (k.next s1))
      | false => cases e; exact iteF (k _ H1 ι1 s1 st1 rfl)
    | _ => cases e
theorem me_or {fa fb : EDen} {rest : List Expr} {pos : Pos} (ha : ME X a fa) (hb : ME X (.BoolOp .Or (b :: rest) pos) fb) : ME X (.BoolOp .Or (a :: b :: rest) pos) (dOr fa fb) :=
  (pe_or ha hb).weak fun σ H Q ⟨ξ, ι, ρ, S, d, S', st, re, e, k⟩ => by
    obtain ⟨x, S1, e1, e⟩ := bnd_some e
    refine tE.run st re e1 fun v1 H1 ι1 s1 st1 r1 => ?_
    cases x with
    | bl c =>
      refine ⟨c, r1, ?_⟩
      cases c with
      | false => exact iteF (tE.run st1 (s1.env re) e (k.next s1))
      | true => cases e; exact iteT (k _ H1 ι1 s1 st1 rfl)
    | _ => cases e
theorem me_not {fa : EDen} {pos : Pos} (ha : ME X a fa) : ME X (.UnaryOp .Not a pos) (dNot fa) := (pe_not ha).weak fun σ H Q ⟨ξ, ι, ρ, S, d, S', st, re, e, k⟩ => by
  obtain ⟨x, S1, e1, e⟩ := bnd_some e
  refine tE.run st re e1 fun v1 H1 ι1 s1 st1 r1 => ?_
  cases x with
  | bl c => cases e; exact ⟨c, r1, k _ H1 ι1 s1 st1 rfl⟩
  | _ => cases e
def dIf (fc : TDen) (fa fb : EDen) : EDen := fun ρ S => bnd (fc ρ S) fun b S => if b = true then fa ρ S else fb ρ S
theorem me_if {fc : TDen} {fa fb : EDen} {pos : Pos} (hc : MT X c fc) (ha : ME X a fa) (hb : ME X b fb) : ME X (.IfExp c a b pos) (dIf fc fa fb) := (pe_ifExp hc ha hb).weak fun σ H Q ⟨ξ, ι, ρ, S, d, S', st, re, e, k⟩ => by
  obtain ⟨x, S1, e1, e⟩ := bnd_some e
  refine tB.run st re e1 fun H1 ι1 s1 st1 => ?_
  cases x with
  | true => exact iteT (tE.run st1 (s1.env re) e (k.next s1))
  | false => exact iteF (tE.run st1 (s1.env re) e (k.next s1))

/-! ### argument lists, displays -/
def aNil : ADen := fun _ S => some ([], S)
def aCons (fa : EDen) (fr : ADen) : ADen := fun ρ S => bnd (fa ρ S) fun x S => bnd (fr ρ S) fun xs S => some (x :: xs, S)
theorem ma_nil : MA X [] aNil := pa_nil.weak fun σ H Q ⟨ξ, ι, ρ, S, d, S', st, re, e, k⟩ => by
  cases e
  exact k [] H ι Step.refl st rfl
theorem ma_cons {es : List Expr} {fa : EDen} {fr : ADen} (ha : ME X e fa) (hr : MA X es fr) (hs : starEach (e :: es) X.env = (false, eval e X.env) :: starEach es X.env := by rfl) : MA X (e :: es) (aCons fa fr) :=
  (pa_cons ha hr hs).weak fun σ H Q ⟨ξ, ι, ρ, S, d, S', st, re, e, k⟩ => by
    obtain ⟨x, S1, e1, e⟩ := bnd_some e
    obtain ⟨xs, S2, e2, e⟩ := bnd_some e
    cases e
    exact tE.run st re e1 fun v1 H1 ι1 s1 st1 r1 => tA.run st1 (s1.env re) e2 fun vs H2 ι2 s2 st2 r2 => ((k.next s1).next s2) _ H2 ι2 Step.refl st2 (RepL.cons (s2.val r1) r2)
def szOk {α : Type} (ds : List α) : Bool := decide (ds.length ≤ sizeLine)
def dTup (f : ADen) : EDen := fun ρ S => bnd (f ρ S) fun ds S => if szOk ds then some (.tup ds, S) else none
def dLst (f : ADen) : EDen := fun ρ S => bnd (f ρ S) fun ds S => if szOk ds then some (.fl ds, S) else none
def dCell (f : ADen) : EDen := fun ρ S => bnd (f ρ S) fun ds S => if szOk ds then (if D.fitL S.length ds then some (.ref S.length, S ++ [.lst ds]) else none) else none
theorem Ans.tup {S : Sto} {H : Hp} {ξ ι : List Addr} {ds : List D} {vs : List V} {Q : VK} {p : Addr} (k : Ans K ξ ι H S (.tup ds) Q) (st : StoOk K H ξ ι S) (r : RepL K H ξ ι ds vs) (hp : H p = none) : Q (.ref p) (upd H p (.tup vs)) :=
  k _ _ ι (Step.upd hp) (st.upd hp) (new_tup st hp r)
theorem Ans.fl {S : Sto} {H : Hp} {ξ ι : List Addr} {ds : List D} {vs : List V} {Q : VK} {p : Addr} (k : Ans K ξ ι H S (.fl ds) Q) (st : StoOk K H ξ ι S) (r : RepL K H ξ ι ds vs) (hp : H p = none) : Q (.ref p) (upd H p (.lst vs)) :=
  k _ _ ι (Step.upd hp) (st.upd hp) (new_fl st hp r)
theorem new_cell {S : Sto} {H : Hp} {ξ ι : List Addr} {ds : List D} {vs : List V} {p : Addr} (st : StoOk K H ξ ι S) (r : RepL K H ξ ι ds vs) (hp : H p = none) (hf : D.fitL S.length ds = true) :
    StoOk K (upd H p (.lst vs)) ξ (ι ++ [p]) (S ++ [.lst ds]) ∧ RepV K (upd H p (.lst vs)) ξ (ι ++ [p]) (.ref S.length) (.ref p) := by
  have s : Step H ι (upd H p (.lst vs)) (ι ++ [p]) := Step.push st hp
  refine ⟨st.push hp ⟨vs, upd_same, s.vals r⟩ hf, p, rfl, ?_⟩
  rw [← st.len, List.getElem?_append_right (Nat.le_refl _), Nat.sub_self]
  rfl
theorem Ans.cell {S : Sto} {H : Hp} {ξ ι : List Addr} {ds : List D} {vs : List V} {Q : VK} {p : Addr} (k : Ans K ξ ι H (S ++ [.lst ds]) (.ref S.length) Q) (st : StoOk K H ξ ι S) (r : RepL K H ξ ι ds vs) (hp : H p = none) (hf : D.fitL S.length ds = true) : Q (.ref p) (upd H p (.lst vs)) :=
  k _ _ (ι ++ [p]) (Step.push st hp) (new_cell st r hp hf).1 (new_cell st r hp hf).2
theorem me_tup {es : List Expr} {f : ADen} {x1 : Nat} {pos : Pos} (h : MA X es f) : ME X (.Tuple es x1 pos) (dTup f) := (pe_tup h).weak fun σ H Q ⟨ξ, ι, ρ, S, d, S', st, re, e, k⟩ => by
  obtain ⟨ds, S1, e1, e⟩ := bnd_some e
  split at e
  · rename_i hz
    cases e
    refine tA.run st re e1 fun vs H1 ι1 s1 st1 r1 => ⟨?_, fun p hp => ?_⟩
    · rw [r1.length]; exact of_decide_eq_true hz
    · exact (k.next s1).tup st1 r1 hp
  · cases e
theorem me_lst {es : List Expr} {f : ADen} {pos : Pos} (h : MA X es f) : ME X (.List es pos) (dLst f) := (pe_lst h).weak fun σ H Q ⟨ξ, ι, ρ, S, d, S', st, re, e, k⟩ => by
  obtain ⟨ds, S1, e1, e⟩ := bnd_some e
  split at e
  · rename_i hz
    cases e
    refine tA.run st re e1 fun vs H1 ι1 s1 st1 r1 => ⟨?_, fun p hp => ?_⟩
    · rw [r1.length]; exact of_decide_eq_true hz
    · exact (k.next s1).fl st1 r1 hp
  · cases e
theorem me_cell {es : List Expr} {f : ADen} {pos : Pos} (h : MA X es f) : ME X (.List es pos) (dCell f) := (pe_lst h).weak fun σ H Q ⟨ξ, ι, ρ, S, d, S', st, re, e, k⟩ => by
  obtain ⟨ds, S1, e1, e⟩ := bnd_some e
  split at e
  · rename_i hz
    split at e
    · rename_i hf
      cases e
      refine tA.run st re e1 fun vs H1 ι1 s1 st1 r1 => ⟨?_, fun p hp => ?_⟩
      · rw [r1.length]; exact of_decide_eq_true hz
      · exact (k.next s1).cell st1 r1 hp hf
    · cases e
  · cases e
end
end MS

namespace MS
open PySem PySem.Spec PyProof.Rows L2

/-! ### lists, tuples -/
def listOf (S : Sto) : D → Option (List D)
  | .fl ds => some ds
  | .rl ds => some ds
  | .ref n => match S[n]? with
    | some (.lst ds) => some ds
    | _ => none
  | _ => none
/-- .. that the store tracks (not the script) -/
def mlistOf (S : Sto) : D → Option (List D)
  | .fl ds => some ds
  | .ref n => match S[n]? with
    | some (.lst ds) => some ds
    | _ => none
  | _ => none
section
variable {K : Frag} {H : Hp} {ξ ι : List Addr} {S : Sto} {d : D} {v : V} {ds : List D}
theorem mlistOf_ok (st : StoOk K H ξ ι S) (r : RepV K H ξ ι d v) (e : mlistOf S d = some ds) : ∃ a vs, v = .ref a ∧ H a = some (.lst vs) ∧ RepL K H ξ ι ds vs := by
  cases d with
  | fl es =>
    cases e
    obtain ⟨a, vs, h1, h2, h3⟩ := r
    exact ⟨a, vs, h1, h2.1, h3⟩
  | ref n =>
    obtain ⟨a, h1, h2⟩ := r
    unfold mlistOf at e
    simp only at e
    split at e
    · rename_i es q
      cases e
      obtain ⟨b, h3, h4⟩ := st.cell n _ q
      obtain rfl : b = a := Option.some.inj (h3.symm.trans h2)
      obtain ⟨vs, h5, h6⟩ := h4
      exact ⟨b, vs, h1, h5, h6⟩
    · cases e
  | _ => cases e
theorem listOf_ok (st : StoOk K H ξ ι S) (r : RepV K H ξ ι d v) (e : listOf S d = some ds) : ∃ a vs, v = .ref a ∧ SqL K H a vs ∧ RepL K H ξ ι ds vs := by
  cases d with
  | rl es =>
    cases e
    obtain ⟨a, vs, h1, h2, h3⟩ := r
    exact ⟨a, vs, h1, h2.sq, h3⟩
  | fl es =>
    obtain ⟨a, vs, h1, h2, h3⟩ := mlistOf_ok st r (show mlistOf S (.fl es) = some ds from e)
    exact ⟨a, vs, h1, .inl (.inl h2), h3⟩
  | ref n =>
    obtain ⟨a, vs, h1, h2, h3⟩ := mlistOf_ok st r (show mlistOf S (.ref n) = some ds from e)
    exact ⟨a, vs, h1, .inl (.inl h2), h3⟩
  | _ => cases e
/-- a list or a tuple -/
def seqOf (S : Sto) : D → Option (List D)
  | .tup ds => some ds
  | d => listOf S d
theorem seqOf_ok (st : StoOk K H ξ ι S) (r : RepV K H ξ ι d v) (e : seqOf S d = some ds) : ∃ a vs, v = .ref a ∧ (SqL K H a vs ∨ SqT K H a vs) ∧ RepL K H ξ ι ds vs := by
  cases d with
  | tup es =>
    cases e
    obtain ⟨a, vs, h1, h2, h3⟩ := r
    exact ⟨a, vs, h1, .inr h2.sq, h3⟩
  | _ =>
    obtain ⟨a, vs, h1, h2, h3⟩ := listOf_ok st r e
    exact ⟨a, vs, h1, .inl h2, h3⟩
theorem atI_rep {vs : List V} {i : Int} (r : RepL K H ξ ι ds vs) (e : atI ds i = some d) : ∃ v, atI vs i = some v ∧ RepV K H ξ ι d v := by
  unfold atI at e ⊢
  rw [r.length]
  cases q : ixN ds.length i with
  | none => rw [q] at e; cases e
  | some j =>
    rw [q] at e
    exact r.get e
end
section
variable {X : Cx} {K : Frag}
/-! ### a[i] -/
def gIx : Op2 := fun x y S => match y with
  | .int i => match x with
    | .tup ds => (atI ds i).map fun d => (d, S)
    | .str z => if z.length ≤ sizeLine then (atI z.cps.toList i).map fun c => (.str ⟨#[c]⟩, S) else none
    | x => (listOf S x).bind fun ds => (atI ds i).map fun d => (d, S)
  | _ => none
theorem m_ix : MOp K (rIx K) gIx := by
  intro H ξ ι S S' x y d v w Q st rx ry e k
  have lst : (listOf S x).bind (fun ds => match y with
      | .int i => (atI ds i).map fun d => (d, S)
      | _ => none) = some (d, S') → rIx K v w H Q := fun e => by
    cases q : listOf S x with
    | none => rw [q] at e; cases e
    | some ds =>
      rw [q] at e
      cases y with
      | int i =>
        have e : (atI ds i).map (fun d => (d, S)) = some (d, S') := e
        cases q2 : atI ds i with
        | none => rw [q2] at e; cases e
        | some z =>
          rw [q2] at e
          cases e
          obtain ⟨a, vs, h1, h2, h3⟩ := listOf_ok st rx q
          obtain ⟨u, h4, h5⟩ := atI_rep h3 q2
          exact .inl ⟨a, vs, i, u, h1, ry, h2, h4, k.here st h5⟩
      | _ => cases e
  cases y with
  | int i =>
    cases x with
    | tup ds =>
      have e : (atI ds i).map (fun d => (d, S)) = some (d, S') := e
      cases q2 : atI ds i with
      | none => rw [q2] at e; cases e
      | some z =>
        rw [q2] at e
        cases e
        obtain ⟨a, vs, h1, h2, h3⟩ := rx
        obtain ⟨u, h4, h5⟩ := atI_rep h3 q2
        exact .inr (.inl ⟨a, vs, i, u, h1, ry, h2.sq, h4, k.here st h5⟩)
    | str z =>
      have e : (if z.length ≤ sizeLine then (atI z.cps.toList i).map fun c => (D.str ⟨#[c]⟩, S) else none) = some (d, S') := e
      split at e
      · rename_i hz
        cases q2 : atI z.cps.toList i with
        | none => rw [q2] at e; cases e
        | some c =>
          rw [q2] at e
          cases e
          exact .inr (.inr ⟨z, i, c, rx, ry, hz, q2, k.here st rfl⟩)
      · cases e
    | fl ds => exact lst e
    | rl ds => exact lst e
    | ref n => exact lst e
    | _ => cases e
  | _ => cases e
theorem me_ix {a b : Expr} {fa fb : EDen} {pos : Pos} (ha : ME X a fa) (hb : ME X b fb) (hs : PlainIx b := by exact fun _ _ => rfl) : ME X (.Subscript a b pos) (dOp gIx fa fb) := (pe_ix ix_seq ha hb hs).weak fun _ _ _ h => h.op m_ix

/-! ### slices -/
abbrev PDen := Env → Sto → Option (Option Int × Sto)
def tP (K : Frag) (f : PDen) : TO := fun σ H Q => ∃ ξ ι ρ S o S', StoOk K H ξ ι S ∧ RepE K H ξ ι ρ σ ∧ f ρ S = some (o, S') ∧ AnsT K ξ ι H S' (Q o)
theorem _root_.L2.PO.weak {e : Option Expr} {t t' : TO} (h : PO X e t) (w : ∀ σ H Q, t' σ H Q → t σ H Q) : PO X e t' := ⟨fun pins s σ H Q I q => h.run pins s σ H Q I (w σ H Q q)⟩
def pNo : PDen := fun _ S => some (none, S)
def pAt (f : EDen) : PDen := fun ρ S => bnd (f ρ S) fun d S => match d with
  | .int i => some (some i, S)
  | _ => none
theorem mp_none : PO X none (tP X.K pNo) := po_none.weak fun σ H Q ⟨ξ, ι, ρ, S, d, S', st, re, e, k⟩ => by
  cases e
  exact k H ι Step.refl st
theorem mp_some {e : Expr} {f : EDen} (h : ME X e f) : PO X (some e) (tP X.K (pAt f)) := (po_some h).weak fun σ H Q ⟨ξ, ι, ρ, S, d, S', st, re, e, k⟩ => by
  obtain ⟨x, S1, e1, e⟩ := bnd_some e
  cases x with
  | int i =>
    cases e
    exact tE.run st re e1 fun v1 H1 ι1 s1 st1 r1 => ⟨i, r1, k H1 ι1 s1 st1⟩
  | _ => cases e
def cutD (ds : List D) (lo hi : Option Int) : List D := (ds.drop (HT.sIx ds.length 0 lo)).take (HT.sIx ds.length ds.length hi - HT.sIx ds.length 0 lo)
theorem cut_rep {H : Hp} {ξ ι : List Addr} {ds : List D} {vs : List V} {lo hi : Option Int} (r : RepL K H ξ ι ds vs) : RepL K H ξ ι (cutD ds lo hi) (cutV vs lo hi) := by
  unfold cutD cutV
  rw [r.length]
  exact (r.drop _).take _
def cutS' (z : Str) (lo hi : Option Int) : Str := cutS z lo hi
def gSl (x : D) (lo hi : Option Int) (S : Sto) : Option (D × Sto) := match x with
  | .tup ds => some (.tup (cutD ds lo hi), S)
  | .str z => if z.length ≤ sizeLine then some (.str (cutS z lo hi), S) else none
  | x => (listOf S x).map fun ds => (.fl (cutD ds lo hi), S)
def dSl (fa : EDen) (fl fh : PDen) : EDen := fun ρ S => bnd (fa ρ S) fun x S => bnd (fl ρ S) fun lo S => bnd (fh ρ S) fun hi S => gSl x lo hi S
def rSlS : V → Option Int → Option Int → Hp → VK → Prop := fun x lo hi H Q => ∃ z, x = .str z ∧ z.length ≤ sizeLine ∧ Q (.str (cutS z lo hi)) H
def rSlAll (K : Frag) : V → Option Int → Option Int → Hp → VK → Prop := fun x lo hi H Q => rSlL K x lo hi H Q ∨ rSlA K x lo hi H Q ∨ rSlS x lo hi H Q
theorem sl_all (hs : SlR X rSlS) : SlR X (rSlAll X.K) := sl_list.or (sl_tupA.or hs)
theorem whole_cut (ds : List D) (lo hi : Option Int) (h : HT.sIx ds.length 0 lo = 0 ∧ HT.sIx ds.length ds.length hi = ds.length) : cutD ds lo hi = ds := by
  unfold cutD
  rw [h.1, h.2]
  simp
theorem m_sl {x d : D} {lo hi : Option Int} {S S' : Sto} {H : Hp} {ξ ι : List Addr} {v : V} {Q : VK} (st : StoOk K H ξ ι S) (rx : RepV K H ξ ι x v) (e : gSl x lo hi S = some (d, S')) (k : Ans K ξ ι H S' d Q) : rSlAll K v lo hi H Q := by
  have lst : (listOf S x).map (fun ds => (D.fl (cutD ds lo hi), S)) = some (d, S') → rSlAll K v lo hi H Q := fun e => by
    cases q : listOf S x with
    | none => rw [q] at e; cases e
    | some ds =>
      rw [q] at e
      cases e
      obtain ⟨a, vs, h1, h2, h3⟩ := listOf_ok st rx q
      exact .inl ⟨a, vs, h1, h2, fun p hp => k.fl st (cut_rep h3) hp⟩
  cases x with
  | tup ds =>
    cases e
    obtain ⟨a, vs, h1, h2, h3⟩ := rx
    refine .inr (.inl ⟨a, vs, h1, h2.sq, fun hw => ?_, fun _ p hp => k.tup st (cut_rep h3) hp⟩)
    have hw' : HT.sIx ds.length 0 lo = 0 ∧ HT.sIx ds.length ds.length hi = ds.length := by rw [← h3.length]; exact hw
    refine k.here st ?_
    rw [whole_cut _ _ _ hw']
    exact ⟨a, vs, rfl, h2, h3⟩
  | str z =>
    have e : (if z.length ≤ sizeLine then some (D.str (cutS z lo hi), S) else none) = some (d, S') := e
    split at e
    · rename_i hz
      cases e
      exact .inr (.inr ⟨z, rx, hz, k.here st rfl⟩)
    · cases e
  | fl ds => exact lst e
  | rl ds => exact lst e
  | ref n => exact lst e
  | _ => cases e
theorem me_sl {a : Expr} {lo hi : Option Expr} {p2 pos : Pos} {fa : EDen} {fl fh : PDen} (ha : ME X a fa) (hl : PO X lo (tP X.K fl)) (hh : PO X hi (tP X.K fh)) : ME X (.Subscript a (.Slice lo hi none p2) pos) (dSl fa fl fh) :=
  (pe_slice (sl_all sl_str) ha hl hh).weak fun σ H Q ⟨ξ, ι, ρ, S, d, S', st, re, e, k⟩ => by
    obtain ⟨x, S1, e1, e⟩ := bnd_some e
    obtain ⟨l, S2, e2, e⟩ := bnd_some e
    obtain ⟨h, S3, e3, e⟩ := bnd_some e
    refine tE.run st re e1 fun v1 H1 ι1 s1 st1 r1 => ⟨ξ, ι1, ρ, S1, l, S2, st1, s1.env re, e2, fun H2 ι2 s2 st2 => ⟨ξ, ι2, ρ, S2, h, S3, st2, s2.env (s1.env re), e3, fun H3 ι3 s3 st3 => ?_⟩⟩
    exact m_sl st3 (s3.val (s2.val r1)) e (((k.next s1).next s2).next s3)
/-- xs[::-1] of a list -/
def dRev (fa : EDen) : EDen := fun ρ S => bnd (fa ρ S) fun x S => (listOf S x).map fun ds => (.fl ds.reverse, S)
def dRevC (fa : EDen) : EDen := fun ρ S => bnd (fa ρ S) fun x S => (listOf S x).bind fun ds => if D.fitL S.length ds then some (.ref S.length, S ++ [.lst ds.reverse]) else none
theorem fitL_reverse {n : Nat} {ds : List D} (h : D.fitL n ds = true) : D.fitL n ds.reverse = true := D.fitL_all.mpr fun d hd => D.fitL_all.mp h d (List.mem_reverse.mp hd)
theorem me_rev {e : Expr} {f : EDen} {k : Nat} {p1 p2 p3 pos : Pos} (he : ME X e f) : ME X (.Subscript e (.Slice none none (some (.UnaryOp .USub (.Constant (.int 1) k p1) p2)) p3) pos) (dRev f) :=
  (pe_revL he).weak fun σ H Q ⟨ξ, ι, ρ, S, d, S', st, re, e, k⟩ => by
    obtain ⟨x, S1, e1, e⟩ := bnd_some e
    cases q : listOf S1 x with
    | none => rw [q] at e; cases e
    | some ds =>
      rw [q] at e
      cases e
      refine tE.run st re e1 fun v1 H1 ι1 s1 st1 r1 => ?_
      obtain ⟨a, vs, h1, h2, h3⟩ := listOf_ok st1 r1 q
      exact ⟨a, vs, h1, h2, fun p hp => (k.next s1).fl st1 h3.reverse hp⟩
theorem me_revC {e : Expr} {f : EDen} {k : Nat} {p1 p2 p3 pos : Pos} (he : ME X e f) : ME X (.Subscript e (.Slice none none (some (.UnaryOp .USub (.Constant (.int 1) k p1) p2)) p3) pos) (dRevC f) :=
  (pe_revL he).weak fun σ H Q ⟨ξ, ι, ρ, S, d, S', st, re, e, k⟩ => by
    obtain ⟨x, S1, e1, e⟩ := bnd_some e
    cases q : listOf S1 x with
    | none => rw [q] at e; cases e
    | some ds =>
      rw [q] at e
      have e : (if D.fitL S1.length ds then some (D.ref S1.length, S1 ++ [.lst ds.reverse]) else none) = some (d, S') := e
      split at e
      · rename_i hf
        cases e
        refine tE.run st re e1 fun v1 H1 ι1 s1 st1 r1 => ?_
        obtain ⟨a, vs, h1, h2, h3⟩ := listOf_ok st1 r1 q
        exact ⟨a, vs, h1, h2, fun p hp => (k.next s1).cell st1 h3.reverse hp (fitL_reverse hf)⟩
      · cases e

/-! ### + and * -/
def gAdd : Op2 := fun x y S => match x, y with
  | .int i, .int j => some (.int (i + j), S)
  | .str a, .str b => if a.length + b.length ≤ sizeLine then some (.str (a ++ b), S) else none
  | .tup a, .tup b => if a.length + b.length ≤ sizeLine then some (.tup (a ++ b), S) else none
  | x, y => (mlistOf S x).bind fun a => (mlistOf S y).bind fun b => if a.length + b.length ≤ sizeLine then some (.fl (a ++ b), S) else none
def rAddS : R2 := fun x y H Q => ∃ a b : Str, x = .str a ∧ y = .str b ∧ a.length + b.length ≤ sizeLine ∧ Q (.str (a ++ b)) H
def rAddA (K : Frag) : R2 := fun x y H Q => rI0 (fun i j => .int (i + j)) x y H Q ∨ (fun x y H Q => rAddS x y H Q ∨ (fun x y H Q => rCatA K x y H Q ∨ rCat x y H Q) x y H Q) x y H Q
theorem o_add (hs : OpR X (binaryOp .Add) rAddS) : OpR X (binaryOp .Add) (rAddA X.K) := op_add.or (hs.or (op_catA.or op_cat))
theorem m_add : MOp K (rAddA K) gAdd := by
  intro H ξ ι S S' x y d v w Q st rx ry e k
  have lst : (mlistOf S x).bind (fun a => (mlistOf S y).bind fun b => if a.length + b.length ≤ sizeLine then some (D.fl (a ++ b), S) else none) = some (d, S') → rAddA K v w H Q := fun e => by
    cases q : mlistOf S x with
    | none => rw [q] at e; cases e
    | some a =>
      cases q2 : mlistOf S y with
      | none => rw [q, q2] at e; cases e
      | some b =>
        rw [q, q2] at e
        have e : (if a.length + b.length ≤ sizeLine then some (D.fl (a ++ b), S) else none) = some (d, S') := e
        split at e
        · rename_i hz
          cases e
          obtain ⟨p, vs, h1, h2, h3⟩ := mlistOf_ok st rx q
          obtain ⟨p', vs', h1', h2', h3'⟩ := mlistOf_ok st ry q2
          refine .inr (.inr (.inr ⟨p, p', vs, vs', h1, h1', h2, h2', ?_, fun l hl => k.fl st (h3.append h3') hl⟩))
          rw [h3.length, h3'.length]
          exact hz
        · cases e
  cases x with
  | int i =>
    cases y with
    | int j => cases e; exact .inl ⟨i, j, rx, ry, k.here st rfl⟩
    | _ => cases e
  | str a =>
    cases y with
    | str b =>
      have e : (if a.length + b.length ≤ sizeLine then some (D.str (a ++ b), S) else none) = some (d, S') := e
      split at e
      · rename_i hz
        cases e
        exact .inr (.inl ⟨a, b, rx, ry, hz, k.here st rfl⟩)
      · cases e
    | _ => cases e
  | tup a =>
    cases y with
    | tup b =>
      have e : (if a.length + b.length ≤ sizeLine then some (D.tup (a ++ b), S) else none) = some (d, S') := e
      split at e
      · rename_i hz
        cases e
        obtain ⟨p, vs, h1, h2, h3⟩ := rx
        obtain ⟨p', vs', h1', h2', h3'⟩ := ry
        refine .inr (.inr (.inl ⟨p, p', vs, vs', h1, h1', h2.sq, h2'.sq, by rw [h3.length, h3'.length]; exact hz, fun z => ?_, fun _ z => ?_, fun _ _ l hl => k.tup st (h3.append h3') hl⟩))
        · have ha : a = [] := List.eq_nil_of_length_eq_zero (by rw [← h3.length, z]; rfl)
          subst ha
          exact k.here st ⟨p', vs', rfl, h2', h3'⟩
        · have hb : b = [] := List.eq_nil_of_length_eq_zero (by rw [← h3'.length, z]; rfl)
          subst hb
          exact k.here st ⟨p, vs, rfl, h2, by rw [List.append_nil]; exact h3⟩
      · cases e
    | _ => cases e
  | fl a => exact lst (by cases y <;> exact e)
  | ref n => exact lst (by cases y <;> exact e)
  | _ => cases y <;> cases e
def gMul : Op2 := fun x y S => match x, y with
  | .int i, .int j => if mulOk i j then some (.int (i * j), S) else none
  | .tup a, .int k => if 2 ≤ k ∧ k ≤ 1000 ∧ a ≠ [] ∧ a.length ≤ 1000 then some (.tup (List.replicate k.toNat a).flatten, S) else if a.length ≤ 1000 ∧ k = 1 then none else none
  | x, .int k => (mlistOf S x).bind fun a => if -(2 ^ 63) ≤ k ∧ k < 2 ^ 63 ∧ a.length * k.toNat ≤ sizeLine then some (.fl (List.replicate k.toNat a).flatten, S) else none
  | _, _ => none
end
end MS

namespace MS
open PySem PySem.Spec PyProof.Rows L2

/-! ### data, compared, shown -/
mutual
def D.dat : D → PyData
  | .non => .none
  | .bl b => .bool b
  | .int i => .int i
  | .str x => .str x
  | .tup ds => .tuple (D.datL ds)
  | .fl ds => .list (D.datL ds)
  | .rl ds => .list (D.datL ds)
  | .ref _ => .none
def D.datL : List D → List PyData
  | [] => []
  | d :: ds => D.dat d :: D.datL ds
end
/-- data without mutable things in it; a mutable list of such -/
def datS (S : Sto) (d : D) : Option PyData := match d with
  | .ref n => match S[n]? with
    | some (.lst ds) => if D.pureL ds then some (.list (D.datL ds)) else none
    | _ => none
  | d => if D.pure d then some (D.dat d) else none
section
variable {K : Frag} {H : Hp} {ξ ι : List Addr}
mutual
theorem RepV.dp : ∀ {d : D} {v : V}, D.pure d = true → RepV K H ξ ι d v → Dp K H v (D.dat d)
  | .non, _, _, e => by cases e; exact .non
  | .bl _, _, _, e => by cases e; exact .bl _
  | .int _, _, _, e => by cases e; exact .int _
  | .str _, _, _, e => by cases e; exact .str _
  | .tup _, _, p, ⟨_, _, e, t, h⟩ => by cases e; exact .tup t.sq (RepL.dp p h)
  | .fl _, _, p, ⟨_, _, e, t, h⟩ => by cases e; exact .lst t.sq (RepL.dp p h)
  | .rl _, _, p, ⟨_, _, e, t, h⟩ => by cases e; exact .lst t.sq (RepL.dp p h)
  | .ref n, _, p, _ => absurd (of_decide_eq_true (show decide (n < 0) = true from p)) (Nat.not_lt_zero n)
theorem RepL.dp : ∀ {ds : List D} {vs : List V}, D.pureL ds = true → RepL K H ξ ι ds vs → DpAll K H vs (D.datL ds)
  | [], _, _, e => by cases e; exact .nil
  | d :: ds, _, p, ⟨v, r, e, h1, h2⟩ => by
    subst e
    have p' : (D.pure d && D.pureL ds) = true := p
    rw [Bool.and_eq_true] at p'
    exact .cons (RepV.dp p'.1 h1) (RepL.dp p'.2 h2)
end
theorem datS_ok {S : Sto} {d : D} {v : V} {x : PyData} (st : StoOk K H ξ ι S) (r : RepV K H ξ ι d v) (e : datS S d = some x) : Dp K H v x := by
  have other : (if D.pure d then some (D.dat d) else none) = some x → Dp K H v x := fun e => by
    split at e
    · rename_i p
      cases e
      exact r.dp p
    · cases e
  cases d with
  | ref n =>
    unfold datS at e
    simp only at e
    split at e
    · rename_i ds q
      split at e
      · rename_i p
        cases e
        obtain ⟨a, h1, h2⟩ := r
        obtain ⟨b, h3, vs, h4, h5⟩ := st.cell n _ q
        obtain rfl : b = a := Option.some.inj (h3.symm.trans h2)
        subst h1
        exact .lst (.inl (.inl h4)) (h5.dp p)
      · cases e
    · cases e
  | _ => exact other e
end
def gCmpD (neg : Bool) : Op2 := fun x y S => match datS S x, datS S y with
  | some a, some b => if SeqAt.shaped a && SeqAt.shaped b then some (.bl (if neg then !PyData.eqv a b else PyData.eqv a b), S) else none
  | _, _ => none
def gEq : Op2 := gCmpD false
def gNe : Op2 := gCmpD true
section
variable {X : Cx} {K : Frag}
theorem gCmpD_some {neg : Bool} {x y d : D} {S S' : Sto} (h : gCmpD neg x y S = some (d, S')) : ∃ a b, datS S x = some a ∧ datS S y = some b ∧ SeqAt.shaped a = true ∧ SeqAt.shaped b = true ∧ d = .bl (if neg then !PyData.eqv a b else PyData.eqv a b) ∧ S' = S := by
  unfold gCmpD at h
  split at h
  · rename_i a b e1 e2
    split at h
    · rename_i q
      rw [Bool.and_eq_true] at q
      cases h
      exact ⟨a, b, e1, e2, q.1, q.2, rfl, rfl⟩
    · cases h
  · cases h
theorem m_eq : MOp K (rEqD K) gEq := by
  intro H ξ ι S S' x y d v w Q st rx ry e k
  obtain ⟨a, b, h1, h2, h3, h4, rfl, rfl⟩ := gCmpD_some e
  exact ⟨a, b, datS_ok st rx h1, datS_ok st ry h2, h3, h4, k.here st rfl⟩
theorem m_ne : MOp K (rNeD K) gNe := by
  intro H ξ ι S S' x y d v w Q st rx ry e k
  obtain ⟨a, b, h1, h2, h3, h4, rfl, rfl⟩ := gCmpD_some e
  exact ⟨a, b, datS_ok st rx h1, datS_ok st ry h2, h3, h4, k.here st rfl⟩
/-- is None, is not None -/
def D.isNon : D → Bool
  | .non => true
  | _ => false
theorem isNon_rep {H : Hp} {ξ ι : List Addr} {d : D} {v : V} (r : RepV K H ξ ι d v) : decide (v = .non) = D.isNon d := by
  cases d with
  | non => cases r; rfl
  | bl _ => cases r; rfl
  | int _ => cases r; rfl
  | str _ => cases r; rfl
  | tup _ => obtain ⟨_, _, rfl, _⟩ := r; rfl
  | fl _ => obtain ⟨_, _, rfl, _⟩ := r; rfl
  | rl _ => obtain ⟨_, _, rfl, _⟩ := r; rfl
  | ref _ => obtain ⟨_, rfl, _⟩ := r; rfl
def gIsN : Op2 := fun x y S => match y with
  | .non => some (.bl (D.isNon x), S)
  | _ => none
def gNotN : Op2 := fun x y S => match y with
  | .non => some (.bl (!D.isNon x), S)
  | _ => none
theorem m_isN : MOp K (fun x y H Q => y = .non ∧ Q (.bl (decide (x = .non))) H) gIsN := by
  intro H ξ ι S S' x y d v w Q st rx ry e k
  cases y with
  | non => cases e; exact ⟨ry, by rw [isNon_rep rx]; exact k.here st rfl⟩
  | _ => cases e
theorem m_notN : MOp K (fun x y H Q => y = .non ∧ Q (.bl (!decide (x = .non))) H) gNotN := by
  intro H ξ ι S S' x y d v w Q st rx ry e k
  cases y with
  | non => cases e; exact ⟨ry, by rw [isNon_rep rx]; exact k.here st rfl⟩
  | _ => cases e
/-- is True, is False -/
def gIsB : Op2 := fun x y S => match x, y with
  | .bl a, .bl b => some (.bl (decide (a = b)), S)
  | _, _ => none
def gNotB : Op2 := fun x y S => match x, y with
  | .bl a, .bl b => some (.bl (!decide (a = b)), S)
  | _, _ => none
theorem m_isB : MOp K rIsB gIsB := by
  intro H ξ ι S S' x y d v w Q st rx ry e k
  cases x with
  | bl a =>
    cases y with
    | bl b => cases e; exact ⟨a, b, rx, ry, k.here st rfl⟩
    | _ => cases e
  | _ => cases e
theorem m_notB : MOp K rNotB gNotB := by
  intro H ξ ι S S' x y d v w Q st rx ry e k
  cases x with
  | bl a =>
    cases y with
    | bl b => cases e; exact ⟨a, b, rx, ry, k.here st rfl⟩
    | _ => cases e
  | _ => cases e

/-! ### built-ins -/
abbrev CDen := List D → Sto → Option (D × Sto)
def MCall (K : Frag) (r : List V → Hp → VK → Prop) (g : CDen) : Prop := ∀ (H : Hp) (ξ ι : List Addr) (S S' : Sto) (ds : List D) (d : D) (vs : List V) (Q : VK), StoOk K H ξ ι S → RepL K H ξ ι ds vs → g ds S = some (d, S') → Ans K ξ ι H S' d Q → r vs H Q
def dCB (g : CDen) (f : ADen) : EDen := fun ρ S => bnd (f ρ S) g
theorem tE.cb {r : List V → Hp → VK → Prop} {g : CDen} (m : MCall K r g) {f : ADen} {σ : L2.St} {H : Hp} {Q : VK} (h : tE K (dCB g f) σ H Q) : tCB r (tA K f) σ H Q := by
  obtain ⟨ξ, ι, ρ, S, d, S', st, re, e, k⟩ := h
  obtain ⟨ds, S1, e1, e⟩ := bnd_some e
  exact tA.run st re e1 fun vs H1 ι1 s1 st1 r1 => m H1 ξ ι1 S1 S' ds d vs Q st1 r1 e (k.next s1)
section
variable {r : List V → Hp → VK → Prop} {g : CDen} {f : ADen} {x : Str} {id T : String} {p pos : Pos} {e : Expr} {es : List Expr}
theorem me_cb (hc : CallR X (.builtin id) r) (m : MCall X.K r g) (hg : Gl X x) (hm : X.mg x = none) (hv : bootBuiltins x = some (.builtin id)) (ha : MA X (e :: es) f) (hn : x ≠ "__name__" := by decide) (hdb : (x == ("__debug__" : Str)) = false := by decide)
    (he : starEach (e :: es) X.env = (false, eval e X.env) :: starEach es X.env := by rfl) (hpl : (backTo pos (starEach es X.env)).any (·.1) = false := by rfl) : ME X (.Call (.Name x p) (e :: es) [] pos) (dCB g f) :=
  (pe_callB hc hg hm hv ha hn hdb he hpl).weak fun _ _ _ h => tE.cb m h
theorem me_ct (hc : CallR X (.type T) r) (m : MCall X.K r g) (hg : Gl X x) (hm : X.mg x = none) (hv : bootBuiltins x = some (.type T)) (ha : MA X (e :: es) f) (hn : x ≠ "__name__" := by decide) (hdb : (x == ("__debug__" : Str)) = false := by decide)
    (he : starEach (e :: es) X.env = (false, eval e X.env) :: starEach es X.env := by rfl) (hpl : (backTo pos (starEach es X.env)).any (·.1) = false := by rfl) : ME X (.Call (.Name x p) (e :: es) [] pos) (dCB g f) :=
  (pe_callTy hc hg hm hv ha hn hdb he hpl).weak fun _ _ _ h => tE.cb m h
end
/-- one int -/
def cI (g : Int → D) : CDen := fun ds S => match ds with
  | [.int i] => some (g i, S)
  | _ => none
def cII (g : Int → Int → D) : CDen := fun ds S => match ds with
  | [.int i, .int j] => some (g i j, S)
  | _ => none
theorem RepL.one' {H : Hp} {ξ ι : List Addr} {d : D} {vs : List V} (r : RepL K H ξ ι [d] vs) : ∃ v, vs = [v] ∧ RepV K H ξ ι d v := by
  obtain ⟨v, t, e, h1, h2⟩ := r
  obtain rfl : t = [] := h2
  exact ⟨v, e, h1⟩
theorem RepL.two' {H : Hp} {ξ ι : List Addr} {d e : D} {vs : List V} (r : RepL K H ξ ι [d, e] vs) : ∃ v w, vs = [v, w] ∧ RepV K H ξ ι d v ∧ RepV K H ξ ι e w := by
  obtain ⟨v, t, h, h1, h2⟩ := r
  obtain ⟨w, rfl, h3⟩ := RepL.one' h2
  exact ⟨v, w, h, h1, h3⟩
def cAbs : CDen := cI fun i => .int (if i < 0 then -i else i)
theorem mc_abs : MCall K (fun xs H Q => ∃ i, xs = [.int i] ∧ Q (.int (if i < 0 then -i else i)) H) cAbs := by
  intro H ξ ι S S' ds d vs Q st r e k
  unfold cAbs cI at e
  split at e
  · rename_i i
    cases e
    obtain ⟨v, rfl, h⟩ := RepL.one' r
    obtain rfl : v = .int i := h
    exact ⟨i, rfl, k.here st rfl⟩
  · cases e
def cMax2 : CDen := cII fun i j => .int (if j > i then j else i)
def cMin2 : CDen := cII fun i j => .int (if j < i then j else i)
theorem mc_ii {g : Int → Int → D} {f : Int → Int → V} (h : ∀ i j H ξ ι, RepV K H ξ ι (g i j) (f i j)) : MCall K (fun xs H Q => ∃ i j, xs = [.int i, .int j] ∧ Q (f i j) H) (cII g) := by
  intro H ξ ι S S' ds d vs Q st r e k
  unfold cII at e
  split at e
  · rename_i i j
    cases e
    obtain ⟨v, w, rfl, h1, h2⟩ := RepL.two' r
    obtain rfl : v = .int i := h1
    obtain rfl : w = .int j := h2
    exact ⟨i, j, rfl, k.here st (h i j _ _ _)⟩
  · cases e
theorem mc_max2 : MCall K (fun xs H Q => ∃ i j, xs = [.int i, .int j] ∧ Q (.int (if j > i then j else i)) H) cMax2 := mc_ii (f := fun i j => .int (if j > i then j else i)) fun _ _ _ _ _ => rfl
theorem mc_min2 : MCall K (fun xs H Q => ∃ i j, xs = [.int i, .int j] ∧ Q (.int (if j < i then j else i)) H) cMin2 := mc_ii (f := fun i j => .int (if j < i then j else i)) fun _ _ _ _ _ => rfl
def cInt : CDen := fun ds S => match ds with
  | [.int i] => some (.int i, S)
  | [.bl k] => some (.int (if k then 1 else 0), S)
  | _ => none
theorem mc_int : MCall K (fun xs H Q => (∃ i, xs = [.int i] ∧ Q (.int i) H) ∨ ∃ k, xs = [.bl k] ∧ Q (.int (if k then 1 else 0)) H) cInt := by
  intro H ξ ι S S' ds d vs Q st r e k
  unfold cInt at e
  split at e
  · rename_i i
    cases e
    obtain ⟨v, rfl, h⟩ := RepL.one' r
    obtain rfl : v = .int i := h
    exact .inl ⟨i, rfl, k.here st rfl⟩
  · rename_i i
    cases e
    obtain ⟨v, rfl, h⟩ := RepL.one' r
    obtain rfl : v = .bl i := h
    exact .inr ⟨i, rfl, k.here st rfl⟩
  · cases e
/-- len -/
def cLen : CDen := fun ds S => match ds with
  | [.str z] => if z.length ≤ sizeLine then some (.int z.length, S) else none
  | [.ref n] => match S[n]? with
    | some (.lst es) => some (.int es.length, S)
    | some (.dct kvs) => some (.int kvs.length, S)
    | _ => none
  | [d] => (seqOf S d).map fun es => (.int es.length, S)
  | _ => none
def rLenA (K : Frag) : List V → Hp → VK → Prop := fun xs H Q => (∃ p ys, xs = [.ref p] ∧ (SqL K H p ys ∨ SqT K H p ys) ∧ Q (.int ys.length) H) ∨ (fun xs H Q => (∃ z, xs = [.str z] ∧ z.length ≤ sizeLine ∧ Q (.int z.length) H) ∨ ∃ a kvs, xs = [V.ref a] ∧ H a = some (.dK kvs) ∧ Q (.int kvs.length) H) xs H Q
theorem c_len : CallR X (.builtin "len") (rLenA X.K) := call_len_seq.or (call_len_str.or call_lenD)
theorem mc_len : MCall K (rLenA K) cLen := by
  intro H ξ ι S S' ds d vs Q st r e k
  have seq : ∀ x, ds = [x] → (seqOf S x).map (fun es => (D.int es.length, S)) = some (d, S') → rLenA K vs H Q := fun x hx e' => by
    subst hx
    obtain ⟨v, rfl, h⟩ := RepL.one' r
    cases q : seqOf S x with
    | none => rw [q] at e'; cases e'
    | some es =>
      rw [q] at e'
      cases e'
      obtain ⟨a, ys, rfl, h2, h3⟩ := seqOf_ok st h q
      exact .inl ⟨a, ys, rfl, h2, by rw [h3.length]; exact k.here st rfl⟩
  unfold cLen at e
  split at e
  · rename_i z
    split at e
    · rename_i hz
      cases e
      obtain ⟨v, rfl, h⟩ := RepL.one' r
      obtain rfl : v = .str z := h
      exact .inr (.inl ⟨z, rfl, hz, k.here st rfl⟩)
    · cases e
  · rename_i n
    split at e
    · rename_i es q
      exact seq _ rfl (by
        show (listOf S (.ref n)).map _ = _
        unfold listOf
        simp only [q]
        exact e)
    · rename_i kvs q
      cases e
      obtain ⟨v, rfl, a, rfl, h⟩ := RepL.one' r
      obtain ⟨b, h3, ws, h4, h5, _⟩ := st.cell n _ q
      obtain rfl : b = a := Option.some.inj (h3.symm.trans h)
      have hl : ws.length = kvs.length := by
        have := congrArg List.length h5
        simpa using this
      exact .inr (.inr ⟨b, ws, rfl, h4, by rw [hl]; exact k.here st rfl⟩)
    · cases e
  · rename_i x _ _
    exact seq x rfl e
  · cases e
/-- tuple(xs), list(xs) -/
def cTuple : CDen := fun ds S => match ds with
  | [.tup es] => some (.tup es, S)
  | [d] => (listOf S d).map fun es => (.tup es, S)
  | _ => none
theorem mc_tuple : MCall K (fun xs H Q => ∃ p ys, xs = [.ref p] ∧ ((SqL K H p ys ∧ ∀ l, H l = none → Q (.ref l) (upd H l (.tup ys))) ∨ (SqT K H p ys ∧ Q (.ref p) H))) cTuple := by
  intro H ξ ι S S' ds d vs Q st r e k
  unfold cTuple at e
  split at e
  · rename_i es
    cases e
    obtain ⟨v, rfl, h⟩ := RepL.one' r
    have h' := h
    obtain ⟨a, ys, rfl, h2, h3⟩ := h
    exact ⟨a, ys, rfl, .inr ⟨h2.sq, k.here st h'⟩⟩
  · rename_i x _
    cases q : listOf S x with
    | none => rw [q] at e; cases e
    | some es =>
      rw [q] at e
      cases e
      obtain ⟨v, rfl, h⟩ := RepL.one' r
      obtain ⟨a, ys, rfl, h2, h3⟩ := listOf_ok st h q
      exact ⟨a, ys, rfl, .inl ⟨h2, fun l hl => k.tup st h3 hl⟩⟩
  · cases e
def cList : CDen := fun ds S => match ds with
  | [d] => (seqOf S d).map fun es => (.fl es, S)
  | _ => none
def cListC : CDen := fun ds S => match ds with
  | [d] => (seqOf S d).bind fun es => if D.fitL S.length es then some (.ref S.length, S ++ [.lst es]) else none
  | _ => none
theorem mc_list : MCall K (fun xs H Q => ∃ p ys, xs = [.ref p] ∧ (SqL K H p ys ∨ SqT K H p ys) ∧ ∀ l, H l = none → Q (.ref l) (upd H l (.lst ys))) cList := by
  intro H ξ ι S S' ds d vs Q st r e k
  unfold cList at e
  split at e
  · rename_i x
    cases q : seqOf S x with
    | none => rw [q] at e; cases e
    | some es =>
      rw [q] at e
      cases e
      obtain ⟨v, rfl, h⟩ := RepL.one' r
      obtain ⟨a, ys, rfl, h2, h3⟩ := seqOf_ok st h q
      exact ⟨a, ys, rfl, h2, fun l hl => k.fl st h3 hl⟩
  · cases e
theorem mc_listC : MCall K (fun xs H Q => ∃ p ys, xs = [.ref p] ∧ (SqL K H p ys ∨ SqT K H p ys) ∧ ∀ l, H l = none → Q (.ref l) (upd H l (.lst ys))) cListC := by
  intro H ξ ι S S' ds d vs Q st r e k
  unfold cListC at e
  split at e
  · rename_i x
    cases q : seqOf S x with
    | none => rw [q] at e; cases e
    | some es =>
      rw [q] at e
      have e : (if D.fitL S.length es then some (D.ref S.length, S ++ [.lst es]) else none) = some (d, S') := e
      split at e
      · rename_i hf
        cases e
        obtain ⟨v, rfl, h⟩ := RepL.one' r
        obtain ⟨a, ys, rfl, h2, h3⟩ := seqOf_ok st h q
        exact ⟨a, ys, rfl, h2, fun l hl => k.cell st h3 hl hf⟩
      · cases e
  · cases e
/-- lists of ints -/
def intsOf : List D → Option (List Int)
  | [] => some []
  | .int i :: ds => (intsOf ds).map (i :: ·)
  | _ :: _ => none
@[simp] theorem intsOf_map (ns : List Int) : intsOf (ns.map D.int) = some ns := by
  induction ns with
  | nil => rfl
  | cons n ns ih =>
    show (intsOf (ns.map D.int)).map (n :: ·) = some (n :: ns)
    rw [ih]
    rfl
theorem intsOf_eq : ∀ {ds : List D} {ns : List Int}, intsOf ds = some ns → ds = ns.map D.int
  | [], _, e => by cases e; rfl
  | .int i :: ds, ns, e => by
    have e : (intsOf ds).map (i :: ·) = some ns := e
    cases q : intsOf ds with
    | none => rw [q] at e; cases e
    | some ms =>
      rw [q] at e
      cases e
      rw [intsOf_eq q]
      rfl
  | .non :: _, _, e => by cases e
  | .bl _ :: _, _, e => by cases e
  | .str _ :: _, _, e => by cases e
  | .tup _ :: _, _, e => by cases e
  | .fl _ :: _, _, e => by cases e
  | .rl _ :: _, _, e => by cases e
  | .ref _ :: _, _, e => by cases e
def cSum : CDen := fun ds S => match ds with
  | [d] => (listOf S d).bind fun es => (intsOf es).map fun ns => (.int ns.sum, S)
  | _ => none
theorem mc_sum : MCall K (rSum K) cSum := by
  intro H ξ ι S S' ds d vs Q st r e k
  unfold cSum at e
  split at e
  · rename_i x
    cases q : listOf S x with
    | none => rw [q] at e; cases e
    | some es =>
      rw [q] at e
      have e : (intsOf es).map (fun ns => (D.int ns.sum, S)) = some (d, S') := e
      cases q2 : intsOf es with
      | none => rw [q2] at e; cases e
      | some ns =>
        rw [q2] at e
        cases e
        obtain ⟨v, rfl, h⟩ := RepL.one' r
        obtain ⟨a, ys, rfl, h2, h3⟩ := listOf_ok st h q
        rw [intsOf_eq q2] at h3
        rw [RepL.ints.mp h3] at h2
        exact ⟨a, ns, rfl, h2, k.here st rfl⟩
  · cases e
/-- lists of truth values -/
def blsOf : List D → Option (List Bool)
  | [] => some []
  | .bl i :: ds => (blsOf ds).map (i :: ·)
  | _ :: _ => none
@[simp] theorem blsOf_map (ns : List Bool) : blsOf (ns.map D.bl) = some ns := by
  induction ns with
  | nil => rfl
  | cons n ns ih =>
    show (blsOf (ns.map D.bl)).map (n :: ·) = some (n :: ns)
    rw [ih]
    rfl
theorem blsOf_rep {H : Hp} {ξ ι : List Addr} : ∀ {ds : List D} {ns : List Bool} {vs : List V}, blsOf ds = some ns → RepL K H ξ ι ds vs → vs = ns.map V.bl
  | [], _, _, e, r => by cases e; exact r
  | .bl i :: ds, ns, vs, e, r => by
    have e : (blsOf ds).map (i :: ·) = some ns := e
    cases q : blsOf ds with
    | none => rw [q] at e; cases e
    | some ms =>
      rw [q] at e
      cases e
      obtain ⟨v, t, rfl, h1, h2⟩ := r
      obtain rfl : v = .bl i := h1
      rw [blsOf_rep q h2]
      rfl
  | .non :: _, _, _, e, _ => by cases e
  | .int _ :: _, _, _, e, _ => by cases e
  | .str _ :: _, _, _, e, _ => by cases e
  | .tup _ :: _, _, _, e, _ => by cases e
  | .fl _ :: _, _, _, e, _ => by cases e
  | .rl _ :: _, _, _, e, _ => by cases e
  | .ref _ :: _, _, _, e, _ => by cases e
def cBls (g : List Bool → Bool) : CDen := fun ds S => match ds with
  | [d] => (listOf S d).bind fun es => (blsOf es).map fun ns => (.bl (g ns), S)
  | _ => none
def cAll : CDen := cBls fun bs => bs.all id
def cAny : CDen := cBls fun bs => bs.any id
theorem mc_bls {g : List Bool → Bool} : MCall K (fun vs H Q => ∃ (a : Addr) (bs : List Bool), vs = [V.ref a] ∧ SqL K H a (bs.map V.bl) ∧ Q (.bl (g bs)) H) (cBls g) := by
  intro H ξ ι S S' ds d vs Q st r e k
  unfold cBls at e
  split at e
  · rename_i x
    cases q : listOf S x with
    | none => rw [q] at e; cases e
    | some es =>
      rw [q] at e
      have e : (blsOf es).map (fun ns => (D.bl (g ns), S)) = some (d, S') := e
      cases q2 : blsOf es with
      | none => rw [q2] at e; cases e
      | some ns =>
        rw [q2] at e
        cases e
        obtain ⟨v, rfl, h⟩ := RepL.one' r
        obtain ⟨a, ys, rfl, h2, h3⟩ := listOf_ok st h q
        rw [blsOf_rep q2 h3] at h2
        exact ⟨a, ns, rfl, h2, k.here st rfl⟩
  · cases e
theorem mc_all : MCall K (rAll K) cAll := mc_bls
theorem mc_any : MCall K (rAny K) cAny := mc_bls
/-- max, min of a list of ints -/
def listMax : List Int → Int
  | [] => 0
  | [x] => x
  | x :: y :: r => max x (listMax (y :: r))
def listMin : List Int → Int
  | [] => 0
  | [x] => x
  | x :: y :: r => min x (listMin (y :: r))
theorem listMax_ge : ∀ (ns : List Int) (y : Int), y ∈ ns → y ≤ listMax ns
  | [x], y, h => by rw [List.mem_singleton.mp h]; exact Int.le_refl _
  | x :: z :: r, y, h => by
    show y ≤ max x (listMax (z :: r))
    rcases List.mem_cons.mp h with rfl | h
    · omega
    · have := listMax_ge (z :: r) y h
      omega
theorem listMax_mem : ∀ (ns : List Int), ns ≠ [] → listMax ns ∈ ns
  | [x], _ => by simp [listMax]
  | x :: z :: r, _ => by
    show max x (listMax (z :: r)) ∈ _
    have := listMax_mem (z :: r) (by simp)
    rcases Int.le_total x (listMax (z :: r)) with q | q
    · rw [Int.max_eq_right q]; exact List.mem_cons_of_mem _ this
    · rw [Int.max_eq_left q]; exact List.mem_cons_self
theorem listMin_le : ∀ (ns : List Int) (y : Int), y ∈ ns → listMin ns ≤ y
  | [x], y, h => by rw [List.mem_singleton.mp h]; exact Int.le_refl _
  | x :: z :: r, y, h => by
    show min x (listMin (z :: r)) ≤ y
    rcases List.mem_cons.mp h with rfl | h
    · omega
    · have := listMin_le (z :: r) y h
      omega
theorem listMin_mem : ∀ (ns : List Int), ns ≠ [] → listMin ns ∈ ns
  | [x], _ => by simp [listMin]
  | x :: z :: r, _ => by
    show min x (listMin (z :: r)) ∈ _
    have := listMin_mem (z :: r) (by simp)
    rcases Int.le_total x (listMin (z :: r)) with q | q
    · rw [Int.min_eq_left q]; exact List.mem_cons_self
    · rw [Int.min_eq_right q]; exact List.mem_cons_of_mem _ this
def cNums (g : List Int → Int) : CDen := fun ds S => match ds with
  | [d] => (listOf S d).bind fun es => (intsOf es).bind fun ns => if ns ≠ [] then some (.int (g ns), S) else none
  | _ => none
def cMax1 : CDen := cNums listMax
def cMin1 : CDen := cNums listMin
theorem cNums_ok {g : List Int → Int} {H : Hp} {ξ ι : List Addr} {S S' : Sto} {ds : List D} {d : D} {vs : List V} (st : StoOk K H ξ ι S) (r : RepL K H ξ ι ds vs) (e : cNums g ds S = some (d, S')) :
    ∃ a ns, vs = [V.ref a] ∧ SqL K H a (ns.map V.int) ∧ ns ≠ [] ∧ d = .int (g ns) ∧ S' = S := by
  unfold cNums at e
  split at e
  · rename_i x
    cases q : listOf S x with
    | none => rw [q] at e; cases e
    | some es =>
      rw [q] at e
      have e : (intsOf es).bind (fun ns => if ns ≠ [] then some (D.int (g ns), S) else none) = some (d, S') := e
      cases q2 : intsOf es with
      | none => rw [q2] at e; cases e
      | some ns =>
        rw [q2] at e
        have e : (if ns ≠ [] then some (D.int (g ns), S) else none) = some (d, S') := e
        split at e
        · rename_i hn
          cases e
          obtain ⟨v, rfl, h⟩ := RepL.one' r
          obtain ⟨a, ys, rfl, h2, h3⟩ := listOf_ok st h q
          rw [intsOf_eq q2] at h3
          rw [RepL.ints.mp h3] at h2
          exact ⟨a, ns, rfl, h2, hn, rfl, rfl⟩
        · cases e
  · cases e
theorem mc_max1 : MCall K (rMax K) cMax1 := by
  intro H ξ ι S S' ds d vs Q st r e k
  obtain ⟨a, ns, rfl, h2, hn, rfl, rfl⟩ := cNums_ok st r e
  refine ⟨a, ns, rfl, h2, List.length_pos_iff.mpr hn, fun m hm hle => ?_⟩
  have : m = listMax ns := Int.le_antisymm (listMax_ge ns m hm) (hle _ (listMax_mem ns hn))
  rw [this]
  exact k.here st rfl
theorem mc_min1 : MCall K (rMin K) cMin1 := by
  intro H ξ ι S S' ds d vs Q st r e k
  obtain ⟨a, ns, rfl, h2, hn, rfl, rfl⟩ := cNums_ok st r e
  refine ⟨a, ns, rfl, h2, List.length_pos_iff.mpr hn, fun m hm hle => ?_⟩
  have : m = listMin ns := Int.le_antisymm (hle _ (listMin_mem ns hn)) (listMin_le ns m hm)
  rw [this]
  exact k.here st rfl
/-- str(n) -/
def cStr : CDen := fun ds S => match ds with
  | [.int i] => if i.natAbs.log2 < 1920 then some (.str (toString i), S) else none
  | _ => none
theorem mc_str : MCall K (fun xs H Q => ∃ i : Int, xs = [.int i] ∧ i.natAbs.log2 < 1920 ∧ Q (.str (toString i)) H) cStr := by
  intro H ξ ι S S' ds d vs Q st r e k
  unfold cStr at e
  split at e
  · rename_i i
    split at e
    · rename_i hz
      cases e
      obtain ⟨v, rfl, h⟩ := RepL.one' r
      obtain rfl : v = .int i := h
      exact ⟨i, rfl, hz, k.here st rfl⟩
    · cases e
  · cases e
/-- isinstance(x, T) -/
def tyOf (S : Sto) : D → String
  | .non => "NoneType"
  | .bl _ => "bool"
  | .int _ => "int"
  | .str _ => "str"
  | .tup _ => "tuple"
  | .fl _ => "list"
  | .rl _ => "list"
  | .ref n => match S[n]? with
    | some (.dct _) => "dict"
    | some (.lck _) => "dict"
    | _ => "list"
def isT (a b : String) : Bool := a == b || (a == "bool" && b == "int")
def dIsi (T : String) (f : EDen) : EDen := fun ρ S => bnd (f ρ S) fun d S => some (.bl (isT (tyOf S d) T), S)
theorem tyOf_ok {H : Hp} {ξ ι : List Addr} {S : Sto} {d : D} {v : V} (st : StoOk K H ξ ι S) (r : RepV K H ξ ι d v) : TyX K H v (.type (tyOf S d)) := by
  cases d with
  | non => cases r; exact .base .non
  | bl _ => cases r; exact .base (.bl _)
  | int _ => cases r; exact .base (.int _)
  | str _ => cases r; exact .base (.str _)
  | tup _ => obtain ⟨a, vs, rfl, h, _⟩ := r; exact .base (.tup h.1)
  | fl _ => obtain ⟨a, vs, rfl, h, _⟩ := r; exact .base (.lst h.1)
  | rl _ =>
    obtain ⟨a, vs, rfl, h, _⟩ := r
    rcases h.sq with (h | ⟨o, h⟩) | ⟨o, its, n, h1, h2, _⟩
    · exact .base (.lst h)
    · exact .base (.frz h)
    · exact .kList h1 h2
  | ref n =>
    obtain ⟨a, rfl, h⟩ := r
    have hn : n < S.length := by
      rw [← st.len]
      exact (List.getElem?_eq_some_iff.mp h).1
    obtain ⟨b, h3, h4⟩ := st.cell n S[n] (List.getElem?_eq_getElem hn)
    obtain rfl : b = a := Option.some.inj (h3.symm.trans h)
    show TyX K H (V.ref b) (Value.type (match S[n]? with
      | some (.dct _) => "dict"
      | some (.lck _) => "dict"
      | _ => "list"))
    rw [List.getElem?_eq_getElem hn]
    cases q : S[n] with
    | lst ds =>
      rw [q] at h4
      obtain ⟨vs, h5, _⟩ := h4
      exact .base (.lst h5)
    | dct kvs =>
      rw [q] at h4
      obtain ⟨ws, h5, _⟩ := h4
      exact .base (.dK h5)
    | lck kvs =>
      rw [q] at h4
      obtain ⟨ws, o, h5, _⟩ := h4
      exact .fDict h5
theorem tyOf_in (S : Sto) (d : D) : tyOf S d ∈ ["NoneType", "bool", "int", "str", "tuple", "list", "dict"] := by
  cases d <;> simp [tyOf]
  split <;> simp
theorem me_isi {e : Expr} {f : EDen} {p p2 pos : Pos} {x2 : Str} {T : String} (hT : T ∈ ["bool", "int", "str", "tuple", "list", "dict"]) (hg : Gl X "isinstance") (hm : X.mg "isinstance" = none) (hg2 : Gl X x2) (hm2 : X.mg x2 = none) (hv2 : bootBuiltins x2 = some (.type T)) (he : ME X e f)
    (hx2 : x2 ≠ "__name__" := by decide) (hdb2 : (x2 == ("__debug__" : Str)) = false := by decide)
    (hs1 : starEach [e, .Name x2 p2] X.env = (false, eval e X.env) :: starEach [.Name x2 p2] X.env := by rfl) (hs2 : starEach [.Name x2 p2] X.env = (false, eval (.Name x2 p2) X.env) :: starEach [] X.env := by rfl) (hpl : (backTo pos (starEach [.Name x2 p2] X.env)).any (·.1) = false := by rfl) :
    ME X (.Call (.Name "isinstance" p) [e, .Name x2 p2] [] pos) (dIsi T f) :=
  (pe_callB call_isi hg hm (by decide +kernel) (pa_cons he (pa_cons (pe_bltn (v := .ty T) hg2 hm2 hv2 rfl hx2 hdb2) pa_nil hs2) hs1) (by decide) (by decide) hs1 hpl).weak fun σ H Q ⟨ξ, ι, ρ, S, d, S', st, re, e, k⟩ => by
    obtain ⟨x, S1, e1, e⟩ := bnd_some e
    cases e
    refine tE.run st re e1 fun v1 H1 ι1 s1 st1 r1 => ⟨v1, .ty T, .type (tyOf S' x), .type T, isT (tyOf S' x) T, rfl, .ty T, tyOf_ok st1 r1, kit_ty ?_, k _ H1 ι1 s1 st1 rfl⟩
    have all : ∀ a ∈ ["NoneType", "bool", "int", "str", "tuple", "list", "dict"], ∀ b ∈ ["bool", "int", "str", "tuple", "list", "dict"], kitB a b = some (isT a b) := by decide +kernel
    exact all _ (tyOf_in S' x) T hT
end
end MS

namespace MS
open PySem PySem.Spec PyProof.Rows L2

/-! ### defs called where no repr runs around -/
structure RoomG (k : Nat) (A : Around) : Prop where
  room : Room k A
  gd : A.guards = some []
theorem RoomG.mono {j k : Nat} {A : Around} (r : RoomG k A) (h : j ≤ k) : RoomG j A := ⟨r.room.mono h, r.gd⟩
theorem RoomG.u64 {k : Nat} {A : Around} (r : RoomG k A) : A.units + 64 < cLine := r.room.units
theorem RoomG.u1 {k : Nat} {A : Around} (r : RoomG k A) : A.units + 1 < cLine := hu_of r.room
structure FnG (P : Program) (w : World) (K : Frag) (mg : Str → Option Value) (base : Heap) (CX : CXT) (k : Nat) (f : Addr) (fd : FuncData) (ps : List Str) (sp : Sp) : Prop where
  len : ∀ vs H Q E, sp vs H Q E → vs.length = ps.length
  run : ∀ (A : Around) (outer : List PySem.Env) (s : Shared) (H : Hp) (args : Args) (us : List Value) (vs : List V) (Q : VK) (E : XK), RoomG k A → Env0 P w K mg base A outer s H → BindsTo s fd args (ps.zip us) →
    Vals vs us → sp vs H Q E → codeAny (model P w) A (.call (.ref f) args) (CR CX outer P w H s Q E) s
theorem FnG.mono {P : Program} {w : World} {K : Frag} {mg : Str → Option Value} {base : Heap} {CX : CXT} {j k : Nat} {f : Addr} {fd : FuncData} {ps : List Str} {sp : Sp} (F : FnG P w K mg base CX j f fd ps sp) (h : j ≤ k) : FnG P w K mg base CX k f fd ps sp :=
  ⟨F.len, fun A outer s H args us vs Q E hr => F.run A outer s H args us vs Q E (hr.mono h)⟩
/-- a def by its body -/
theorem fnG_of {CX : CXT} {P : Program} {w : World} {K : Frag} {mg : Str → Option Value} {base : Heap} {k : Nat} {f : Addr} {fd : FuncData} {x qual : Str} {params : Arguments} {body : List Stmt} {scope : Scope} {dvs : List V} {kws : List (Str × V)} {N ps : List Str} {sp : Sp}
    (F : FunD K x qual params body scope dvs kws f fd) (S : FnScope N ps scope) (len : ∀ vs H Q E, sp vs H Q E → vs.length = ps.length)
    (hbody : ∀ (cdv : Value) (A : Around) (outer : List PySem.Env) (s : Shared) (H : Hp) (vs : List V) (Q : VK) (E : XK), RoomG k (A.deeper (envOfC qual scope s.heap.objs.size f cdv)) → sp vs H Q E →
      ∃ t, PSs (cxOf CX P w K mg base N qual scope f cdv A outer s H E) body t ∧ t { nx := fun _ H' => Q .non H', rt := Q } (start N vs) H) : FnG P w K mg base CX (k + 1) f fd ps sp := by
  obtain ⟨oc, od, dV, kV, doc, pm, an, cdv, ct, osl, rfl, lk, hcd, _, _⟩ := F.ex
  refine ⟨len, fun A outer s H args us vs Q E hr e0 hb r hsp => ?_⟩
  have lenv := len _ _ _ _ hsp
  have Kin : K.In s.heap := e0.mod.kin.keeps fun b o e => (e0.bs b o e).1
  have nolim : s.heap.NoLimit := e0.mod.nolimit.keeps fun b o e => (e0.bs b o e).1
  have places : ∀ y ∈ ps.zip us, scope.names.lookup y.1 = some .local ∨ (scope.names.lookup y.1 = some .cell ∧ ((cellsFrom (s.heap.objs.size + 1) scope.names []).lookup y.1).isSome = true) := by
    rintro ⟨n, v⟩ hy
    exact (S.par n (List.of_mem_zip hy).1).imp id fun q => ⟨q, PySem.W.cellsFrom_some _ _ _ (.inl q)⟩
  refine codeAny_call_function hr.room.depth (Kin _ _ lk) rfl S.co S.gen rfl (PySem.W.codeRec_of Kin hcd) (hb _ _ _ _ (wpAny_newFunctionEnv_cells S.kind places fun env he s1 sx => ?_))
  subst he
  refine ⟨nolim.keeps sx.toInCall.keep, codeAny_func ?_⟩
  obtain ⟨t, ht, hq⟩ := hbody cdv A outer s H vs Q E ⟨hr.room.deeper _, hr.gd⟩ hsp
  refine wpAny_mono (ht.run [] s1 (start N vs) H _ (inv_start S hr.room.hd e0 lenv r sx) hq) (fun fl s' hs => ?_) fun e s' hs => hs
  match fl, hs with
  | .ret u, ⟨v, σ', H', J, rv, q⟩ => exact ⟨v, H', J.os, J.bare, J.base, J.hok, rv, q⟩
  | .next, ⟨σ', H', J, q⟩ => exact ⟨.non, H', J.os, J.bare, J.base, J.hok, rfl, q⟩
  | .brk, ⟨_, _, _, q⟩ => exact q.elim
  | .cont, ⟨_, _, _, q⟩ => exact q.elim
/-- a def that is called by its name -/
structure Cal (P : Program) (w : World) (K : Frag) (mg : Str → Option Value) (base : Heap) (k : Nat) (x : Str) (sp : Sp) : Prop where
  ex : ∃ (f : Addr) (fd : FuncData) (ps : List Str), FnG P w K mg base CX0 k f fd ps sp ∧ mg x = some (.ref f) ∧ PySem.W.keepIn K (.ref f) = true ∧ Binds K fd ps []
section
variable {X : Cx} {k j : Nat} {x : Str} {p pos : Pos} {sp : Sp} {e : Expr} {es : List Expr} {t : TA}
theorem runG {pins : List (Addr × Obj)} {σ : L2.St} {H : Hp} {s : Shared} {Q : VK} {us : List Value} {vs : List V} {f : Addr} {fd : FuncData} {ps : List Str} (F : FnG X.prog X.w X.K X.mg X.base CX0 k f fd ps sp) (hr : RoomG k X.A) (hb : Binds X.K fd ps [])
    (I : Inv X pins σ H s) (r : Vals vs us) (h : sp vs H Q E0) : wpAny (model X.prog X.w) X.A (call (.ref f) us) (EP X pins σ Q) X.xe s := by
  have hl : (us ++ ([] : List Value)).length = ps.length := by rw [List.append_nil, ← r.length]; exact F.len _ _ _ _ h
  have B := hb s us I.kIn hl
  rw [List.append_nil] at B
  refine wpAny_call (codeAny_mono (F.run X.A X.stack s H ⟨us, []⟩ us vs Q E0 hr I.env0 B r h) fun r s' hq => ?_)
  match r, hq with
  | .error _, hq => exact False.elim hq
  | .ok (.ret u), hq => exact I.after hq
  | .ok .next, hq => exact False.elim hq
  | .ok .brk, hq => exact False.elim hq
  | .ok .cont, hq => exact False.elim hq
theorem pe_cal (c : Cal X.prog X.w X.K X.mg X.base k x sp) (hr : RoomG j X.A) (hk : k ≤ j) (hg : Gl X x) (ha : PA X (e :: es) t)
    (hdb : (x == ("__debug__" : Str)) = false := by decide) (he : starEach (e :: es) X.env = (false, eval e X.env) :: starEach es X.env := by rfl) (hpl : (backTo pos (starEach es X.env)).any (·.1) = false := by rfl) :
    PE X (.Call (.Name x p) (e :: es) [] pos) (fun σ H Q => t σ H fun vs H1 => sp vs H1 Q E0) := by
  obtain ⟨f, fd, ps, F, hm, kp, b⟩ := c.ex
  refine ⟨fun pins s σ H Q I h => wpAny_Call_Name_kw (ld_glob I hg hm ?_ hdb)⟩
  exact PySem.W.callWith_K (h₀ := X.base) I.ok.mod.kin kp (thn (ha.run pos pins s σ H _ I h) fun us s1 ⟨vs, H1, I1, r, q⟩ => ⟨I1.kIn, runG F (hr.mono hk) b I1 r q⟩) he hpl
end

/-! ### what a def is worth: a function of values; one of values and the store -/
abbrev FP := List D → Option D
abbrev FM := List D → Sto → Option (D × Sto)
def spP (K : Frag) (F : FP) : Sp := fun vs H Q _ => ∃ ξ ds d, (∀ a ∈ ξ, H a ≠ none) ∧ RepL K H ξ [] ds vs ∧ F ds = some d ∧ ∀ v H', Step H [] H' [] → RepV K H' ξ [] d v → Q v H'
def spM (K : Frag) (F : FM) : Sp := fun vs H Q _ => ∃ ξ ι S ds d S', StoOk K H ξ ι S ∧ RepL K H ξ ι ds vs ∧ F ds S = some (d, S') ∧ Ans K ξ ι H S' d Q
def dCalP (F : FP) (f : ADen) : EDen := fun ρ S => bnd (f ρ S) fun ds S => if D.pureL ds then (F ds).map fun d => (d, S) else none
def dCalM (F : FM) (f : ADen) : EDen := fun ρ S => bnd (f ρ S) F
section
variable {X : Cx} {k j : Nat} {x : Str} {p pos : Pos} {e : Expr} {es : List Expr} {f : ADen}
theorem pure_call {K : Frag} {F : FP} {H : Hp} {ξ ι : List Addr} {S : Sto} {ds : List D} {d : D} {vs : List V} {Q : VK} (st : StoOk K H ξ ι S) (r : RepL K H ξ ι ds vs) (hp : D.pureL ds = true) (e : F ds = some d) (k : Ans K ξ ι H S d Q) : spP K F vs H Q E0 := by
  have live : ∀ a ∈ ξ ++ ι, H a ≠ none := fun a ha => (List.mem_append.mp ha).elim (fun h => st.live a h) fun h => st.ne h
  have m : Mv H ξ ι 0 H (ξ ++ ι) [] := ⟨fun a o h h1 h2 => ⟨h, fun z => (List.mem_append.mp z).elim h1 h2, by simp⟩, fun m a h => absurd h (Nat.not_lt_zero _)⟩
  refine ⟨ξ ++ ι, ds, d, live, RepL.mv m hp r, e, fun v H' s rv => ?_⟩
  have hk : ∀ a o, H a = some o → H' a = some o := fun a o h => (s.keep a o h (by simp)).1
  have pd : D.fit 0 d = true := rv.fit
  have m2 : Mv H' (ξ ++ ι) [] 0 H' ξ ι := ⟨fun a o h h1 _ => ⟨h, fun z => h1 (List.mem_append.mpr (.inl z)), fun z => h1 (List.mem_append.mpr (.inr z))⟩, fun m a h => absurd h (Nat.not_lt_zero _)⟩
  exact k v H' ι ⟨⟨[], (List.append_nil _).symm⟩, fun a o h n => ⟨hk a o h, n⟩, fun a o u h => hk a _ h⟩ (st.beside hk) (RepV.mv m2 pd rv)
theorem me_calP {F : FP} (c : Cal X.prog X.w X.K X.mg X.base k x (spP X.K F)) (hr : RoomG j X.A) (hk : k ≤ j) (hg : Gl X x) (ha : MA X (e :: es) f)
    (hdb : (x == ("__debug__" : Str)) = false := by decide) (he : starEach (e :: es) X.env = (false, eval e X.env) :: starEach es X.env := by rfl) (hpl : (backTo pos (starEach es X.env)).any (·.1) = false := by rfl) :
    ME X (.Call (.Name x p) (e :: es) [] pos) (dCalP F f) := (pe_cal c hr hk hg ha hdb he hpl).weak fun σ H Q ⟨ξ, ι, ρ, S, d, S', st, re, e, k⟩ => by
  obtain ⟨ds, S1, e1, e⟩ := bnd_some e
  split at e
  · rename_i hp
    cases q : F ds with
    | none => rw [q] at e; cases e
    | some d' =>
      rw [q] at e
      cases e
      exact tA.run st re e1 fun vs H1 ι1 s1 st1 r1 => pure_call st1 r1 hp q (k.next s1)
  · cases e
theorem me_calM {F : FM} (c : Cal X.prog X.w X.K X.mg X.base k x (spM X.K F)) (hr : RoomG j X.A) (hk : k ≤ j) (hg : Gl X x) (ha : MA X (e :: es) f)
    (hdb : (x == ("__debug__" : Str)) = false := by decide) (he : starEach (e :: es) X.env = (false, eval e X.env) :: starEach es X.env := by rfl) (hpl : (backTo pos (starEach es X.env)).any (·.1) = false := by rfl) :
    ME X (.Call (.Name x p) (e :: es) [] pos) (dCalM F f) := (pe_cal c hr hk hg ha hdb he hpl).weak fun σ H Q ⟨ξ, ι, ρ, S, d, S', st, re, e, k⟩ => by
  obtain ⟨ds, S1, e1, e⟩ := bnd_some e
  exact tA.run st re e1 fun vs H1 ι1 s1 st1 r1 => ⟨ξ, ι1, S1, ds, d, S', st1, r1, e, k.next s1⟩
end

/-! ### statements -/
inductive Out where
  | nx | bk | ct | rt (d : D)
abbrev SDen := Env → Sto → Option (Out × Env × Sto)
def AnsS (K : Frag) (ξ ι : List Addr) (H : Hp) (o : Out) (ρ' : Env) (S' : Sto) (T : Ends) : Prop := match o with
  | .nx => ∀ σ' H' ι', Step H ι H' ι' → StoOk K H' ξ ι' S' → RepE K H' ξ ι' ρ' σ' → T.nx σ' H'
  | .bk => ∀ σ' H' ι', Step H ι H' ι' → StoOk K H' ξ ι' S' → RepE K H' ξ ι' ρ' σ' → T.bk σ' H'
  | .ct => ∀ σ' H' ι', Step H ι H' ι' → StoOk K H' ξ ι' S' → RepE K H' ξ ι' ρ' σ' → T.ct σ' H'
  | .rt d => Ans K ξ ι H S' d T.rt
theorem AnsS.next {K : Frag} {ξ ι ι' : List Addr} {H H' : Hp} {o : Out} {ρ' : Env} {S' : Sto} {T : Ends} (h : AnsS K ξ ι H o ρ' S' T) (s : Step H ι H' ι') : AnsS K ξ ι' H' o ρ' S' T := by
  cases o with
  | nx => exact fun σ2 H2 ι2 s2 => h σ2 H2 ι2 (s.trans s2)
  | bk => exact fun σ2 H2 ι2 s2 => h σ2 H2 ι2 (s.trans s2)
  | ct => exact fun σ2 H2 ι2 s2 => h σ2 H2 ι2 (s.trans s2)
  | rt d => exact Ans.next (S := S') h s
def tS (K : Frag) (f : SDen) : TS := fun T σ H => ∃ ξ ι ρ S o ρ' S', StoOk K H ξ ι S ∧ RepE K H ξ ι ρ σ ∧ f ρ S = some (o, ρ', S') ∧ AnsS K ξ ι H o ρ' S' T
abbrev MS (X : Cx) (st : Stmt) (f : SDen) : Prop := PS X st (tS X.K f)
abbrev MSs (X : Cx) (sts : List Stmt) (f : SDen) : Prop := PSs X sts (tS X.K f)
theorem _root_.L2.PS.weak {X : Cx} {st : Stmt} {t t' : TS} (h : PS X st t) (w : ∀ T σ H, t' T σ H → t T σ H) : PS X st t' := ⟨fun pins s σ H T I q => h.run pins s σ H T I (w T σ H q)⟩
theorem _root_.L2.PSs.weak {X : Cx} {st : List Stmt} {t t' : TS} (h : PSs X st t) (w : ∀ T σ H, t' T σ H → t T σ H) : PSs X st t' := ⟨fun pins s σ H T I q => h.run pins s σ H T I (w T σ H q)⟩
theorem tS.run {K : Frag} {H : Hp} {ξ ι : List Addr} {S S' : Sto} {ρ ρ' : Env} {σ : L2.St} {f : SDen} {o : Out} {T : Ends} (st : StoOk K H ξ ι S) (re : RepE K H ξ ι ρ σ) (e : f ρ S = some (o, ρ', S')) (k : AnsS K ξ ι H o ρ' S' T) : tS K f T σ H := ⟨ξ, ι, ρ, S, o, ρ', S', st, re, e, k⟩
def sNil : SDen := fun ρ S => some (.nx, ρ, S)
def sSeq (f g : SDen) : SDen := fun ρ S => match f ρ S with
  | some (.nx, ρ', S') => g ρ' S'
  | r => r
section
variable {X : Cx} {pos : Pos} {st : Stmt} {rest : List Stmt} {f g : SDen}
theorem mss_nil : MSs X [] sNil := pss_nil.weak fun T σ H ⟨ξ, ι, ρ, S, o, ρ', S', st, re, e, k⟩ => by
  cases e
  exact k σ H ι Step.refl st re
theorem mss_cons (h1 : MS X st f) (h2 : MSs X rest g) : MSs X (st :: rest) (sSeq f g) := (pss_cons h1 h2).weak fun T σ H ⟨ξ, ι, ρ, S, o, ρ', S', st, re, e, k⟩ => by
  unfold sSeq at e
  split at e
  · rename_i ρ1 S1 e1
    exact tS.run st re e1 fun σ1 H1 ι1 s1 st1 re1 => tS.run st1 re1 e (k.next s1)
  · rename_i h
    refine tS.run (o := o) st re e ?_
    cases o with
    | nx => exact absurd e (fun z => h ρ' S' (z ▸ rfl))
    | bk => exact k
    | ct => exact k
    | rt d => exact k
theorem mss_one (h1 : MS X st f) : MSs X [st] f := pss_one h1
def sPass : SDen := sNil
theorem ms_pass : MS X (.Pass pos) sPass := ps_pass.weak fun T σ H ⟨ξ, ι, ρ, S, o, ρ', S', st, re, e, k⟩ => by
  cases e
  exact k σ H ι Step.refl st re
def sBrk : SDen := fun ρ S => some (.bk, ρ, S)
def sCnt : SDen := fun ρ S => some (.ct, ρ, S)
theorem ms_break : MS X (.Break pos) sBrk := ps_break.weak fun T σ H ⟨ξ, ι, ρ, S, o, ρ', S', st, re, e, k⟩ => by
  cases e
  exact k σ H ι Step.refl st re
theorem ms_continue : MS X (.Continue pos) sCnt := ps_continue.weak fun T σ H ⟨ξ, ι, ρ, S, o, ρ', S', st, re, e, k⟩ => by
  cases e
  exact k σ H ι Step.refl st re
/-- a statement that is not reached -/
def sNever : SDen := fun _ _ => none
theorem ms_never : MS X st sNever := ps_never.weak fun T σ H ⟨ξ, ι, ρ, S, o, ρ', S', st, re, e, k⟩ => by cases e
variable {e : Expr} {fe : EDen}
def sExpr (fe : EDen) : SDen := fun ρ S => bnd (fe ρ S) fun _ S => some (.nx, ρ, S)
theorem ms_expr (he : ME X e fe) (hs : swapsWith e none pos.line X.env = pure false := by rfl) : MS X (.Expr e pos) (sExpr fe) := (ps_expr he hs).weak fun T σ H ⟨ξ, ι, ρ, S, o, ρ', S', st, re, e, k⟩ => by
  obtain ⟨d, S1, e1, e⟩ := bnd_some e
  cases e
  exact tE.run st re e1 fun v1 H1 ι1 s1 st1 r1 => k σ H1 ι1 s1 st1 (s1.env re)
def sRet (fe : EDen) : SDen := fun ρ S => bnd (fe ρ S) fun d S => some (.rt d, ρ, S)
theorem ms_ret (he : ME X e fe) : MS X (.Return (some e) pos) (sRet fe) := (ps_ret he).weak fun T σ H ⟨ξ, ι, ρ, S, o, ρ', S', st, re, e, k⟩ => by
  obtain ⟨d, S1, e1, e⟩ := bnd_some e
  cases e
  exact tE.run st re e1 k
def sRetN : SDen := fun ρ S => some (.rt .non, ρ, S)
theorem ms_retN : MS X (.Return none pos) sRetN := ps_retN.weak fun T σ H ⟨ξ, ι, ρ, S, o, ρ', S', st, re, e, k⟩ => by
  cases e
  exact Ans.here (d := .non) k st rfl
def sIf (fc : TDen) (f g : SDen) : SDen := fun ρ S => bnd (fc ρ S) fun b S => if b = true then f ρ S else g ρ S
theorem ms_if {c : Expr} {a b : List Stmt} {fc : TDen} (hc : MT X c fc) (ha : MSs X a f) (hb : MSs X b g) : MS X (.If c a b pos) (sIf fc f g) := (ps_if hc ha hb).weak fun T σ H ⟨ξ, ι, ρ, S, o, ρ', S', st, re, e, k⟩ => by
  obtain ⟨d, S1, e1, e⟩ := bnd_some e
  refine tB.run st re e1 fun H1 ι1 s1 st1 => ?_
  cases d with
  | true => exact iteT (tS.run st1 (s1.env re) e (k.next s1))
  | false => exact iteF (tS.run st1 (s1.env re) e (k.next s1))
end

/-! ### stores -/
abbrev GDen := D → Env → Sto → Option (Env × Sto)
def AnsG (K : Frag) (ξ ι : List Addr) (H : Hp) (ρ' : Env) (S' : Sto) (Q : L2.St → Hp → Prop) : Prop := ∀ σ' H' ι', Step H ι H' ι' → StoOk K H' ξ ι' S' → RepE K H' ξ ι' ρ' σ' → Q σ' H'
theorem AnsG.next {K : Frag} {ξ ι ι' : List Addr} {H H' : Hp} {ρ' : Env} {S' : Sto} {Q : L2.St → Hp → Prop} (h : AnsG K ξ ι H ρ' S' Q) (s : Step H ι H' ι') : AnsG K ξ ι' H' ρ' S' Q := fun σ2 H2 ι2 s2 => h σ2 H2 ι2 (s.trans s2)
def tG (K : Frag) (g : GDen) : TG := fun v σ H Q => ∃ ξ ι ρ S d ρ' S', StoOk K H ξ ι S ∧ RepE K H ξ ι ρ σ ∧ RepV K H ξ ι d v ∧ g d ρ S = some (ρ', S') ∧ AnsG K ξ ι H ρ' S' Q
abbrev MG (X : Cx) (e : Expr) (g : GDen) : Prop := PG X e (tG X.K g)
abbrev GsDen := List D → Env → Sto → Option (Env × Sto)
def tGs (K : Frag) (g : GsDen) : TGs := fun vs σ H Q => ∃ ξ ι ρ S ds ρ' S', StoOk K H ξ ι S ∧ RepE K H ξ ι ρ σ ∧ RepL K H ξ ι ds vs ∧ g ds ρ S = some (ρ', S') ∧ AnsG K ξ ι H ρ' S' Q
abbrev MGs (X : Cx) (es : List Expr) (g : GsDen) : Prop := PGs X es (tGs X.K g)
theorem _root_.L2.PG.weak {X : Cx} {e : Expr} {t t' : TG} (h : PG X e t) (w : ∀ v σ H Q, t' v σ H Q → t v σ H Q) : PG X e t' := ⟨fun pins s σ H v u Q I r q => h.run pins s σ H v u Q I r (w v σ H Q q)⟩
theorem _root_.L2.PGs.weak {X : Cx} {e : List Expr} {t t' : TGs} (h : PGs X e t) (w : ∀ v σ H Q, t' v σ H Q → t v σ H Q) : PGs X e t' := ⟨fun pins s σ H v u Q I r q => h.run pins s σ H v u Q I r (w v σ H Q q)⟩
def gN (i : Nat) : GDen := fun d ρ S => some (ρ.set i (some d), S)
def gsNil : GsDen := fun ds ρ S => match ds with
  | [] => some (ρ, S)
  | _ => none
def gsCons (g : GDen) (gs : GsDen) : GsDen := fun ds ρ S => match ds with
  | d :: r => (g d ρ S).bind fun p => gs r p.1 p.2
  | _ => none
def gT (n : Nat) (gs : GsDen) : GDen := fun d ρ S => match d with
  | .tup ds => if ds.length = n then gs ds ρ S else none
  | _ => none
section
variable {X : Cx} {pos : Pos}
theorem mg_name {i : Nat} {x : Str} (hN : X.N.Nodup) (hi : X.N[i]? = some x) (hx : Loc X.env.scope x := by first | exact .inl rfl | exact .inr rfl) (hf : X.fn x = true ∨ X.env.scope.names.lookup x = some .local := by first | exact .inl rfl | exact .inr rfl | assumption) : MG X (.Name x pos) (gN i) :=
  (pg_name hN hi hx hf).weak fun v σ H Q ⟨ξ, ι, ρ, S, d, ρ', S', st, re, r, e, k⟩ => by
    cases e
    exact k _ H ι Step.refl st (re.set r)
theorem mgs_nil : MGs X [] gsNil := pgs_nil.weak fun v σ H Q ⟨ξ, ι, ρ, S, ds, ρ', S', st, re, r, e, k⟩ => by
  cases ds with
  | nil =>
    cases e
    exact ⟨r, k σ H ι Step.refl st re⟩
  | cons _ _ => cases e
theorem mgs_cons {e : Expr} {es : List Expr} {g : GDen} {gs : GsDen} (h1 : MG X e g) (h2 : MGs X es gs) (hs : (assignEach (e :: es) X.env).map (·.2) = assign e X.env :: (assignEach es X.env).map (·.2) := by rfl) : MGs X (e :: es) (gsCons g gs) :=
  (pgs_cons h1 h2 hs).weak fun v σ H Q ⟨ξ, ι, ρ, S, ds, ρ', S', st, re, r, e, k⟩ => by
    cases ds with
    | nil => cases e
    | cons d t =>
      have e : (g d ρ S).bind (fun p => gs t p.1 p.2) = some (ρ', S') := e
      cases q : g d ρ S with
      | none => rw [q] at e; cases e
      | some p =>
        rw [q] at e
        obtain ⟨v1, r1, rfl, hv, hr⟩ := r
        exact ⟨v1, r1, rfl, ξ, ι, ρ, S, d, p.1, p.2, st, re, hv, q, fun σ1 H1 ι1 s1 st1 re1 => ⟨ξ, ι1, p.1, p.2, t, ρ', S', st1, re1, s1.vals hr, e, k.next s1⟩⟩
theorem mg_tup {es : List Expr} {k : Nat} {gs : GsDen} {n : Nat} (hc : X.calm = true) (h : MGs X es gs) (hn : (assignEach es X.env).length = n := by rfl) (hst : (assignEach es X.env).findIdx? (·.1) = none := by rfl) : MG X (.Tuple es k pos) (gT n gs) :=
  (pg_tup hc h hn hst).weak fun v σ H Q ⟨ξ, ι, ρ, S, d, ρ', S', st, re, r, e, k⟩ => by
    cases d with
    | tup ds =>
      have e : (if ds.length = n then gs ds ρ S else none) = some (ρ', S') := e
      split at e
      · rename_i hl
        obtain ⟨a, vs, rfl, h2, h3⟩ := r
        exact ⟨a, vs, rfl, h2.sq, by rw [h3.length]; exact hl, ξ, ι, ρ, S, ds, ρ', S', st, re, h3, e, k⟩
      · cases e
    | _ => cases e
def sAsg (fe : EDen) (g : GDen) : SDen := fun ρ S => bnd (fe ρ S) fun d S => (g d ρ S).map fun p => (.nx, p.1, p.2)
theorem asg_ok {K : Frag} {fe : EDen} {g : GDen} {T : Ends} {σ : L2.St} {H : Hp} (h : tS K (sAsg fe g) T σ H) : tAsg (tE K fe) (tG K g) T σ H := by
  obtain ⟨ξ, ι, ρ, S, o, ρ', S', st, re, e, k⟩ := h
  obtain ⟨d, S1, e1, e⟩ := bnd_some e
  cases q : g d ρ S1 with
  | none => rw [q] at e; cases e
  | some p =>
    rw [q] at e
    cases e
    exact tE.run st re e1 fun v1 H1 ι1 s1 st1 r1 => ⟨ξ, ι1, ρ, S1, d, p.1, p.2, st1, s1.env re, r1, q, AnsS.next (o := .nx) k s1⟩
theorem ms_asg {tg e : Expr} {fe : EDen} {g : GDen} (he : ME X e fe) (hg : MG X tg g) (hs : swapsWithSole [tg] e pos.line X.env = pure false := by rfl) (hw : swappedStores [tg] e X.env = pure none := by rfl)
    (h1 : (assignEach [tg] X.env).map (·.2) = [assign tg X.env] := by rfl) : MS X (.Assign [tg] e pos) (sAsg fe g) := (ps_asg he hg hs hw h1).weak fun T σ H h => asg_ok h
theorem ms_set {i : Nat} {x : Str} {e : Expr} {fe : EDen} {pos' : Pos} (hN : X.N.Nodup) (hi : X.N[i]? = some x) (he : ME X e fe) (hx : Loc X.env.scope x := by first | exact .inl rfl | exact .inr rfl) (hs : swapsWith e (some (.Name x pos')) pos.line X.env = pure false := by rfl) (hf : X.fn x = true ∨ X.env.scope.names.lookup x = some .local := by first | exact .inl rfl | exact .inr rfl | assumption) :
    MS X (.Assign [.Name x pos'] e pos) (sAsg fe (gN i)) := (ps_set hN hi hx he hs hf).weak fun T σ H ⟨ξ, ι, ρ, S, o, ρ', S', st, re, e, k⟩ => by
  obtain ⟨d, S1, e1, e⟩ := bnd_some e
  cases e
  exact tE.run st re e1 fun v1 H1 ι1 s1 st1 r1 => k _ H1 ι1 s1 st1 ((s1.env re).set r1)
/-- a, b = x, y; a, b, c = x, y, z: plain local names -/
def sPar (is : List Nat) (fa : ADen) : SDen := fun ρ S => bnd (fa ρ S) fun ds S => if ds.length = is.length then some (.nx, (is.zip ds).foldl (fun ρ p => ρ.set p.1 (some p.2)) ρ, S) else none
theorem ms_par {i j : Nat} {x y : Str} {a b : Expr} {fa : ADen} {px py pt : Pos} {kt k2 : Nat} {pt2 : Pos} (hc : X.calm = true) (hN : X.N.Nodup) (hi : X.N[i]? = some x) (hj : X.N[j]? = some y) (ha : MA X [a, b] fa) (hij : i ≠ j := by decide)
    (hx : X.env.scope.names.lookup x = some .local := by rfl) (hy : X.env.scope.names.lookup y = some .local := by rfl)
    (hw : swappedStores [.Tuple [.Name x px, .Name y py] kt pt] (.Tuple [a, b] k2 pt2) X.env = pure (some [x, y]) := by rfl)
    (hs : swapsWithSole [.Tuple [.Name x px, .Name y py] kt pt] (.Tuple [a, b] k2 pt2) pos.line X.env = pure false := by rfl) :
    MS X (.Assign [.Tuple [.Name x px, .Name y py] kt pt] (.Tuple [a, b] k2 pt2) pos) (sPar [i, j] fa) := (ps_par hc hN hi hj hij hx hy ha hw hs).weak fun T σ H ⟨ξ, ι, ρ, S, o, ρ', S', st, re, e, k⟩ => by
  obtain ⟨ds, S1, e1, e⟩ := bnd_some e
  split at e
  · rename_i hl
    cases e
    match ds, hl, e1, k with
    | [d1, d2], _, e1, k =>
      refine tA.run st re e1 fun vs H1 ι1 s1 st1 r1 => ?_
      obtain ⟨v, w, rfl, h1, h2⟩ := RepL.two' r1
      exact ⟨v, w, rfl, k _ H1 ι1 s1 st1 (((s1.env re).set h1).set h2)⟩
  · cases e
theorem ms_par3 {i j l : Nat} {x y z : Str} {a b c : Expr} {fa : ADen} {px py pz pt pos : Pos} {kt k2 : Nat} {pt2 : Pos} (hc : X.calm = true) (hN : X.N.Nodup) (hi : X.N[i]? = some x) (hj : X.N[j]? = some y) (hl : X.N[l]? = some z) (ha : MA X [a, b, c] fa)
    (hij : i ≠ j := by decide) (hil : i ≠ l := by decide) (hjl : j ≠ l := by decide)
    (hx : X.env.scope.names.lookup x = some .local := by rfl) (hy : X.env.scope.names.lookup y = some .local := by rfl) (hz : X.env.scope.names.lookup z = some .local := by rfl)
    (hw : swappedStores [.Tuple [.Name x px, .Name y py, .Name z pz] kt pt] (.Tuple [a, b, c] k2 pt2) X.env = pure (some [x, y, z]) := by rfl)
    (hs : swapsWithSole [.Tuple [.Name x px, .Name y py, .Name z pz] kt pt] (.Tuple [a, b, c] k2 pt2) pos.line X.env = pure false := by rfl) :
    MS X (.Assign [.Tuple [.Name x px, .Name y py, .Name z pz] kt pt] (.Tuple [a, b, c] k2 pt2) pos) (sPar [i, j, l] fa) := (ps_par3 hc hN hi hj hl hij hil hjl hx hy hz ha hw hs).weak fun T σ H ⟨ξ, ι, ρ, S, o, ρ', S', st, re, e, k⟩ => by
  obtain ⟨ds, S1, e1, e⟩ := bnd_some e
  split at e
  · rename_i hl
    cases e
    match ds, hl, e1, k with
    | [d1, d2, d3], _, e1, k =>
      refine tA.run st re e1 fun vs H1 ι1 s1 st1 r1 => ?_
      obtain ⟨u, t, rfl, h1, hr⟩ := r1
      obtain ⟨v, w, rfl, h2, h3⟩ := RepL.two' hr
      exact ⟨u, v, w, rfl, k _ H1 ι1 s1 st1 ((((s1.env re).set h1).set h2).set h3)⟩
  · cases e
/-- o[i] = e -/
def MSet (K : Frag) (t : TSet) (g : D → D → D → Sto → Option Sto) : Prop := ∀ (H : Hp) (ξ ι : List Addr) (S S' : Sto) (o i d : D) (ov iv v : V) (Q : Hp → Prop), StoOk K H ξ ι S → RepV K H ξ ι o ov → RepV K H ξ ι i iv → RepV K H ξ ι d v → g o i d S = some S' → AnsT K ξ ι H S' Q → t ov iv v H Q
def gS (fo fi : EDen) (g : D → D → D → Sto → Option Sto) : GDen := fun d ρ S => bnd (fo ρ S) fun o S => bnd (fi ρ S) fun i S => (g o i d S).map fun S => (ρ, S)
theorem mg_sub {o i : Expr} {fo fi : EDen} {t : TSet} {g : D → D → D → Sto → Option Sto} (ho : ME X o fo) (hi : ME X i fi) (hs : PSet X t) (m : MSet X.K t g)
    (ha : ∀ v, assign (.Subscript o i pos) X.env v = (do
      let ov ← holding [v] (eval o X.env)
      let iv ← holding [v, ov] (eval i X.env)
      standAt pos
      holding [v, ov, iv] (setItem ov iv v)
      release [v, ov, iv] []) := by intro _; rfl) : MG X (.Subscript o i pos) (gS fo fi g) := (pg_sub ho hi hs ha).weak fun v σ H Q ⟨ξ, ι, ρ, S, d, ρ', S', st, re, r, e, k⟩ => by
  obtain ⟨x, S1, e1, e⟩ := bnd_some e
  obtain ⟨y, S2, e2, e⟩ := bnd_some e
  cases q : g x y d S2 with
  | none => rw [q] at e; cases e
  | some S3 =>
    rw [q] at e
    cases e
    refine tE.run st re e1 fun v1 H1 ι1 s1 st1 r1 => tE.run st1 (s1.env re) e2 fun v2 H2 ι2 s2 st2 r2 => ?_
    exact m H2 ξ ι2 S2 S' x y d v1 v2 v _ st2 (s2.val r1) r2 (s2.val (s1.val r)) q fun H3 ι3 s3 st3 => k σ H3 ι3 (s1.trans (s2.trans s3)) st3 (s3.env (s2.env (s1.env re)))
/-- .. of a list -/
def setL (o i d : D) (S : Sto) : Option Sto := match o, i with
  | .ref n, .int z => match S[n]? with
    | some (.lst ds) => (ixN ds.length z).bind fun j => if D.fit n d then some (S.set n (.lst (ds.set j d))) else none
    | _ => none
  | _, _ => none
theorem fitL_set {n : Nat} {d : D} {ds : List D} {j : Nat} (h : D.fitL n ds = true) (hd : D.fit n d = true) : D.fitL n (ds.set j d) = true := D.fitL_all.mpr fun x hx => by
  rcases List.mem_or_eq_of_mem_set hx with h1 | h1
  · exact D.fitL_all.mp h x h1
  · rw [h1]; exact hd
theorem m_setL {K : Frag} : MSet K rSetL setL := by
  intro H ξ ι S S' o i d ov iv v Q st ro ri rd e k
  cases o with
  | ref n =>
    cases i with
    | int z =>
      unfold setL at e
      simp only at e
      split at e
      · rename_i ds q
        cases q2 : ixN ds.length z with
        | none => rw [q2] at e; cases e
        | some j =>
          rw [q2] at e
          have e : (if D.fit n d then some (S.set n (.lst (ds.set j d))) else none) = some S' := e
          split at e
          · rename_i hf
            cases e
            obtain ⟨a, rfl, hn⟩ := ro
            obtain ⟨b, h3, vs, h4, h5⟩ := st.cell n _ q
            obtain rfl : b = a := Option.some.inj (h3.symm.trans hn)
            have s : Step H ι (upd H b (.lst (vs.set j v))) ι := Step.write (S := S) hn (.lst h4)
            refine ⟨b, vs, z, j, rfl, ri, h4, by rw [h5.length]; exact q2, k _ ι s ?_⟩
            exact st.write hn (.lst h4) ⟨_, upd_same, (s.vals h5).set (s.val rd) j⟩ (fitL_set (st.asc n _ q) hf)
          · cases e
      · cases e
    | _ => cases e
  | _ => cases e
end
end MS

namespace MS
open PySem PySem.Spec PyProof.Rows L2

/-! ### while -/
def whileN (c : TDen) (b : SDen) (n : Nat) : SDen := Nat.rec (fun _ _ => none) (fun _ ih ρ S => bnd (c ρ S) fun t S => if t = true then (match b ρ S with
  | some (.nx, ρ', S') => ih ρ' S'
  | some (.ct, ρ', S') => ih ρ' S'
  | some (.bk, ρ', S') => some (.nx, ρ', S')
  | r => r) else some (.nx, ρ, S)) n
theorem whileN_succ (c : TDen) (b : SDen) (n : Nat) (ρ : Env) (S : Sto) : whileN c b (n + 1) ρ S = bnd (c ρ S) fun t S => if t = true then (match b ρ S with
  | some (.nx, ρ', S') => whileN c b n ρ' S'
  | some (.ct, ρ', S') => whileN c b n ρ' S'
  | some (.bk, ρ', S') => some (.nx, ρ', S')
  | r => r) else some (.nx, ρ, S) := rfl
/-- where a while goes: what one turn is worth -/
theorem whileN_ok {c : TDen} {b : SDen} (Pv : Nat → Env → Sto → Prop) {Qd : Option (Out × Env × Sto) → Prop}
    (turn : ∀ m ρ S, Pv m ρ S → (∃ S1, c ρ S = some (false, S1) ∧ Qd (some (.nx, ρ, S1))) ∨ ∃ S1, c ρ S = some (true, S1) ∧ ((∃ m' ρ' S', m' < m ∧ (b ρ S1 = some (.nx, ρ', S') ∨ b ρ S1 = some (.ct, ρ', S')) ∧ Pv m' ρ' S') ∨ (∃ ρ' S', b ρ S1 = some (.bk, ρ', S') ∧ Qd (some (.nx, ρ', S'))) ∨ ∃ d ρ' S', b ρ S1 = some (.rt d, ρ', S') ∧ Qd (some (.rt d, ρ', S')))) :
    ∀ (m n : Nat) (ρ : Env) (S : Sto), m < n → Pv m ρ S → Qd (whileN c b n ρ S) := by
  intro m
  induction m using Nat.strongRecOn with
  | ind m ih =>
    intro n ρ S hn p
    cases n with
    | zero => omega
    | succ n =>
      rw [whileN_succ]
      rcases turn m ρ S p with ⟨S1, e, q⟩ | ⟨S1, e, ⟨m', ρ', S', hm, hb, p'⟩ | ⟨ρ', S', hb, q⟩ | ⟨d, ρ', S', hb, q⟩⟩
      · rw [e]
        exact q
      · rw [e]
        have := ih m' hm n ρ' S' (by omega) p'
        rcases hb with hb | hb
        · simp only [bnd_mk, if_true, hb]
          exact this
        · simp only [bnd_mk, if_true, hb]
          exact this
      · rw [e]
        simp only [bnd_mk, if_true, hb]
        exact q
      · rw [e]
        simp only [bnd_mk, if_true, hb]
        exact q
section
variable {X : Cx} {pos : Pos}
theorem ms_while (n : Nat) {c : Expr} {body : List Stmt} {fc : TDen} {fb : SDen} (hp : PassesOwn (model X.prog X.w) X.A X.env X.xe) (hc : MT X c fc) (hb : MSs X body fb) : MS X (.While c body [] pos) (whileN fc fb n) :=
  (ps_while hp hc hb).weak fun T σ H h => by
    refine ⟨fun m σ H => tS X.K (whileN fc fb m) T σ H, ⟨n, h⟩, ?_⟩
    rintro m σ H ⟨ξ, ι, ρ, S, o, ρ', S', st, re, e, k⟩
    cases m with
    | zero => cases e
    | succ m =>
      rw [whileN_succ] at e
      obtain ⟨t, S1, e1, e⟩ := bnd_some e
      refine tB.run st re e1 fun H1 ι1 s1 st1 => ?_
      cases t with
      | false =>
        cases e
        exact iteF (k σ H1 ι1 s1 st1 (s1.env re))
      | true =>
        refine iteT ⟨tS X.K (whileN fc fb m) T, fun σ' H' q => ⟨m, Nat.lt_succ_self m, q⟩, ?_⟩
        simp only [if_true] at e
        have k1 := k.next s1
        cases q : fb ρ S1 with
        | none => rw [q] at e; cases e
        | some r =>
          obtain ⟨o1, ρ1, S2⟩ := r
          rw [q] at e
          refine tS.run st1 (s1.env re) q ?_
          cases o1 with
          | nx => exact fun σ2 H2 ι2 s2 st2 re2 => tS.run st2 re2 e (k1.next s2)
          | ct => exact fun σ2 H2 ι2 s2 st2 re2 => tS.run st2 re2 e (k1.next s2)
          | bk =>
            cases e
            exact k1
          | rt d =>
            cases e
            exact k1
end

/-! ### what is walked -/
/-- a source: its items; a mutable list must stand as it stood -/
inductive Src where
  | fix (ds : List D) | cell (n : Nat) (ds : List D) | grd (gs : List (Nat × List D)) (ds : List D)
def Src.items : Src → List D
  | .fix ds => ds
  | .cell _ ds => ds
  | .grd _ ds => ds
mutual
def D.same : D → D → Bool
  | .non, .non => true
  | .bl a, .bl b => a == b
  | .int a, .int b => decide (a = b)
  | .str a, .str b => decide (a = b)
  | .tup a, .tup b => D.sameL a b
  | .fl a, .fl b => D.sameL a b
  | .rl a, .rl b => D.sameL a b
  | .ref a, .ref b => decide (a = b)
  | _, _ => false
def D.sameL : List D → List D → Bool
  | [], [] => true
  | a :: as, b :: bs => D.same a b && D.sameL as bs
  | _, _ => false
end
mutual
theorem D.same_eq : ∀ {a b : D}, D.same a b = true → a = b
  | .non, b, h => by cases b <;> first | rfl | cases h
  | .bl a, b, h => by
    cases b with
    | bl b => rw [eq_of_beq (show (a == b) = true from h)]
    | _ => cases h
  | .int a, b, h => by
    cases b with
    | int b => rw [of_decide_eq_true (show decide (a = b) = true from h)]
    | _ => cases h
  | .str a, b, h => by
    cases b with
    | str b => rw [of_decide_eq_true (show decide (a = b) = true from h)]
    | _ => cases h
  | .tup a, b, h => by
    cases b with
    | tup b => rw [D.sameL_eq (show D.sameL a b = true from h)]
    | _ => cases h
  | .fl a, b, h => by
    cases b with
    | fl b => rw [D.sameL_eq (show D.sameL a b = true from h)]
    | _ => cases h
  | .rl a, b, h => by
    cases b with
    | rl b => rw [D.sameL_eq (show D.sameL a b = true from h)]
    | _ => cases h
  | .ref a, b, h => by
    cases b with
    | ref b => rw [of_decide_eq_true (show decide (a = b) = true from h)]
    | _ => cases h
theorem D.sameL_eq : ∀ {a b : List D}, D.sameL a b = true → a = b
  | [], [], _ => rfl
  | [], _ :: _, h => by cases h
  | _ :: _, [], h => by cases h
  | a :: as, b :: bs, h => by
    have h : (D.same a b && D.sameL as bs) = true := h
    rw [Bool.and_eq_true] at h
    rw [D.same_eq h.1, D.sameL_eq h.2]
end
mutual
theorem D.same_self : ∀ a : D, D.same a a = true
  | .non => rfl
  | .bl a => beq_self_eq_true a
  | .int a => decide_eq_true rfl
  | .str a => decide_eq_true rfl
  | .tup a => D.sameL_self a
  | .fl a => D.sameL_self a
  | .rl a => D.sameL_self a
  | .ref a => decide_eq_true rfl
theorem D.sameL_self : ∀ a : List D, D.sameL a a = true
  | [] => rfl
  | a :: as => by
    show (D.same a a && D.sameL as as) = true
    rw [D.same_self a, D.sameL_self as]
    rfl
end
/-- the source stands -/
def cellIs (S : Sto) (n : Nat) (ds : List D) : Bool := match S[n]? with
  | some (.lst es) => D.sameL es ds
  | _ => false
def Src.ok (s : Src) (S : Sto) : Bool := match s with
  | .fix _ => true
  | .cell n ds => cellIs S n ds
  | .grd gs _ => gs.all fun g => cellIs S g.1 g.2
theorem Src.ok_fix {ds : List D} {S : Sto} : Src.ok (.fix ds) S = true := rfl
/-- turns of an iterator: while the source stands it gives the items one by one -/
structure SrcOk (K : Frag) (ξ ι : List Addr) (H : Hp) (s : Src) (J : It) : Prop where
  go : ∀ ξ' H' ι' S i, Step H ι H' ι' → (∀ a ∈ ξ', a ∈ ξ ∨ H a = none) → StoOk K H' ξ' ι' S → s.ok S = true → i < s.items.length → J.go i H'
  stop : ∀ ξ' H' ι' S, Step H ι H' ι' → (∀ a ∈ ξ', a ∈ ξ ∨ H a = none) → StoOk K H' ξ' ι' S → s.ok S = true → J.stop s.items.length H'
  yld : ∀ ξ' H' ι' S i x H3 d, Step H ι H' ι' → (∀ a ∈ ξ', a ∈ ξ ∨ H a = none) → StoOk K H' ξ' ι' S → s.ok S = true → s.items[i]? = some d → J.yld i H' x H3 → (∀ a o, H' a = some o → H3 a = some o) ∧ RepV K H3 ξ' ι' d x
abbrev IDen := Env → Sto → Option (Src × Sto)
def tI (K : Frag) (f : IDen) : TI := fun σ H R => ∃ ξ ι ρ S s S', StoOk K H ξ ι S ∧ RepE K H ξ ι ρ σ ∧ f ρ S = some (s, S') ∧ ∀ J H' ι', Step H ι H' ι' → StoOk K H' ξ ι' S' → SrcOk K ξ ι' H' s J → R J H'
abbrev MI (X : Cx) (tg iter : Expr) (f : IDen) : Prop := PI X tg iter (tI X.K f)
theorem _root_.L2.PI.weak {X : Cx} {tg iter : Expr} {t t' : TI} (h : PI X tg iter t) (w : ∀ σ H R, t' σ H R → t σ H R) : PI X tg iter t' := ⟨fun pins s σ H R I q => h.run pins s σ H R I (w σ H R q)⟩
/-- for -/
def forL (s : Src) (g : GDen) (b : SDen) : List D → SDen
  | [] => fun ρ S => if s.ok S then some (.nx, ρ, S) else none
  | d :: ds => fun ρ S => if s.ok S then (match g d ρ S with
    | some (ρ1, S1) => (match b ρ1 S1 with
      | some (.nx, ρ', S') => forL s g b ds ρ' S'
      | some (.ct, ρ', S') => forL s g b ds ρ' S'
      | some (.bk, ρ', S') => some (.nx, ρ', S')
      | r => r)
    | none => none) else none
def sFor (fi : IDen) (g : GDen) (b : SDen) : SDen := fun ρ S => bnd (fi ρ S) fun s S => forL s g b s.items ρ S
section
variable {X : Cx} {pos : Pos}
theorem ms_for {tg iter : Expr} {body : List Stmt} {fi : IDen} {g : GDen} {fb : SDen} (hp : PassesOwn (model X.prog X.w) X.A X.env X.xe) (hc : X.calm = true) (hi : MI X tg iter fi) (hg : MG X tg g) (hb : MSs X body fb) (hs : ∀ x, foldedSetIterable iter X.env x = pure x := by intro _; rfl) : MS X (.For tg iter body [] pos) (sFor fi g fb) :=
  (ps_for hp hc hi hg hb hs).weak fun T σ H ⟨ξ, ι, ρ, S, o, ρ', S', st, re, e, k⟩ => by
    obtain ⟨s, S1, e1, e⟩ := bnd_some e
    refine ⟨ξ, ι, ρ, S, s, S1, st, re, e1, fun J H1 ι1 s1 st1 so => ?_⟩
    refine ⟨fun i m σ H => m = s.items.length - i ∧ i ≤ s.items.length ∧ ∃ ι' ρ1 S2, Step H1 ι1 H ι' ∧ StoOk X.K H ξ ι' S2 ∧ RepE X.K H ξ ι' ρ1 σ ∧ forL s g fb (s.items.drop i) ρ1 S2 = some (o, ρ', S') ∧ AnsS X.K ξ ι' H o ρ' S' T,
      ⟨_, rfl, Nat.zero_le _, ι1, ρ, S1, Step.refl, st1, s1.env re, e, k.next s1⟩, ?_⟩
    rintro i m σ2 H2 ⟨rfl, hi2, ι2, ρ2, S2, s2, st2, re2, e2, k2⟩
    by_cases hlt : i < s.items.length
    · rw [List.drop_eq_getElem_cons hlt] at e2
      have e2 : (if s.ok S2 then (match g s.items[i] ρ2 S2 with
        | some (ρ1, S1) => (match fb ρ1 S1 with
          | some (.nx, ρ', S') => forL s g fb (s.items.drop (i + 1)) ρ' S'
          | some (.ct, ρ', S') => forL s g fb (s.items.drop (i + 1)) ρ' S'
          | some (.bk, ρ', S') => some (.nx, ρ', S')
          | r => r)
        | none => none) else none) = some (o, ρ', S') := e2
      split at e2
      · rename_i hok
        refine .inr ⟨so.go ξ H2 ι2 S2 i s2 (fun a ha => .inl ha) st2 hok hlt, fun σ' H' => ∃ m', m' < s.items.length - i ∧ (m' = s.items.length - (i + 1) ∧ i + 1 ≤ s.items.length ∧ ∃ ι' ρ1 S2, Step H1 ι1 H' ι' ∧ StoOk X.K H' ξ ι' S2 ∧ RepE X.K H' ξ ι' ρ1 σ' ∧ forL s g fb (s.items.drop (i + 1)) ρ1 S2 = some (o, ρ', S') ∧ AnsS X.K ξ ι' H' o ρ' S' T),
          fun σ' H' h => h, fun x H3 hy => ?_⟩
        obtain ⟨kp, rx⟩ := so.yld ξ H2 ι2 S2 i x H3 _ s2 (fun a ha => .inl ha) st2 hok (List.getElem?_eq_getElem hlt) hy
        have s3 : Step H2 ι2 H3 ι2 := ⟨⟨[], (List.append_nil _).symm⟩, fun a o h n => ⟨kp a o h, n⟩, fun a o u h => kp a _ h⟩
        have st3 := st2.beside kp
        cases q : g s.items[i] ρ2 S2 with
        | none => rw [q] at e2; cases e2
        | some p =>
          obtain ⟨ρ3, S3⟩ := p
          rw [q] at e2
          have e2 : (match fb ρ3 S3 with
            | some (.nx, ρ', S') => forL s g fb (s.items.drop (i + 1)) ρ' S'
            | some (.ct, ρ', S') => forL s g fb (s.items.drop (i + 1)) ρ' S'
            | some (.bk, ρ', S') => some (.nx, ρ', S')
            | r => r) = some (o, ρ', S') := e2
          refine ⟨ξ, ι2, ρ2, S2, _, ρ3, S3, st3, s3.env re2, rx, q, fun σ4 H4 ι4 s4 st4 re4 => ?_⟩
          cases q2 : fb ρ3 S3 with
          | none => rw [q2] at e2; cases e2
          | some r =>
            obtain ⟨o1, ρ5, S5⟩ := r
            rw [q2] at e2
            refine tS.run st4 re4 q2 ?_
            have k4 := (k2.next s3).next s4
            cases o1 with
            | nx => exact fun σ6 H6 ι6 s6 st6 re6 => ⟨_, by omega, rfl, hlt, ι6, ρ5, S5, s2.trans (s3.trans (s4.trans s6)), st6, re6, e2, k4.next s6⟩
            | ct => exact fun σ6 H6 ι6 s6 st6 re6 => ⟨_, by omega, rfl, hlt, ι6, ρ5, S5, s2.trans (s3.trans (s4.trans s6)), st6, re6, e2, k4.next s6⟩
            | bk =>
              cases e2
              exact k4
            | rt d =>
              cases e2
              exact k4
      · cases e2
    · have hl : i = s.items.length := by omega
      subst hl
      rw [List.drop_length] at e2
      have e2 : (if s.ok S2 then some (Out.nx, ρ2, S2) else none) = some (o, ρ', S') := e2
      split at e2
      · rename_i hok
        cases e2
        exact .inl ⟨so.stop ξ H2 ι2 _ s2 (fun a ha => .inl ha) st2 hok, k2 σ2 H2 ι2 Step.refl st2 re2⟩
      · cases e2

end
/-! ### targets that are names: they change nothing but slots -/
abbrev NDen := D → Env → Option Env
def gOf (g : NDen) : GDen := fun d ρ S => (g d ρ).map fun ρ' => (ρ', S)
def tGn (K : Frag) (vs : List Nat) (g : NDen) : TG := fun v σ H Q => ∃ ξ ι ρ S d ρ', StoOk K H ξ ι S ∧ RepE K H ξ ι ρ σ ∧ RepV K H ξ ι d v ∧ g d ρ = some ρ' ∧ ∀ σ', RepE K H ξ ι ρ' σ' → σ'.length = σ.length → (∀ i : Nat, i ∉ vs → σ'[i]? = σ[i]?) → Q σ' H
def tGns (K : Frag) (vs : List Nat) (g : List D → Env → Option Env) : TGs := fun xs σ H Q => ∃ ξ ι ρ S ds ρ', StoOk K H ξ ι S ∧ RepE K H ξ ι ρ σ ∧ RepL K H ξ ι ds xs ∧ g ds ρ = some ρ' ∧ ∀ σ', RepE K H ξ ι ρ' σ' → σ'.length = σ.length → (∀ i : Nat, i ∉ vs → σ'[i]? = σ[i]?) → Q σ' H
abbrev MN (X : Cx) (e : Expr) (vs : List Nat) (g : NDen) : Prop := PG X e (tGn X.K vs g)
abbrev MNs (X : Cx) (es : List Expr) (vs : List Nat) (g : List D → Env → Option Env) : Prop := PGs X es (tGns X.K vs g)
def nN (i : Nat) : NDen := fun d ρ => some (ρ.set i (some d))
def nsNil : List D → Env → Option Env := fun ds ρ => match ds with
  | [] => some ρ
  | _ => none
def nsCons (g : NDen) (gs : List D → Env → Option Env) : List D → Env → Option Env := fun ds ρ => match ds with
  | d :: r => (g d ρ).bind fun ρ' => gs r ρ'
  | _ => none
def nT (n : Nat) (gs : List D → Env → Option Env) : NDen := fun d ρ => match d with
  | .tup ds => if ds.length = n then gs ds ρ else none
  | _ => none
section
variable {X : Cx} {pos : Pos}
theorem mn_name {i : Nat} {x : Str} (hN : X.N.Nodup) (hi : X.N[i]? = some x) (hx : Loc X.env.scope x := by first | exact .inl rfl | exact .inr rfl) (hf : X.fn x = true ∨ X.env.scope.names.lookup x = some .local := by first | exact .inl rfl | exact .inr rfl | assumption) : MN X (.Name x pos) [i] (nN i) :=
  (pg_name hN hi hx hf).weak fun v σ H Q ⟨ξ, ι, ρ, S, d, ρ', st, re, r, e, k⟩ => by
    cases e
    exact k _ (re.set r) (List.length_set ..) fun j hj => List.getElem?_set_ne fun z => hj (List.mem_singleton.mpr z.symm)
theorem mns_nil : MNs X [] [] nsNil := pgs_nil.weak fun v σ H Q ⟨ξ, ι, ρ, S, ds, ρ', st, re, r, e, k⟩ => by
  cases ds with
  | nil =>
    cases e
    exact ⟨r, k σ re rfl fun _ _ => rfl⟩
  | cons _ _ => cases e
theorem mns_cons {e : Expr} {es : List Expr} {vs ws : List Nat} {g : NDen} {gs : List D → Env → Option Env} (h1 : MN X e vs g) (h2 : MNs X es ws gs) (hs : (assignEach (e :: es) X.env).map (·.2) = assign e X.env :: (assignEach es X.env).map (·.2) := by rfl) : MNs X (e :: es) (vs ++ ws) (nsCons g gs) :=
  (pgs_cons h1 h2 hs).weak fun v σ H Q ⟨ξ, ι, ρ, S, ds, ρ', st, re, r, e, k⟩ => by
    cases ds with
    | nil => cases e
    | cons d t =>
      have e : (g d ρ).bind (fun p => gs t p) = some ρ' := e
      cases q : g d ρ with
      | none => rw [q] at e; cases e
      | some p =>
        rw [q] at e
        obtain ⟨v1, r1, rfl, hv, hr⟩ := r
        refine ⟨v1, r1, rfl, ξ, ι, ρ, S, d, p, st, re, hv, q, fun σ1 re1 l1 o1 => ⟨ξ, ι, p, S, t, ρ', st, re1, hr, e, fun σ2 re2 l2 o2 => k σ2 re2 (l2.trans l1) fun i hi => ?_⟩⟩
        rw [List.mem_append, not_or] at hi
        rw [o2 i hi.2, o1 i hi.1]
theorem mn_tup {es : List Expr} {k : Nat} {vs : List Nat} {gs : List D → Env → Option Env} {n : Nat} (hc : X.calm = true) (h : MNs X es vs gs) (hn : (assignEach es X.env).length = n := by rfl) (hst : (assignEach es X.env).findIdx? (·.1) = none := by rfl) : MN X (.Tuple es k pos) vs (nT n gs) :=
  (pg_tup hc h hn hst).weak fun v σ H Q ⟨ξ, ι, ρ, S, d, ρ', st, re, r, e, k⟩ => by
    cases d with
    | tup ds =>
      have e : (if ds.length = n then gs ds ρ else none) = some ρ' := e
      split at e
      · rename_i hl
        obtain ⟨a, us, rfl, h2, h3⟩ := r
        exact ⟨a, us, rfl, h2.sq, by rw [h3.length]; exact hl, ξ, ι, ρ, S, ds, ρ', st, re, h3, e, k⟩
      · cases e
    | _ => cases e
theorem mg_of {e : Expr} {vs : List Nat} {g : NDen} (h : MN X e vs g) : MG X e (gOf g) := h.weak fun v σ H Q ⟨ξ, ι, ρ, S, d, ρ', S', st, re, r, e, k⟩ => by
  unfold gOf at e
  cases q : g d ρ with
  | none => rw [q] at e; cases e
  | some p =>
    rw [q] at e
    cases e
    exact ⟨ξ, ι, ρ, _, d, _, st, re, r, q, fun σ' re' _ _ => k σ' H ι Step.refl st re'⟩
end

/-! ### comprehensions -/
/-- the items of [e for g in s if t]: what is made so far, one behind another -/
def lcL (s : Src) (g : NDen) (t : TDen) (b : EDen) : List D → Env → Sto → Option (List D × Sto)
  | [] => fun _ S => if s.ok S then some ([], S) else none
  | d :: ds => fun ρ S => if s.ok S then (match g d ρ with
    | some ρ1 => bnd (t ρ1 S) (fun c S2 => if c = true then (bnd (b ρ1 S2) fun y S3 => bnd (lcL s g t b ds ρ S3) fun ys S4 => some (y :: ys, S4)) else lcL s g t b ds ρ S2)
    | none => none) else none
def wipeE (ρ : Env) : List Nat → Env
  | [] => ρ
  | v :: vs => (wipeE ρ vs).set v none
def tYesD : TDen := fun _ S => some (true, S)
def dLc (fi : IDen) (g : NDen) (t : TDen) (b : EDen) (vs : List Nat) : EDen := fun ρ S => bnd (fi ρ S) fun s S => bnd (lcL s g t b s.items (wipeE ρ vs) S) fun ys S => if szOk ys then some (.fl ys, S) else none
def dLcC (fi : IDen) (g : NDen) (t : TDen) (b : EDen) (vs : List Nat) : EDen := fun ρ S => bnd (fi ρ S) fun s S => bnd (lcL s g t b s.items (wipeE ρ vs) S) fun ys S => if szOk ys then (if D.fitL S.length ys then some (.ref S.length, S ++ [.lst ys]) else none) else none
theorem wipeE_ok {K : Frag} {H : Hp} {ξ ι : List Addr} {ρ : Env} {σ : L2.St} (re : RepE K H ξ ι ρ σ) : ∀ vs : List Nat, RepE K H ξ ι (wipeE ρ vs) (wipe σ vs)
  | [] => re
  | v :: vs => by
    have ih := wipeE_ok re vs
    refine ⟨by show ((wipeE ρ vs).set v none).length = ((wipe σ vs).set v none).length; rw [List.length_set, List.length_set]; exact ih.len, fun i d e => ?_⟩
    have e : ((wipeE ρ vs).set v none)[i]? = some (some d) := e
    show ∃ x, ((wipe σ vs).set v none)[i]? = some (some x) ∧ _
    by_cases h : i = v
    · subst h
      rw [List.getElem?_set] at e
      simp only [if_true] at e
      split at e <;> cases e
    · rw [List.getElem?_set_ne (Ne.symm h)] at e ⊢
      exact ih.at_ i d e
theorem wipe_get (σ : L2.St) : ∀ (vs : List Nat) (i : Nat), (wipe σ vs)[i]? = if i ∈ vs then (if i < σ.length then some none else none) else σ[i]?
  | [], i => by simp [wipe]
  | v :: vs, i => by
    show ((wipe σ vs).set v none)[i]? = _
    have ih := wipe_get σ vs i
    rw [List.getElem?_set, wipe_length]
    by_cases h : v = i
    · subst h
      simp
    · rw [if_neg h, ih]
      by_cases h2 : i ∈ vs
      · rw [if_pos h2, if_pos (List.mem_cons_of_mem _ h2)]
      · rw [if_neg h2, if_neg (fun z => (List.mem_cons.mp z).elim (fun z => h z.symm) h2)]
theorem wipe_same {σ σ2 : L2.St} {vs ws : List Nat} (hw : ∀ i ∈ ws, i ∈ vs) (hl : σ2.length = (wipe σ vs).length) (ho : ∀ i : Nat, i ∉ ws → σ2[i]? = (wipe σ vs)[i]?) : wipe σ2 vs = wipe σ vs := by
  apply List.ext_getElem?
  intro i
  rw [wipe_get, wipe_get]
  rw [wipe_length] at hl
  by_cases h : i ∈ vs
  · rw [if_pos h, if_pos h, hl]
  · rw [if_neg h, if_neg h, ho i (fun z => h (hw i z)), wipe_get, if_neg h]
section
variable {K : Frag} {H : Hp} {ξ ι : List Addr} {S : Sto} {p : Addr}
theorem Mv.off {n : Nat} : Mv H (p :: ξ) ι n H ξ ι := ⟨fun a o h h1 h2 => ⟨h, fun z => h1 (List.mem_cons_of_mem _ z), h2⟩, fun _ _ _ e => e⟩
theorem StoOk.off (st : StoOk K H (p :: ξ) ι S) : StoOk K H ξ ι S := by
  refine ⟨st.len, st.nd, fun a ha z => st.apart a ha (List.mem_cons_of_mem _ z), fun a ha => st.live a (List.mem_cons_of_mem _ ha), fun n c e => ?_, st.asc⟩
  obtain ⟨a, h1, h2⟩ := st.cell n c e
  exact ⟨a, h1, h2.mono (fun _ _ r => RepL.mv Mv.off r.fit r) fun _ q => q⟩
/-- a list that was made beside becomes a mutable thing -/
theorem StoOk.adopt {ds : List D} {vs : List V} (st : StoOk K H (p :: ξ) ι S) (hp : H p = some (.lst vs)) (pn : p ∉ ξ) (r : RepL K H (p :: ξ) ι ds vs) (hf : D.fitL S.length ds = true) : StoOk K H ξ (ι ++ [p]) (S ++ [.lst ds]) := by
  have pi : p ∉ ι := fun z => st.apart p z List.mem_cons_self
  have m : ∀ n, n ≤ ι.length → Mv H (p :: ξ) ι n H ξ (ι ++ [p]) := fun n hn => ⟨fun a o h h1 h2 => ⟨h, fun z => h1 (List.mem_cons_of_mem _ z), fun z => by
    rcases List.mem_append.mp z with z | z
    · exact h2 z
    · exact h1 (by rw [List.mem_singleton.mp z]; exact List.mem_cons_self)⟩, fun i a hi e => by rw [List.getElem?_append_left (by omega)]; exact e⟩
  refine ⟨by simp [st.len], ?_, fun a ha z => ?_, fun a ha => st.live a (List.mem_cons_of_mem _ ha), fun n c e => ?_, fun n c e => ?_⟩
  · rw [List.nodup_append]
    exact ⟨st.nd, by simp, fun a ha b hb => by rw [List.mem_singleton.mp hb]; exact fun z => pi (z ▸ ha)⟩
  · rcases List.mem_append.mp ha with ha | ha
    · exact st.apart a ha (List.mem_cons_of_mem _ z)
    · rw [List.mem_singleton.mp ha] at z
      exact pn z
  · by_cases hn : n < S.length
    · rw [List.getElem?_append_left hn] at e
      obtain ⟨a, h1, h2⟩ := st.cell n c e
      exact ⟨a, by rw [List.getElem?_append_left (by rw [st.len]; exact hn)]; exact h1, h2.mono (fun _ _ r => RepL.mv (m _ (Nat.le_refl _)) r.fit r) fun _ q => q⟩
    · rw [List.getElem?_append_right (by omega)] at e
      have hz : n - S.length = 0 := by
        rcases Nat.eq_zero_or_pos (n - S.length) with z | z
        · exact z
        · rw [List.getElem?_eq_none (by simp; omega)] at e; cases e
      rw [hz] at e
      cases e
      exact ⟨p, by rw [List.getElem?_append_right (by rw [st.len]; omega), st.len, hz]; rfl, vs, hp, RepL.mv (m _ (Nat.le_refl _)) r.fit r⟩
  · by_cases hn : n < S.length
    · rw [List.getElem?_append_left hn] at e
      exact st.asc n c e
    · rw [List.getElem?_append_right (by omega)] at e
      have hz : n - S.length = 0 := by
        rcases Nat.eq_zero_or_pos (n - S.length) with z | z
        · exact z
        · rw [List.getElem?_eq_none (by simp; omega)] at e; cases e
      rw [hz] at e
      cases e
      rw [show n = S.length by omega]
      exact hf
end
/-- the made list's elements: what a turn does to it -/
theorem lc_reads {K : Frag} {fi : IDen} {g : NDen} {t : TDen} {b : EDen} {vs ws : List Nat} (hw : ∀ i ∈ ws, i ∈ vs) {σ : L2.St} {H : Hp} {ξ ι : List Addr} {ρ : Env} {S S2 : Sto} {s : Src} {ys : List D} {S1 : Sto} {Q : VK}
    (st : StoOk K H ξ ι S) (re : RepE K H ξ ι ρ σ) (e1 : fi ρ S = some (s, S1)) (e2 : lcL s g t b s.items (wipeE ρ vs) S1 = some (ys, S2)) (hz : ys.length ≤ sizeLine)
    (k : ∀ p us H' ι', H p = none → Step H ι H' ι' → StoOk K H' (p :: ξ) ι' S2 → p ∉ ξ → H' p = some (.lst us) → RepL K H' (p :: ξ) ι' ys us → Q (.ref p) H') : tLc (tI K fi) (tGn K ws g) (tB K t) (tE K b) vs σ H Q := by
  refine ⟨ξ, ι, ρ, S, s, S1, st, re, e1, fun J H1 ι1 s1 st1 so q0 hD => ?_⟩
  have fD := st1.fresh hD
  have nq : H q0 = none := by
    cases z : H q0 with
    | none => rfl
    | some o =>
      by_cases hi : q0 ∈ ι
      · obtain ⟨m, rfl⟩ := s1.more
        exact absurd (List.mem_append.mpr (.inl hi)) fD.2
      · rw [(s1.keep q0 o z hi).1] at hD
        cases hD
  have live1 : ∀ {H2 : Hp} {us : List V}, H2 q0 = some (.lst us) → (∀ a ∈ ξ, H2 a ≠ none) → ∀ a ∈ q0 :: ξ, H2 a ≠ none := fun {H2 us} h1 h2 a ha => by
    rcases List.mem_cons.mp ha with rfl | ha
    · rw [h1]; exact fun z => nomatch z
    · exact h2 a ha
  have ok1 : ∀ a ∈ q0 :: ξ, a ∈ ξ ∨ H1 a = none := fun a ha => by
    rcases List.mem_cons.mp ha with rfl | ha
    · exact .inr hD
    · exact .inl ha
  -- from the heap ahead of the list to one within
  have mvD : ∀ {H2 : Hp} {ι2 : List Addr}, Step H1 ι1 H2 ι2 → Mv H1 ξ ι1 ι1.length H2 (q0 :: ξ) ι2 := fun {H2 ι2} z => ⟨fun a o h h1 h2 => ⟨(z.keep a o h h2).1, fun q => (List.mem_cons.mp q).elim (fun q => by rw [q, hD] at h; cases h) h1, (z.keep a o h h2).2⟩, z.mv (ξ := ξ).own⟩
  refine ⟨fun i m H2 => m = s.items.length - i ∧ i ≤ s.items.length ∧ ∃ ι2 S3 zs us made, Step H1 ι1 H2 ι2 ∧ StoOk K H2 (q0 :: ξ) ι2 S3 ∧ H2 q0 = some (.lst us) ∧ RepL K H2 (q0 :: ξ) ι2 made us ∧ lcL s g t b (s.items.drop i) (wipeE ρ vs) S3 = some (zs, S2) ∧ ys = made ++ zs, ?_, ?_⟩
  · refine ⟨_, rfl, Nat.zero_le _, ι1, S1, ys, [], [], Step.upd hD, ?_, upd_same, rfl, e2, rfl⟩
    have stU := st1.upd (o := .lst []) hD
    refine ⟨stU.len, stU.nd, fun a ha z => ?_, live1 upd_same stU.live, fun n c e => ?_, stU.asc⟩
    · rcases List.mem_cons.mp z with z | z
      · exact fD.2 (z ▸ ha)
      · exact stU.apart a ha z
    · obtain ⟨a, h1, h2⟩ := st1.cell n c e
      exact ⟨a, h1, h2.mono (fun _ _ r => RepL.mv (mvD (Step.upd hD)) r.fit r) (keep_upd hD a)⟩
  · rintro i m H2 ⟨rfl, hi, ι2, S3, zs, us, made, s2, st2, hu, ru, e3, hy⟩
    by_cases hlt : i < s.items.length
    · rw [List.drop_eq_getElem_cons hlt] at e3
      have e3 : (if s.ok S3 then (match g s.items[i] (wipeE ρ vs) with
        | some ρ1 => bnd (t ρ1 S3) (fun c S2 => if c = true then (bnd (b ρ1 S2) fun y S3 => bnd (lcL s g t b (s.items.drop (i + 1)) (wipeE ρ vs) S3) fun ys S4 => some (y :: ys, S4)) else lcL s g t b (s.items.drop (i + 1)) (wipeE ρ vs) S2)
        | none => none) else none) = some (zs, S2) := e3
      split at e3
      · rename_i hok
        refine .inr ⟨so.go (q0 :: ξ) H2 ι2 S3 i s2 ok1 st2 hok hlt, fun H' => ∃ m', m' < s.items.length - i ∧ (m' = s.items.length - (i + 1) ∧ i + 1 ≤ s.items.length ∧ ∃ ι2 S3 zs us made, Step H1 ι1 H' ι2 ∧ StoOk K H' (q0 :: ξ) ι2 S3 ∧ H' q0 = some (.lst us) ∧ RepL K H' (q0 :: ξ) ι2 made us ∧ lcL s g t b (s.items.drop (i + 1)) (wipeE ρ vs) S3 = some (zs, S2) ∧ ys = made ++ zs),
          fun H' h => h, fun x H3 hyl => ?_⟩
        obtain ⟨kp, rx⟩ := so.yld (q0 :: ξ) H2 ι2 S3 i x H3 _ s2 ok1 st2 hok (List.getElem?_eq_getElem hlt) hyl
        have s3 : Step H2 ι2 H3 ι2 := ⟨⟨[], (List.append_nil _).symm⟩, fun a o h n => ⟨kp a o h, n⟩, fun a o u h => kp a _ h⟩
        have st3 := st2.beside kp
        have re3 : RepE K H3 (q0 :: ξ) ι2 (wipeE ρ vs) (wipe σ vs) := by
          have r0 := wipeE_ok (s1.env re) vs
          exact ⟨r0.len, fun i d e => by
            obtain ⟨v, h1, h2⟩ := r0.at_ i d e
            exact ⟨v, h1, RepV.mv (mvD (s2.trans s3)) h2.fit h2⟩⟩
        cases q : g s.items[i] (wipeE ρ vs) with
        | none => rw [q] at e3; cases e3
        | some ρ1 =>
          rw [q] at e3
          obtain ⟨c, S4, e4, e3⟩ := bnd_some e3
          refine ⟨q0 :: ξ, ι2, wipeE ρ vs, S3, _, ρ1, st3, re3, rx, q, fun σ4 re4 l4 o4 => ⟨wipe_same hw l4 o4, tB.run st3 re4 e4 fun H5 ι5 s5 st5 => ?_⟩⟩
          have hu5 : H5 q0 = some (.lst us) := (s5.keep q0 _ (kp q0 _ hu) (fun z => st2.apart q0 z List.mem_cons_self)).1
          cases c with
          | true =>
            refine iteT ?_
            obtain ⟨y, S6, e6, e3⟩ := bnd_some e3
            obtain ⟨zs', S7, e7, e3⟩ := bnd_some e3
            cases e3
            refine tE.run st5 (s5.env re4) e6 fun yv H6 ι6 s6 st6 ry => ?_
            have hu6 : H6 q0 = some (.lst us) := (s6.keep q0 _ hu5 (fun z => st5.apart q0 z List.mem_cons_self)).1
            have ru6 : RepL K H6 (q0 :: ξ) ι6 made us := s6.vals (s5.vals (s3.vals ru))
            refine ⟨us, hu6, ?_, _, by omega, rfl, hlt, ι6, S6, zs', us ++ [yv], made ++ [y], ?_, ?_, upd_same, ?_, e7, ?_⟩
            · rw [hy, List.length_append, List.length_cons] at hz
              rw [ru.length]
              omega
            · have z := s2.trans (s3.trans (s5.trans s6))
              exact ⟨z.more, fun a o h n => ⟨by rw [upd_ne (ne_of_none h hD)]; exact (z.keep a o h n).1, (z.keep a o h n).2⟩, fun a o u h => by rw [upd_ne (ne_of_none h hD)]; exact z.frz a o u h⟩
            · have m : ∀ n, Mv H6 (q0 :: ξ) ι6 n (upd H6 q0 (.lst (us ++ [yv]))) (q0 :: ξ) ι6 := fun n => ⟨fun a o h h1 h2 => ⟨by rw [upd_ne (fun z => h1 (by rw [z]; exact List.mem_cons_self))]; exact h, h1, h2⟩, fun _ _ _ e => e⟩
              refine ⟨st6.len, st6.nd, st6.apart, live1 upd_same fun a ha => ?_, fun n c e => ?_, st6.asc⟩
              · rw [upd_ne (show a ≠ q0 from fun w => fD.1 (by rw [← w]; exact ha))]
                exact st6.live a (List.mem_cons_of_mem _ ha)
              · obtain ⟨a, h1, h2⟩ := st6.cell n c e
                exact ⟨a, h1, h2.mono (fun _ _ r => RepL.mv (m _) r.fit r) fun o q => by rw [upd_ne (fun z => st6.apart a (List.mem_of_getElem? h1) (by rw [z]; exact List.mem_cons_self))]; exact q⟩
            · have m : ∀ n, Mv H6 (q0 :: ξ) ι6 n (upd H6 q0 (.lst (us ++ [yv]))) (q0 :: ξ) ι6 := fun n => ⟨fun a o h h1 h2 => ⟨by rw [upd_ne (fun z => h1 (by rw [z]; exact List.mem_cons_self))]; exact h, h1, h2⟩, fun _ _ _ e => e⟩
              exact RepL.mv (m _) (ru6.append (.one ry)).fit (ru6.append (.one ry))
            · rw [hy, List.append_assoc]
              rfl
          | false =>
            refine iteF ⟨_, by omega, rfl, hlt, ι5, S4, zs, us, made, s2.trans (s3.trans s5), st5, hu5, s5.vals (s3.vals ru), ?_, hy⟩
            exact e3
      · cases e3
    · have hl : i = s.items.length := by omega
      subst hl
      rw [List.drop_length] at e3
      have e3 : (if s.ok S3 then some (([] : List D), S3) else none) = some (zs, S2) := e3
      split at e3
      · rename_i hok
        cases e3
        rw [List.append_nil] at hy
        subst hy
        exact .inl ⟨so.stop (q0 :: ξ) H2 ι2 _ s2 ok1 st2 hok, k q0 us H2 ι2 nq (s1.trans s2) st2 fD.1 hu ru⟩
      · cases e3
section
variable {X : Cx} {elt tg iter : Expr} {ifs : List Expr} {scope : Scope} {own : List (Str × Nat)} {pos : Pos} {fi : IDen} {g : NDen} {t : TDen} {b : EDen} {ws : List Nat}
abbrev MTs (X : Cx) (ifs : List Expr) (f : TDen) : Prop := PTs X ifs (tB X.K f)
theorem mts_nil : MTs X [] tYesD := ⟨fun pins s σ H Q I ⟨ξ, ι, ρ, S, b, S', st, re, e, k⟩ => pts_nil.run pins s σ H Q I (by cases e; exact k H ι Step.refl st)⟩
theorem mts_one {c : Expr} {f : TDen} (h : MT X c f) : MTs X [c] f := pts_one h
theorem lc_fl {vs : List Nat} (hw : ∀ i ∈ ws, i ∈ vs) {σ : L2.St} {H : Hp} {Q : VK} (h : tE X.K (dLc fi g t b vs) σ H Q) : tLc (tI X.K fi) (tGn X.K ws g) (tB X.K t) (tE X.K b) vs σ H Q := by
  obtain ⟨ξ, ι, ρ, S, d, S', st, re, e, k⟩ := h
  obtain ⟨s, S1, e1, e⟩ := bnd_some e
  obtain ⟨ys, S2, e2, e⟩ := bnd_some e
  split at e
  · rename_i hz
    cases e
    refine lc_reads hw st re e1 e2 (of_decide_eq_true hz) fun p us H' ι' np s' st' pn hp r => ?_
    exact k _ H' ι' s' st'.off ⟨p, us, rfl, ⟨hp, pn, fun z => st'.apart p z List.mem_cons_self⟩, RepL.mv Mv.off r.fit r⟩
  · cases e
theorem lc_cell {vs : List Nat} (hw : ∀ i ∈ ws, i ∈ vs) {σ : L2.St} {H : Hp} {Q : VK} (h : tE X.K (dLcC fi g t b vs) σ H Q) : tLc (tI X.K fi) (tGn X.K ws g) (tB X.K t) (tE X.K b) vs σ H Q := by
  obtain ⟨ξ, ι, ρ, S, d, S', st, re, e, k⟩ := h
  obtain ⟨s, S1, e1, e⟩ := bnd_some e
  obtain ⟨ys, S2, e2, e⟩ := bnd_some e
  split at e
  · rename_i hz
    split at e
    · rename_i hf
      cases e
      refine lc_reads hw st re e1 e2 (of_decide_eq_true hz) fun p us H' ι' np s' st' pn hp r => ?_
      refine k _ H' (ι' ++ [p]) ?_ (st'.adopt hp pn r hf) ⟨p, rfl, by rw [← st'.len, List.getElem?_append_right (Nat.le_refl _), Nat.sub_self]; rfl⟩
      obtain ⟨m, rfl⟩ := s'.more
      refine ⟨⟨m ++ [p], by rw [List.append_assoc]⟩, fun a o h n => ⟨(s'.keep a o h n).1, fun z => ?_⟩, s'.frz⟩
      rcases List.mem_append.mp z with z | z
      · exact (s'.keep a o h n).2 z
      · rw [List.mem_singleton.mp z, np] at h
        cases h
    · cases e
  · cases e
end
end MS

namespace MS
open PySem PySem.Spec PyProof.Rows L2

/-! ### sources -/
section
variable {X : Cx} {pos : Pos} {tg : Expr}
theorem _root_.L2.PI.or {tg iter : Expr} {t t' : TI} (h : PI X tg iter t) (h' : PI X tg iter t') : PI X tg iter (fun σ H R => t σ H R ∨ t' σ H R) := ⟨fun pins s σ H R I q => q.elim (h.run pins s σ H R I) (h'.run pins s σ H R I)⟩
theorem _root_.L2.PE.or {e : Expr} {t t' : TE} (h : PE X e t) (h' : PE X e t') : PE X e (fun σ H Q => t σ H Q ∨ t' σ H Q) := ⟨fun pins s σ H Q I q => q.elim (h.run pins s σ H Q I) (h'.run pins s σ H Q I)⟩
theorem Mv.to {H H' : Hp} {ξ ξ' ι ι' : List Addr} (s : Step H ι H' ι') (h : ∀ a ∈ ξ', a ∈ ξ ∨ H a = none) : Mv H ξ ι ι.length H' ξ' ι' := ⟨fun a o q h1 h2 => ⟨(s.keep a o q h2).1, fun z => (h a z).elim h1 (fun e => (by rw [e] at q; cases q)), (s.keep a o q h2).2⟩, s.mv (ξ := ξ).own⟩
def iSeq (fe : EDen) : IDen := fun ρ S => bnd (fe ρ S) fun d S => match d with
  | .tup ds => some (.fix ds, S)
  | .fl ds => some (.fix ds, S)
  | .rl ds => some (.fix ds, S)
  | .ref n => match S[n]? with
    | some (.lst ds) => some (.cell n ds, S)
    | _ => none
  | _ => none
theorem srcTup {K : Frag} {H : Hp} {ξ ι : List Addr} {ds : List D} {a : Addr} (r : RepV K H ξ ι (.tup ds) (.ref a)) : SrcOk K ξ ι H (.fix ds) (Itt K a) := by
  have to : ∀ {ξ' H' ι'}, Step H ι H' ι' → (∀ a ∈ ξ', a ∈ ξ ∨ H a = none) → ∃ vs, SqT K H' a vs ∧ RepL K H' ξ' ι' ds vs := fun {ξ' H' ι'} z h => by
    obtain ⟨b, vs, e, h1, h2⟩ := RepV.mv (Mv.to z h) r.fit r
    cases e
    exact ⟨vs, h1.sq, h2⟩
  refine ⟨fun ξ' H' ι' S i z h _ _ hi => ?_, fun ξ' H' ι' S z h _ _ => ?_, fun ξ' H' ι' S i x H3 d z h st _ e y => ?_⟩
  · obtain ⟨vs, q, r'⟩ := to z h
    have hl : i < vs.length := by rw [r'.length]; exact hi
    exact ⟨vs, vs[i], q, List.getElem?_eq_getElem hl⟩
  · obtain ⟨vs, q, r'⟩ := to z h
    exact ⟨vs, q, Nat.le_of_eq r'.length⟩
  · obtain ⟨vs, q, r'⟩ := to z h
    obtain ⟨rfl, hy⟩ := y
    obtain ⟨v, h1, h2⟩ := r'.get e
    have : v = x := Option.some.inj (h1.symm.trans (hy vs q))
    subst this
    exact ⟨fun _ _ o => o, h2⟩
theorem srcList {K : Frag} {H : Hp} {ξ ι : List Addr} {ds : List D} {a : Addr} (to : ∀ {ξ' H' ι'}, Step H ι H' ι' → (∀ a ∈ ξ', a ∈ ξ ∨ H a = none) → ∃ vs, SqL K H' a vs ∧ RepL K H' ξ' ι' ds vs) : SrcOk K ξ ι H (.fix ds) (Itl K a) := by
  refine ⟨fun ξ' H' ι' S i z h _ _ hi => ?_, fun ξ' H' ι' S z h _ _ => ?_, fun ξ' H' ι' S i x H3 d z h st _ e y => ?_⟩
  · obtain ⟨vs, q, r'⟩ := to z h
    have hl : i < vs.length := by rw [r'.length]; exact hi
    exact ⟨vs, vs[i], q, List.getElem?_eq_getElem hl⟩
  · obtain ⟨vs, q, r'⟩ := to z h
    exact ⟨vs, q, Nat.le_of_eq r'.length⟩
  · obtain ⟨vs, q, r'⟩ := to z h
    obtain ⟨rfl, hy⟩ := y
    obtain ⟨v, h1, h2⟩ := r'.get e
    have : v = x := Option.some.inj (h1.symm.trans (hy vs q))
    subst this
    exact ⟨fun _ _ o => o, h2⟩
theorem srcCell {K : Frag} {H : Hp} {ξ ι : List Addr} {n : Nat} {ds : List D} {a : Addr} (hn : ι[n]? = some a) : SrcOk K ξ ι H (.cell n ds) (Itl K a) := by
  have to : ∀ {ξ' H' ι' S}, Step H ι H' ι' → StoOk K H' ξ' ι' S → Src.ok (.cell n ds) S = true → ∃ vs, SqL K H' a vs ∧ RepL K H' ξ' ι' ds vs := fun {ξ' H' ι' S} z st h => by
    unfold Src.ok cellIs at h
    simp only at h
    split at h
    · rename_i es q
      rw [D.sameL_eq h] at q
      obtain ⟨b, h1, vs, h2, h3⟩ := st.cell n _ q
      obtain ⟨m, rfl⟩ := z.more
      rw [List.getElem?_append_left (List.getElem?_eq_some_iff.mp hn).1, hn] at h1
      cases h1
      exact ⟨vs, .inl (.inl h2), h3⟩
    · cases h
  refine ⟨fun ξ' H' ι' S i z h st ok hi => ?_, fun ξ' H' ι' S z h st ok => ?_, fun ξ' H' ι' S i x H3 d z h st ok e y => ?_⟩
  · obtain ⟨vs, q, r'⟩ := to z st ok
    have hl : i < vs.length := by rw [r'.length]; exact hi
    exact ⟨vs, vs[i], q, List.getElem?_eq_getElem hl⟩
  · obtain ⟨vs, q, r'⟩ := to z st ok
    exact ⟨vs, q, Nat.le_of_eq r'.length⟩
  · obtain ⟨vs, q, r'⟩ := to z st ok
    obtain ⟨rfl, hy⟩ := y
    obtain ⟨v, h1, h2⟩ := r'.get e
    have : v = x := Option.some.inj (h1.symm.trans (hy vs q))
    subst this
    exact ⟨fun _ _ o => o, h2⟩
theorem mi_seq {e : Expr} {fe : EDen} (he : ME X e fe) : MI X tg e (iSeq fe) := ((pi_list he).or (pi_tup he)).weak fun σ H R ⟨ξ, ι, ρ, S, s, S', st, re, e, k⟩ => by
  obtain ⟨d, S1, e1, e⟩ := bnd_some e
  cases d with
  | tup ds =>
    cases e
    refine .inr (tE.run st re e1 fun v H1 ι1 s1 st1 r1 => ?_)
    have r1' := r1
    obtain ⟨a, vs, rfl, h2, h3⟩ := r1
    exact ⟨a, rfl, ⟨vs, h2.sq⟩, k _ H1 ι1 s1 st1 (srcTup r1')⟩
  | fl ds =>
    cases e
    refine .inl (tE.run st re e1 fun v H1 ι1 s1 st1 r1 => ?_)
    have r1' := r1
    obtain ⟨a, vs, rfl, h2, h3⟩ := r1
    refine ⟨a, rfl, ⟨vs, h2.sq⟩, k _ H1 ι1 s1 st1 (srcList fun z h => ?_)⟩
    obtain ⟨b, us, e, q1, q2⟩ := RepV.mv (Mv.to z h) r1'.fit r1'
    cases e
    exact ⟨us, q1.sq, q2⟩
  | rl ds =>
    cases e
    refine .inl (tE.run st re e1 fun v H1 ι1 s1 st1 r1 => ?_)
    have r1' := r1
    obtain ⟨a, vs, rfl, h2, h3⟩ := r1
    refine ⟨a, rfl, ⟨vs, h2.sq⟩, k _ H1 ι1 s1 st1 (srcList fun z h => ?_)⟩
    obtain ⟨b, us, e, q1, q2⟩ := RepV.mv (Mv.to z h) r1'.fit r1'
    cases e
    exact ⟨us, q1.sq, q2⟩
  | ref n =>
    simp only at e
    split at e
    · rename_i ds q
      cases e
      refine .inl (tE.run st re e1 fun v H1 ι1 s1 st1 r1 => ?_)
      obtain ⟨a, rfl, h⟩ := r1
      obtain ⟨b, h3, vs, h4, h5⟩ := st1.cell n _ q
      obtain rfl : b = a := Option.some.inj (h3.symm.trans h)
      exact ⟨b, rfl, ⟨vs, .inl (.inl h4)⟩, k _ H1 ι1 s1 st1 (srcCell h)⟩
    · cases e
  | _ => cases e
/-- texts, sign by sign -/
def signs (z : Str) : List D := z.cps.toList.map fun c => .str ⟨#[c]⟩
def iStrD (fe : EDen) : IDen := fun ρ S => bnd (fe ρ S) fun d S => match d with
  | .str z => some (.fix (signs z), S)
  | _ => none
theorem mi_str {e : Expr} {fe : EDen} (he : ME X e fe) : MI X tg e (iStrD fe) := (pi_str he).weak fun σ H R ⟨ξ, ι, ρ, S, s, S', st, re, e, k⟩ => by
  obtain ⟨d, S1, e1, e⟩ := bnd_some e
  cases d with
  | str z =>
    cases e
    refine tE.run st re e1 fun v H1 ι1 s1 st1 r1 => ⟨z, r1, k _ H1 ι1 s1 st1 ⟨fun _ _ _ _ i _ _ _ _ hi => ?_, fun _ _ _ _ _ _ _ _ => ?_, fun _ H' _ _ i x H3 d _ _ _ _ e y => ?_⟩⟩
    · show i < z.cps.size
      simpa [Src.items, signs] using hi
    · show z.cps.size ≤ _
      simp [Src.items, signs]
    · obtain ⟨rfl, c, h1, rfl⟩ := y
      refine ⟨fun _ _ o => o, ?_⟩
      have e' : (signs z)[i]? = some d := e
      unfold signs at e'
      rw [List.getElem?_map, Array.getElem?_toList, h1] at e'
      cases e'
      rfl
  | _ => cases e
/-- ranges -/
def upto (lo : Int) (n : Nat) : List D := (List.range n).map fun (i : Nat) => .int (lo + i)
theorem upto_length (lo : Int) (n : Nat) : (upto lo n).length = n := by simp [upto]
theorem upto_get {lo : Int} {n i : Nat} (h : i < n) : (upto lo n)[i]? = some (.int (lo + i)) := by simp [upto, h]
theorem srcRange {K : Frag} {H : Hp} {ξ ι : List Addr} {lo : Int} {n : Nat} : SrcOk K ξ ι H (.fix (upto lo n)) (Itr lo n) := by
  refine ⟨fun _ _ _ _ i _ _ _ _ hi => ?_, fun _ _ _ _ _ _ _ _ => ?_, fun _ H' _ _ i x H3 d _ _ _ _ e y => ?_⟩
  · show i < n
    simpa [Src.items, upto_length] using hi
  · show n ≤ _
    simp [Src.items, upto_length]
  · obtain ⟨rfl, rfl⟩ := y
    have e : (upto lo n)[i]? = some d := e
    have hi : i < n := by
      rw [← upto_length lo n]
      exact (List.getElem?_eq_some_iff.mp e).1
    rw [upto_get hi] at e
    cases e
    exact ⟨fun _ _ o => o, rfl⟩
def iRange1 (fa : ADen) : IDen := fun ρ S => bnd (fa ρ S) fun ds S => match ds with
  | [.int j] => if -(2 ^ 62) ≤ j ∧ j < 2 ^ 62 then some (.fix (upto 0 j.toNat), S) else none
  | _ => none
def iRange2 (fa : ADen) : IDen := fun ρ S => bnd (fa ρ S) fun ds S => match ds with
  | [.int i, .int j] => if -(2 ^ 62) ≤ i ∧ i < 2 ^ 62 ∧ -(2 ^ 62) ≤ j ∧ j < 2 ^ 62 then some (.fix (upto i (j - i).toNat), S) else none
  | _ => none
theorem mi_range1 {a : Expr} {fa : ADen} {p : Pos} (hg : Gl X "range") (hm : X.mg "range" = none) (ha : MA X [a] fa) (hs : starEach [a] X.env = [(false, eval a X.env)] := by rfl) : MI X tg (.Call (.Name "range" p) [a] [] pos) (iRange1 fa) :=
  (pi_range1 hg hm ha hs).weak fun σ H R ⟨ξ, ι, ρ, S, s, S', st, re, e, k⟩ => by
    obtain ⟨ds, S1, e1, e⟩ := bnd_some e
    refine tA.run st re e1 fun vs H1 ι1 s1 st1 r1 => ?_
    match ds, e, r1 with
    | [.int j], e, r1 =>
      simp only at e
      split at e
      · rename_i h
        cases e
        obtain ⟨v, rfl, rv⟩ := RepL.one' r1
        exact ⟨j, by rw [show v = .int j from rv], h.1, h.2, k _ H1 ι1 s1 st1 srcRange⟩
      · cases e
theorem mi_range2 {a b : Expr} {fa : ADen} {p : Pos} (hg : Gl X "range") (hm : X.mg "range" = none) (ha : MA X [a, b] fa) (hs : starEach [a, b] X.env = [(false, eval a X.env), (false, eval b X.env)] := by rfl) (hs2 : starEach [b] X.env = [(false, eval b X.env)] := by rfl) :
    MI X tg (.Call (.Name "range" p) [a, b] [] pos) (iRange2 fa) := (pi_range2 hg hm ha hs hs2).weak fun σ H R ⟨ξ, ι, ρ, S, s, S', st, re, e, k⟩ => by
  obtain ⟨ds, S1, e1, e⟩ := bnd_some e
  refine tA.run st re e1 fun vs H1 ι1 s1 st1 r1 => ?_
  match ds, e, r1 with
  | [.int i, .int j], e, r1 =>
    simp only at e
    split at e
    · rename_i h
      cases e
      obtain ⟨v, w, rfl, rv, rw'⟩ := RepL.two' r1
      exact ⟨i, j, by rw [show v = .int i from rv, show w = .int j from rw'], h, k _ H1 ι1 s1 st1 srcRange⟩
    · cases e
end

/-! ### dicts -/
def dlook (kvs : List (Key × D)) (k : Key) : Option D := (kvs.find? fun kv => decide (kv.1 = k)).map (·.2)
def dput (kvs : List (Key × D)) (k : Key) (d : D) : List (Key × D) := if (kvs.any fun kv => decide (kv.1 = k)) = true then kvs.map (fun kv => if kv.1 = k then (kv.1, d) else kv) else kvs ++ [(k, d)]
def keyOf : D → Option Key
  | .int i => some (.inl i)
  | .str x => some (.inr x)
  | _ => none
section
variable {K : Frag} {H : Hp} {ξ ι : List Addr}
theorem keyOf_rep {d : D} {v : V} {k : Key} (e : keyOf d = some k) (r : RepV K H ξ ι d v) : v = kV k := by
  cases d with
  | int i => cases e; exact r
  | str x => cases e; exact r
  | _ => cases e
theorem dlook_rep {k : Key} : ∀ {kvs : List (Key × D)} {ws : List (Key × V)}, ws.map (·.1) = kvs.map (·.1) → RepL K H ξ ι (kvs.map (·.2)) (ws.map (·.2)) →
    (dlook kvs k = none → valV ws k = none) ∧ ∀ d, dlook kvs k = some d → ∃ v, valV ws k = some v ∧ RepV K H ξ ι d v
  | [], ws, e, r => by
    have : ws = [] := List.eq_nil_of_length_eq_zero (by simpa using congrArg List.length e)
    subst this
    exact ⟨fun _ => rfl, fun d h => by cases h⟩
  | (k1, d1) :: kvs, [], e, r => by cases e
  | (k1, d1) :: kvs, (k2, v2) :: ws, e, r => by
    have e' : k2 :: ws.map (·.1) = k1 :: kvs.map (·.1) := e
    obtain ⟨hk, e2⟩ := List.cons.inj e'
    subst hk
    obtain ⟨v, t, h1, h2, h3⟩ := r
    have h1' : v2 :: ws.map (·.2) = v :: t := h1
    obtain ⟨hv, ht⟩ := List.cons.inj h1'
    subst hv
    subst ht
    have ih := dlook_rep (k := k) e2 h3
    by_cases q : k2 = k
    · subst q
      have a : dlook ((k2, d1) :: kvs) k2 = some d1 := by simp [dlook]
      have b : valV ((k2, v2) :: ws) k2 = some v2 := valV_pos rfl
      rw [a, b]
      exact ⟨fun z => (by cases z), fun d z => (by cases z; exact ⟨v2, rfl, h2⟩)⟩
    · have a : dlook ((k2, d1) :: kvs) k = dlook kvs k := by simp [dlook, List.find?_cons, q]
      have b : valV ((k2, v2) :: ws) k = valV ws k := valV_neg q
      rw [a, b]
      exact ih
theorem dput_rep {k : Key} {d : D} {v : V} (rv : RepV K H ξ ι d v) {kvs : List (Key × D)} {ws : List (Key × V)} (e : ws.map (·.1) = kvs.map (·.1)) (r : RepL K H ξ ι (kvs.map (·.2)) (ws.map (·.2))) :
    (putK ws k v).map (·.1) = (dput kvs k d).map (·.1) ∧ RepL K H ξ ι ((dput kvs k d).map (·.2)) ((putK ws k v).map (·.2)) := by
  have an : ∀ {kvs : List (Key × D)} {ws : List (Key × V)}, ws.map (·.1) = kvs.map (·.1) → (ws.any fun kv => decide (kv.1 = k)) = kvs.any fun kv => decide (kv.1 = k) := fun {kvs ws} e => by
    have h : ∀ {α : Type} (l : List (Key × α)), (l.any fun kv => decide (kv.1 = k)) = (l.map (·.1)).any fun z => decide (z = k) := fun l => by rw [List.any_map]; rfl
    rw [h, h, e]
  unfold putK dput
  rw [an e]
  split
  · have go : ∀ {kvs : List (Key × D)} {ws : List (Key × V)}, ws.map (·.1) = kvs.map (·.1) → RepL K H ξ ι (kvs.map (·.2)) (ws.map (·.2)) →
        (ws.map (fun kv => if kv.1 = k then (kv.1, v) else kv)).map (·.1) = (kvs.map (fun kv => if kv.1 = k then (kv.1, d) else kv)).map (·.1) ∧ RepL K H ξ ι ((kvs.map (fun kv => if kv.1 = k then (kv.1, d) else kv)).map (·.2)) ((ws.map (fun kv => if kv.1 = k then (kv.1, v) else kv)).map (·.2)) := by
      intro kvs
      induction kvs with
      | nil =>
        intro ws e _
        have : ws = [] := List.eq_nil_of_length_eq_zero (by simpa using congrArg List.length e)
        subst this
        exact ⟨rfl, rfl⟩
      | cons p kvs ih =>
        intro ws e r
        obtain ⟨k1, d1⟩ := p
        cases ws with
        | nil => cases e
        | cons q ws =>
          obtain ⟨k2, v2⟩ := q
          have e' : k2 :: ws.map (·.1) = k1 :: kvs.map (·.1) := e
          obtain ⟨hk, e2⟩ := List.cons.inj e'
          subst hk
          obtain ⟨v', t, h1, h2, h3⟩ := r
          have h1' : v2 :: ws.map (·.2) = v' :: t := h1
          obtain ⟨hv, ht⟩ := List.cons.inj h1'
          subst hv
          subst ht
          obtain ⟨i1, i2⟩ := ih e2 h3
          by_cases q : k2 = k
          · simp only [List.map_cons, if_pos q]
            exact ⟨by rw [i1], v, _, rfl, rv, i2⟩
          · simp only [List.map_cons, if_neg q]
            exact ⟨by rw [i1], v2, _, rfl, h2, i2⟩
    exact go e r
  · simp only [List.map_append, List.map_cons, List.map_nil]
    exact ⟨by rw [e], r.append (.one rv)⟩
theorem dput_length_le (kvs : List (Key × D)) (k : Key) (d : D) : (dput kvs k d).length ≤ kvs.length + 1 := by
  unfold dput
  split
  · rw [List.length_map]; omega
  · simp
theorem dput_fit {n : Nat} {k : Key} {d : D} {kvs : List (Key × D)} (h : D.fitL n (kvs.map (·.2)) = true) (hd : D.fit n d = true) : D.fitL n ((dput kvs k d).map (·.2)) = true := by
  unfold dput
  split
  · refine D.fitL_all.mpr fun x hx => ?_
    obtain ⟨p, hp, rfl⟩ := List.mem_map.mp hx
    obtain ⟨q, hq, rfl⟩ := List.mem_map.mp hp
    split
    · exact hd
    · exact D.fitL_all.mp h _ (List.mem_map.mpr ⟨q, hq, rfl⟩)
  · refine D.fitL_all.mpr fun x hx => ?_
    rw [List.map_append] at hx
    rcases List.mem_append.mp hx with hx | hx
    · exact D.fitL_all.mp h x hx
    · rw [List.mem_singleton.mp (show x ∈ [d] from hx)]
      exact hd
end
/-- a[i], of anything that has items -/
def dctAt (S : Sto) : D → Option (List (Key × D))
  | .ref n => match S[n]? with
    | some (.dct kvs) => some kvs
    | _ => none
  | _ => none
theorem dctAt_ok {K : Frag} {H : Hp} {ξ ι : List Addr} {S : Sto} {d : D} {v : V} {kvs : List (Key × D)} (st : StoOk K H ξ ι S) (r : RepV K H ξ ι d v) (e : dctAt S d = some kvs) :
    ∃ n a ws, d = .ref n ∧ v = .ref a ∧ ι[n]? = some a ∧ S[n]? = some (.dct kvs) ∧ H a = some (.dK ws) ∧ ws.map (·.1) = kvs.map (·.1) ∧ RepL K H ξ ι (kvs.map (·.2)) (ws.map (·.2)) := by
  cases d with
  | ref n =>
    unfold dctAt at e
    simp only at e
    split at e
    · rename_i es q
      cases e
      obtain ⟨a, h1, h2⟩ := r
      obtain ⟨b, h3, ws, h4, h5, h6⟩ := st.cell n _ q
      obtain rfl : b = a := Option.some.inj (h3.symm.trans h2)
      exact ⟨n, b, ws, rfl, h1, h2, q, h4, h5, h6⟩
    · cases e
  | _ => cases e
def gItem : Op2 := fun x y S => match dctAt S x with
  | some kvs => (keyOf y).bind fun k => (dlook kvs k).map fun d => (d, S)
  | none => gIx x y S
section
variable {X : Cx} {pos : Pos}
theorem me_item (hu : X.A.units + 1 < cLine) {a b : Expr} {fa fb : EDen} (ha : ME X a fa) (hb : ME X b fb) (hs : PlainIx b := by exact fun _ _ => rfl) : ME X (.Subscript a b pos) (dOp gItem fa fb) :=
  ((pe_ix ix_seq ha hb hs).or (pe_dget hu ha hb hs)).weak fun σ H Q h => by
    obtain ⟨ξ, ι, ρ, S, d, S', st, re, e, k⟩ := id h
    obtain ⟨x, S1, e1, e⟩ := bnd_some e
    obtain ⟨y, S2, e2, e⟩ := bnd_some e
    unfold gItem at e
    split at e
    · rename_i kvs q
      cases q2 : keyOf y with
      | none => rw [q2] at e; cases e
      | some ky =>
        rw [q2] at e
        have e : (dlook kvs ky).map (fun d => (d, S2)) = some (d, S') := e
        cases q3 : dlook kvs ky with
        | none => rw [q3] at e; cases e
        | some z =>
          rw [q3] at e
          cases e
          refine .inr (tE.run st re e1 fun v1 H1 ι1 s1 st1 r1 => tE.run st1 (s1.env re) e2 fun v2 H2 ι2 s2 st2 r2 => ?_)
          obtain ⟨n, a, ws, rfl, rfl, h3, h4, h5, h6, h7⟩ := dctAt_ok st2 (s2.val r1) q
          obtain ⟨u, h8, h9⟩ := (dlook_rep (k := ky) h6 h7).2 _ q3
          refine ⟨a, u, rfl, ?_, ((k.next s1).next s2).here st2 h9⟩
          rw [keyOf_rep q2 r2, ← h8]
          exact DGet.k h5
    · refine .inl (tE.run st re e1 fun v1 H1 ι1 s1 st1 r1 => tE.run st1 (s1.env re) e2 fun v2 H2 ι2 s2 st2 r2 => ?_)
      exact m_ix H2 ξ ι2 S2 S' x y d v1 v2 Q st2 (s2.val r1) r2 e ((k.next s1).next s2)
/-- d[k] = v; xs[i] = v -/
def setItemD (o i d : D) (S : Sto) : Option Sto := match dctAt S o with
  | some kvs => match o with
    | .ref n => (keyOf i).bind fun k => if kvs.length < sizeLine ∧ D.fit n d = true then some (S.set n (.dct (dput kvs k d))) else none
    | _ => none
  | none => setL o i d S
def sSet (fo fi fv : EDen) : SDen := fun ρ S => bnd (fv ρ S) fun d S => bnd (fo ρ S) fun o S => bnd (fi ρ S) fun i S => (setItemD o i d S).map fun S => (.nx, ρ, S)
theorem _root_.L2.PS.or {st : Stmt} {t t' : TS} (h : PS X st t) (h' : PS X st t') : PS X st (fun T σ H => t T σ H ∨ t' T σ H) := ⟨fun pins s σ H T I q => q.elim (h.run pins s σ H T I) (h'.run pins s σ H T I)⟩
theorem ms_setItem (hu : X.A.units + 1 < cLine) {o i value : Expr} {fo fi fv : EDen} {pos' : Pos} (ho : ME X o fo) (hi : ME X i fi) (hv : ME X value fv) (hs : swapsWith value (some (.Subscript o i pos')) pos.line X.env = pure false := by rfl)
    (hs1 : swapsWithSole [.Subscript o i pos'] value pos.line X.env = pure false := by rfl) (hw : swappedStores [.Subscript o i pos'] value X.env = pure none := by rfl)
    (h1 : (assignEach [.Subscript o i pos'] X.env).map (·.2) = [assign (.Subscript o i pos') X.env] := by rfl)
    (ha : ∀ v, assign (.Subscript o i pos') X.env v = (do
      let ov ← holding [v] (eval o X.env)
      let iv ← holding [v, ov] (eval i X.env)
      standAt pos'
      holding [v, ov, iv] (setItem ov iv v)
      release [v, ov, iv] []) := by intro _; rfl) : MS X (.Assign [.Subscript o i pos'] value pos) (sSet fo fi fv) :=
  ((ps_asg hv (pg_sub ho hi set_list ha) hs1 hw h1).or (ps_dput hu ho hi hv hs)).weak fun T σ H ⟨ξ, ι, ρ, S, o', ρ', S', st, re, e, k⟩ => by
    obtain ⟨d, S1, e1, e⟩ := bnd_some e
    obtain ⟨x, S2, e2, e⟩ := bnd_some e
    obtain ⟨y, S3, e3, e⟩ := bnd_some e
    cases q : setItemD x y d S3 with
    | none => rw [q] at e; cases e
    | some S4 =>
      rw [q] at e
      cases e
      unfold setItemD at q
      split at q
      · rename_i kvs q1
        refine .inr (tE.run st re e1 fun v1 H1 ι1 s1 st1 r1 => tE.run st1 (s1.env re) e2 fun v2 H2 ι2 s2 st2 r2 => tE.run st2 (s2.env (s1.env re)) e3 fun v3 H3 ι3 s3 st3 r3 => ?_)
        obtain ⟨n, a, ws, rfl, rfl, h3, h4, h5, h6, h7⟩ := dctAt_ok st3 (s3.val r2) q1
        simp only at q
        cases q2 : keyOf y with
        | none => rw [q2] at q; cases q
        | some ky =>
          rw [q2] at q
          have q : (if kvs.length < sizeLine ∧ D.fit n d = true then some (S3.set n (.dct (dput kvs ky d))) else none) = some S' := q
          split at q
          · rename_i hz
            cases q
            have hl : ws.length = kvs.length := by simpa using congrArg List.length h6
            have s4 : Step H3 ι3 (upd H3 a (.dK (putK ws ky v1))) ι3 := Step.write (S := S3) h3 (.dK h5)
            have rv := s4.val (s3.val (s2.val r1))
            obtain ⟨p1, p2⟩ := dput_rep (k := ky) rv h6 (s4.vals h7)
            refine ⟨a, _, rfl, ?_, k σ _ ι3 (s1.trans (s2.trans (s3.trans s4))) (st3.write h3 (.dK h5) ⟨_, upd_same, p1, p2⟩ (dput_fit (st3.asc n _ h4) hz.2)) (s4.env (s3.env (s2.env (s1.env re))))⟩
            rw [keyOf_rep q2 r3]
            exact DPut.k h5 (by rw [hl]; exact hz.1)
          · cases q
      · refine .inl (tE.run st re e1 fun v1 H1 ι1 s1 st1 r1 => tE.run st1 (s1.env re) e2 fun v2 H2 ι2 s2 st2 r2 => tE.run st2 (s2.env (s1.env re)) e3 fun v3 H3 ι3 s3 st3 r3 => ?_)
        exact m_setL H3 ξ ι3 S3 S' x y d v2 v3 v1 _ st3 (s3.val r2) r3 (s3.val (s2.val r1)) q fun H4 ι4 s4 st4 => k σ H4 ι4 (s1.trans (s2.trans (s3.trans s4))) st4 (s4.env (s3.env (s2.env (s1.env re))))
/-- {} and written dicts with written keys -/
theorem StoOk.adoptC {K : Frag} {H : Hp} {ξ ι : List Addr} {S : Sto} {p : Addr} {c : C} (st : StoOk K H (p :: ξ) ι S) (pn : p ∉ ξ) (hc : ∀ ι', (∀ ds vs, RepL K H (p :: ξ) ι ds vs → RepL K H ξ ι' ds vs) → CellOk K H ξ ι' p c) (hf : C.fit S.length c = true) : StoOk K H ξ (ι ++ [p]) (S ++ [c]) := by
  have pi : p ∉ ι := fun z => st.apart p z List.mem_cons_self
  have m : ∀ n, n ≤ ι.length → Mv H (p :: ξ) ι n H ξ (ι ++ [p]) := fun n hn => ⟨fun a o h h1 h2 => ⟨h, fun z => h1 (List.mem_cons_of_mem _ z), fun z => by
    rcases List.mem_append.mp z with z | z
    · exact h2 z
    · exact h1 (by rw [List.mem_singleton.mp z]; exact List.mem_cons_self)⟩, fun i a hi e => by rw [List.getElem?_append_left (by omega)]; exact e⟩
  refine ⟨by simp [st.len], ?_, fun a ha z => ?_, fun a ha => st.live a (List.mem_cons_of_mem _ ha), fun n d e => ?_, fun n d e => ?_⟩
  · rw [List.nodup_append]
    exact ⟨st.nd, by simp, fun a ha b hb => by rw [List.mem_singleton.mp hb]; exact fun z => pi (z ▸ ha)⟩
  · rcases List.mem_append.mp ha with ha | ha
    · exact st.apart a ha (List.mem_cons_of_mem _ z)
    · rw [List.mem_singleton.mp ha] at z
      exact pn z
  · by_cases hn : n < S.length
    · rw [List.getElem?_append_left hn] at e
      obtain ⟨a, h1, h2⟩ := st.cell n d e
      exact ⟨a, by rw [List.getElem?_append_left (by rw [st.len]; exact hn)]; exact h1, h2.mono (fun _ _ r => RepL.mv (m _ (Nat.le_refl _)) r.fit r) fun _ q => q⟩
    · rw [List.getElem?_append_right (by omega)] at e
      have hz : n - S.length = 0 := by
        rcases Nat.eq_zero_or_pos (n - S.length) with z | z
        · exact z
        · rw [List.getElem?_eq_none (by simp; omega)] at e; cases e
      rw [hz] at e
      cases e
      exact ⟨p, by rw [List.getElem?_append_right (by rw [st.len]; omega), st.len, hz]; rfl, hc _ fun _ _ r => RepL.mv (m _ (Nat.le_refl _)) r.fit r⟩
  · by_cases hn : n < S.length
    · rw [List.getElem?_append_left hn] at e
      exact st.asc n d e
    · rw [List.getElem?_append_right (by omega)] at e
      have hz : n - S.length = 0 := by
        rcases Nat.eq_zero_or_pos (n - S.length) with z | z
        · exact z
        · rw [List.getElem?_eq_none (by simp; omega)] at e; cases e
      rw [hz] at e
      cases e
      rw [show n = S.length by omega]
      exact hf
/-- the list at p is made beside the store; now it is one of its things -/
theorem StoOk.over {K : Frag} {H : Hp} {ξ ι : List Addr} {S : Sto} {p : Addr} {o : HO} (st : StoOk K H ξ ι S) (hp : H p = none) : StoOk K (L2.upd H p o) (p :: ξ) ι S := by
  have f := st.fresh hp
  have s := st.upd (o := o) hp
  have m : Mv H ξ ι ι.length (L2.upd H p o) (p :: ξ) ι := ⟨fun a u h h1 h2 => ⟨keep_upd hp a u h, fun z => (List.mem_cons.mp z).elim (fun z => by rw [z, hp] at h; cases h) h1, h2⟩, fun _ _ _ e => e⟩
  refine ⟨s.len, s.nd, fun a ha z => ?_, fun a ha => ?_, fun n c e => ?_, s.asc⟩
  · rcases List.mem_cons.mp z with z | z
    · exact f.2 (z ▸ ha)
    · exact s.apart a ha z
  · rcases List.mem_cons.mp ha with rfl | ha
    · rw [upd_same]; exact fun z => nomatch z
    · exact s.live a ha
  · obtain ⟨a, h1, h2⟩ := st.cell n c e
    exact ⟨a, h1, h2.mono (fun _ _ r => RepL.mv m r.fit r) (keep_upd hp a)⟩
def dNewD : EDen := fun _ S => some (.ref S.length, S ++ [.dct []])
theorem me_newD : ME X (.Dict [] [] pos) dNewD := pe_dnewK.weak fun σ H Q ⟨ξ, ι, ρ, S, d, S', st, re, e, k⟩ => by
  cases e
  intro p hp
  exact k _ _ (ι ++ [p]) (Step.push st hp) (st.push hp ⟨[], upd_same, rfl, rfl⟩ rfl) ⟨p, rfl, by rw [← st.len, List.getElem?_append_right (Nat.le_refl _), Nat.sub_self]; rfl⟩
def dDispL : List (Key × EDen) → Env → Sto → Option (List (Key × D) × Sto)
  | [] => fun _ S => some ([], S)
  | (k, f) :: r => fun ρ S => bnd (f ρ S) fun d S => bnd (dDispL r ρ S) fun ps S => some ((k, d) :: ps, S)
def dDisp (kfs : List (Key × EDen)) : EDen := fun ρ S => bnd (dDispL kfs ρ S) fun kds S => if D.fitL S.length (kds.map (·.2)) then some (.ref S.length, S ++ [.dct kds]) else none
abbrev MPs (X : Cx) (pos : Pos) (keys : List (Option Expr)) (values : List Expr) (kfs : List (Key × EDen)) : Prop := PPs X pos keys values (kfs.map fun p => (tC (kV p.1), tE X.K p.2))
theorem mps_nil : MPs X pos [] [] [] := pps_nil
theorem mps_cons {k : Key} {e v : Expr} {f : EDen} {ks : List (Option Expr)} {vs : List Expr} {r : List (Key × EDen)} (hk : PE X e (tC (kV k))) (hv : ME X v f) (hr : MPs X pos ks vs r) : MPs X pos (some e :: ks) (v :: vs) ((k, f) :: r) := pps_cons hk hv hr
theorem mergeK_nd : ∀ (more acc : List (Key × V)), ((acc ++ more).map (·.1)).Nodup → mergeK acc more = acc ++ more
  | [], acc, _ => by simp [mergeK]
  | (k, v) :: more, acc, h => by
    show mergeK (putK acc k v) more = _
    have no : (acc.any fun kv => decide (kv.1 = k)) = false := by
      rw [List.any_eq_false]
      intro p hp z
      have z : p.1 = k := of_decide_eq_true z
      rw [List.map_append, List.nodup_append] at h
      exact h.2.2 p.1 (List.mem_map.mpr ⟨p, hp, rfl⟩) k (by simp) z
    have e : putK acc k v = acc ++ [(k, v)] := by unfold putK; rw [no]; rfl
    rw [e, mergeK_nd more (acc ++ [(k, v)]) (by rw [List.append_assoc]; exact h), List.append_assoc]
    rfl
theorem disp_run {K : Frag} : ∀ (kfs : List (Key × EDen)) {σ : L2.St} {H : Hp} {ξ ι : List Addr} {ρ : Env} {S S' : Sto} {kds : List (Key × D)} {Q : List (V × V) → Hp → Prop}, StoOk K H ξ ι S → RepE K H ξ ι ρ σ → dDispL kfs ρ S = some (kds, S') →
    (∀ (ws : List (Key × V)) H' ι', Step H ι H' ι' → StoOk K H' ξ ι' S' → ws.map (·.1) = kds.map (·.1) → RepL K H' ξ ι' (kds.map (·.2)) (ws.map (·.2)) → Q (ws.map fun kv => (kV kv.1, kv.2)) H') → tPairs (kfs.map fun p => (tC (kV p.1), tE K p.2)) σ H Q
  | [], σ, H, ξ, ι, ρ, S, S', kds, Q, st, re, e, k => by
    cases e
    exact k [] H ι Step.refl st rfl rfl
  | (ky, f) :: r, σ, H, ξ, ι, ρ, S, S', kds, Q, st, re, e, k => by
    obtain ⟨d, S1, e1, e⟩ := bnd_some e
    obtain ⟨ps, S2, e2, e⟩ := bnd_some e
    cases e
    show tE K f σ H fun y H2 => tPairs (r.map fun p => (tC (kV p.1), tE K p.2)) σ H2 fun ps H3 => Q ((kV ky, y) :: ps) H3
    refine tE.run st re e1 fun v1 H1 ι1 s1 st1 r1 => disp_run r st1 (s1.env re) e2 fun ws H2 ι2 s2 st2 h1 h2 => ?_
    exact k ((ky, v1) :: ws) H2 ι2 (s1.trans s2) st2 (by simp only [List.map_cons]; rw [h1]) ⟨v1, _, rfl, s2.val r1, h2⟩
theorem dDispL_keys : ∀ (kfs : List (Key × EDen)) {ρ : Env} {S S' : Sto} {kds : List (Key × D)}, dDispL kfs ρ S = some (kds, S') → kds.map (·.1) = kfs.map (·.1)
  | [], _, _, _, _, e => by cases e; rfl
  | (ky, f) :: r, _, _, _, _, e => by
    obtain ⟨d, S1, e1, e⟩ := bnd_some e
    obtain ⟨ps, S2, e2, e⟩ := bnd_some e
    cases e
    simp only [List.map_cons]
    rw [dDispL_keys r e2]
theorem me_disp {keys : List (Option Expr)} {values : List Expr} {kfs : List (Key × EDen)} (h : MPs X pos keys values kfs) (nd : (kfs.map (·.1)).Nodup) (hall : keys.all (·.isSome) = true := by rfl) (hl : keys.length = values.length := by rfl) (h0 : keys ≠ [] := by exact fun z => nomatch z)
    (h15 : keys.length ≤ 15 := by decide) (hk : kfs.length ≤ 15 := by decide) : ME X (.Dict keys values pos) (dDisp kfs) := (pe_disp h hall hl h0 h15).weak fun σ H Q ⟨ξ, ι, ρ, S, d, S', st, re, e, k⟩ => by
  obtain ⟨kds, S1, e1, e⟩ := bnd_some e
  split at e
  · rename_i hf
    cases e
    intro p hp
    have f := st.fresh hp
    have st0 := st.over (o := .dK []) hp
    have re0 : RepE X.K (upd H p (.dK [])) (p :: ξ) ι ρ σ := ⟨re.len, fun i d e => by
      obtain ⟨v, h1, h2⟩ := re.at_ i d e
      exact ⟨v, h1, RepV.mv (n := ι.length) ⟨fun a u h h1 h2 => ⟨keep_upd hp a u h, fun z => (List.mem_cons.mp z).elim (fun z => by rw [z, hp] at h; cases h) h1, h2⟩, fun _ _ _ e => e⟩ h2.fit h2⟩⟩
    refine disp_run kfs st0 re0 e1 fun ws H2 ι2 s2 st2 h1 h2 => ?_
    have h3 : H2 p = some (.dK []) := (s2.keep p _ upd_same f.2).1
    have len : ws.length = kfs.length := by
      have := congrArg List.length (h1.trans (dDispL_keys kfs e1))
      simpa using this
    refine ⟨h3, ws, rfl, by omega, ?_⟩
    have mk : mergeK [] ws = ws := by
      rw [mergeK_nd ws [] (by rw [List.nil_append, h1, dDispL_keys kfs e1]; exact nd)]
      rfl
    rw [mk]
    -- the dict at p is written: it becomes one of the store's things
    have pn2 : p ∉ ι2 := fun z => st2.apart p z List.mem_cons_self
    have m : ∀ n, Mv H2 (p :: ξ) ι2 n (upd H2 p (.dK ws)) (p :: ξ) ι2 := fun n => ⟨fun a o h g1 g2 => ⟨by rw [upd_ne (fun z => g1 (by rw [z]; exact List.mem_cons_self))]; exact h, g1, g2⟩, fun _ _ _ e => e⟩
    have st3 : StoOk X.K (upd H2 p (.dK ws)) (p :: ξ) ι2 S1 := by
      refine ⟨st2.len, st2.nd, st2.apart, fun a ha => ?_, fun n c e => ?_, st2.asc⟩
      · rcases List.mem_cons.mp ha with rfl | ha
        · rw [upd_same]; exact fun z => nomatch z
        · rw [upd_ne (show a ≠ p from fun w => f.1 (by rw [← w]; exact ha))]
          exact st2.live a (List.mem_cons_of_mem _ ha)
      · obtain ⟨a, g1, g2⟩ := st2.cell n c e
        exact ⟨a, g1, g2.mono (fun _ _ r => RepL.mv (m _) r.fit r) fun o q => by rw [upd_ne (fun z => st2.apart a (List.mem_of_getElem? g1) (by rw [z]; exact List.mem_cons_self))]; exact q⟩
    refine k _ _ (ι2 ++ [p]) ?_ (st3.adoptC f.1 (fun ι' mv => ⟨ws, upd_same, h1, mv _ _ (RepL.mv (m _) h2.fit h2)⟩) hf) ⟨p, rfl, by rw [← st3.len, List.getElem?_append_right (Nat.le_refl _), Nat.sub_self]; rfl⟩
    obtain ⟨mm, rfl⟩ := s2.more
    refine ⟨⟨mm ++ [p], by rw [List.append_assoc]⟩, fun a o h n => ?_, fun a o u h => by rw [upd_ne (ne_of_none h hp)]; exact s2.frz a o u (keep_upd hp a _ h)⟩
    have ne : a ≠ p := ne_of_none h hp
    obtain ⟨q1, q2⟩ := s2.keep a o (keep_upd hp a o h) n
    refine ⟨by rw [upd_ne ne]; exact q1, fun z => ?_⟩
    rcases List.mem_append.mp z with z | z
    · exact q2 z
    · exact ne (List.mem_singleton.mp z)
  · cases e

/-! ### methods -/
def MMeth (K : Frag) (r : V → List V → Hp → VK → Prop) (g : D → List D → Sto → Option (D × Sto)) : Prop := ∀ (H : Hp) (ξ ι : List Addr) (S S' : Sto) (o : D) (ds : List D) (d : D) (v : V) (vs : List V) (Q : VK), StoOk K H ξ ι S → RepV K H ξ ι o v → RepL K H ξ ι ds vs → g o ds S = some (d, S') → Ans K ξ ι H S' d Q → r v vs H Q
def isL (S : Sto) (o : D) : Bool := (listOf S o).isSome
def dMeth (g : D → List D → Sto → Option (D × Sto)) (fo : EDen) (fa : ADen) : EDen := fun ρ S => bnd (fo ρ S) fun o S => if isL S o then bnd (fa ρ S) fun ds S => g o ds S else none
def dMeth0 (g : D → List D → Sto → Option (D × Sto)) (fo : EDen) : EDen := fun ρ S => bnd (fo ρ S) fun o S => if isL S o then g o [] S else none
theorem isL_ty {K : Frag} {H : Hp} {ξ ι : List Addr} {S : Sto} {o : D} {v : V} (st : StoOk K H ξ ι S) (r : RepV K H ξ ι o v) (h : isL S o = true) : tyV K "list" v H := by
  obtain ⟨ds, e⟩ := Option.isSome_iff_exists.mp h
  obtain ⟨a, vs, rfl, h2, _⟩ := listOf_ok st r e
  exact .inl ⟨rfl, vs, h2⟩
theorem me_meth {o e : Expr} {es : List Expr} {fo : EDen} {fa : ADen} {name : Str} {apos cpos : Pos} {id : String} {r : V → List V → Hp → VK → Prop} {g : D → List D → Sto → Option (D × Sto)} (slot : Slot "list" name id) (hty : typeOf (.builtin id) = pure (.type "method_descriptor")) (hm : MtR X id r) (m : MMeth X.K r g)
    (ho : ME X o fo) (ha : MA X (e :: es) fa) (hbase : attributeBase o name X.env (eval o X.env) = eval o X.env := by rfl)
    (hfew : ((backTo cpos (starEach (e :: es) X.env)).all (fun x => !x.1) && (backToKw cpos (keywordEach [] X.env)).all (fun x => x.1.isSome) && decide ((e :: es).length + ([] : List Keyword).length + (if ([] : List Keyword).isEmpty then 0 else 1) < 30)) = true := by rfl)
    (hline : (apos.endLine == cpos.line) = true := by rfl) (hs : starEach (e :: es) X.env = (false, eval e X.env) :: starEach es X.env := by rfl) (hplain : (backTo cpos (starEach es X.env)).any (·.1) = false := by rfl) :
    ME X (.Call (.Attribute o name apos) (e :: es) [] cpos) (dMeth g fo fa) := (pe_bm PySem.F.plainAttrs_list slot hty hm ho ha hbase hfew hline hs hplain).weak fun σ H Q ⟨ξ, ι, ρ, S, d, S', st, re, e, k⟩ => by
  obtain ⟨x, S1, e1, e⟩ := bnd_some e
  split at e
  · rename_i hl
    obtain ⟨ds, S2, e2, e⟩ := bnd_some e
    refine tE.run st re e1 fun v1 H1 ι1 s1 st1 r1 => ⟨isL_ty st1 r1 hl, tA.run st1 (s1.env re) e2 fun vs H2 ι2 s2 st2 r2 => ?_⟩
    exact m H2 ξ ι2 S2 S' x ds d v1 vs Q st2 (s2.val r1) r2 e ((k.next s1).next s2)
  · cases e
theorem me_meth0 {o : Expr} {fo : EDen} {name : Str} {apos cpos : Pos} {id : String} {r : V → List V → Hp → VK → Prop} {g : D → List D → Sto → Option (D × Sto)} (slot : Slot "list" name id) (hty : typeOf (.builtin id) = pure (.type "method_descriptor")) (hm : MtR X id r) (m : MMeth X.K r g)
    (ho : ME X o fo) (hbase : attributeBase o name X.env (eval o X.env) = eval o X.env := by rfl) (hline : (apos.endLine == cpos.line) = true := by rfl) : ME X (.Call (.Attribute o name apos) [] [] cpos) (dMeth0 g fo) :=
  (pe_bm0 PySem.F.plainAttrs_list slot hty hm ho hbase hline).weak fun σ H Q ⟨ξ, ι, ρ, S, d, S', st, re, e, k⟩ => by
    obtain ⟨x, S1, e1, e⟩ := bnd_some e
    split at e
    · rename_i hl
      exact tE.run st re e1 fun v1 H1 ι1 s1 st1 r1 => ⟨isL_ty st1 r1 hl, m H1 ξ ι1 S1 S' x [] d v1 [] Q st1 r1 rfl e (k.next s1)⟩
    · cases e
theorem cell_of {K : Frag} {H : Hp} {ξ ι : List Addr} {S : Sto} {n : Nat} {v : V} {ds : List D} (st : StoOk K H ξ ι S) (r : RepV K H ξ ι (.ref n) v) (q : S[n]? = some (.lst ds)) : ∃ a vs, v = .ref a ∧ ι[n]? = some a ∧ H a = some (.lst vs) ∧ RepL K H ξ ι ds vs := by
  obtain ⟨a, h1, h2⟩ := r
  obtain ⟨b, h3, vs, h4, h5⟩ := st.cell n _ q
  obtain rfl : b = a := Option.some.inj (h3.symm.trans h2)
  exact ⟨b, vs, h1, h2, h4, h5⟩
/-- xs.append(e) -/
def gAppend : D → List D → Sto → Option (D × Sto) := fun o as S => match o, as with
  | .ref n, [d] => match S[n]? with
    | some (.lst ds) => if ds.length < sizeLine ∧ D.fit n d = true then some (.non, S.set n (.lst (ds ++ [d]))) else none
    | _ => none
  | _, _ => none
theorem fitL_append {n : Nat} {ds es : List D} (h : D.fitL n ds = true) (h' : D.fitL n es = true) : D.fitL n (ds ++ es) = true := D.fitL_all.mpr fun x hx => (List.mem_append.mp hx).elim (D.fitL_all.mp h x) (D.fitL_all.mp h' x)
theorem fitL_one {n : Nat} {d : D} (h : D.fit n d = true) : D.fitL n [d] = true := D.fitL_all.mpr fun x hx => by rw [List.mem_singleton.mp hx]; exact h
theorem mm_append {K : Frag} : MMeth K rAppend gAppend := by
  intro H ξ ι S S' o ds d v vs Q st ro ra e k
  unfold gAppend at e
  split at e
  · rename_i n y
    split at e
    · rename_i es q
      split at e
      · rename_i hz
        cases e
        obtain ⟨a, us, rfl, hn, h4, h5⟩ := cell_of st ro q
        obtain ⟨yv, rfl, ry⟩ := RepL.one' ra
        have s : Step H ι (upd H a (.lst (us ++ [yv]))) ι := Step.write (S := S) hn (.lst h4)
        exact ⟨a, us, yv, rfl, rfl, h4, by rw [h5.length]; exact hz.1, k _ _ ι s (st.write hn (.lst h4) ⟨_, upd_same, (s.vals h5).append (.one (s.val ry))⟩ (fitL_append (st.asc n _ q) (fitL_one hz.2))) rfl⟩
      · cases e
    · cases e
  · cases e
/-- xs.extend(ys) -/
def gExtend : D → List D → Sto → Option (D × Sto) := fun o as S => match o, as with
  | .ref n, [d] => match S[n]? with
    | some (.lst ds) => (mlistOf S d).bind fun es => if ds.length + es.length ≤ sizeLine ∧ D.fitL n es = true then some (.non, S.set n (.lst (ds ++ es))) else none
    | _ => none
  | _, _ => none
theorem mm_extend {K : Frag} : MMeth K rExtend gExtend := by
  intro H ξ ι S S' o ds d v vs Q st ro ra e k
  unfold gExtend at e
  split at e
  · rename_i n y
    split at e
    · rename_i es q
      cases q2 : mlistOf S y with
      | none => rw [q2] at e; cases e
      | some fs =>
        rw [q2] at e
        have e : (if es.length + fs.length ≤ sizeLine ∧ D.fitL n fs = true then some (D.non, S.set n (.lst (es ++ fs))) else none) = some (d, S') := e
        split at e
        · rename_i hz
          cases e
          obtain ⟨a, us, rfl, hn, h4, h5⟩ := cell_of st ro q
          obtain ⟨yv, rfl, ry⟩ := RepL.one' ra
          obtain ⟨b, ws, rfl, h6, h7⟩ := mlistOf_ok st ry q2
          have s : Step H ι (upd H a (.lst (us ++ ws))) ι := Step.write (S := S) hn (.lst h4)
          exact ⟨a, b, us, ws, rfl, rfl, h4, h6, by rw [h5.length, h7.length]; exact hz.1, k _ _ ι s (st.write hn (.lst h4) ⟨_, upd_same, (s.vals h5).append (s.vals h7)⟩ (fitL_append (st.asc n _ q) hz.2)) rfl⟩
        · cases e
    · cases e
  · cases e
/-- xs.pop() -/
def gPop : D → List D → Sto → Option (D × Sto) := fun o as S => match o, as with
  | .ref n, [] => match S[n]? with
    | some (.lst ds) => (ds[ds.length - 1]?).map fun d => (d, S.set n (.lst ds.dropLast))
    | _ => none
  | _, _ => none
theorem RepL.dropLast {K : Frag} {H : Hp} {ξ ι : List Addr} {ds : List D} {vs : List V} (r : RepL K H ξ ι ds vs) : RepL K H ξ ι ds.dropLast vs.dropLast := by
  rw [List.dropLast_eq_take, List.dropLast_eq_take, r.length]
  exact r.take _
theorem fitL_sub {n : Nat} {ds es : List D} (h : D.fitL n ds = true) (hs : ∀ d ∈ es, d ∈ ds) : D.fitL n es = true := D.fitL_all.mpr fun d hd => D.fitL_all.mp h d (hs d hd)
theorem mm_pop {K : Frag} : MMeth K rPop gPop := by
  intro H ξ ι S S' o ds d v vs Q st ro ra e k
  unfold gPop at e
  split at e
  · rename_i n
    split at e
    · rename_i es q
      cases q2 : es[es.length - 1]? with
      | none => rw [q2] at e; cases e
      | some y =>
        rw [q2] at e
        cases e
        obtain ⟨a, us, rfl, hn, h4, h5⟩ := cell_of st ro q
        obtain rfl : vs = [] := ra
        obtain ⟨yv, h6, ry⟩ := h5.get q2
        have s : Step H ι (upd H a (.lst us.dropLast)) ι := Step.write (S := S) hn (.lst h4)
        exact ⟨a, us, yv, rfl, rfl, h4, by rw [h5.length]; exact h6, k _ _ ι s (st.write hn (.lst h4) ⟨_, upd_same, (s.vals h5).dropLast⟩ (fitL_sub (st.asc n _ q) fun d hd => (List.dropLast_sublist _).subset hd)) (s.val ry)⟩
    · cases e
  · cases e

/-! ### repr -/
def rRepr (K : Frag) : List V → Hp → VK → Prop := fun xs H Q => ∃ x d, xs = [x] ∧ Dp K H x d ∧ d.showable = true ∧ d.hasDict = false ∧ d.depth ≤ 62 ∧ d.shown.length ≤ sizeLine ∧ Q (.str d.shown) H
theorem c_repr (hg : X.A.guards = some []) (hu : X.A.units + 64 < cLine) : CallR X (.builtin "repr") (rRepr X.K) := by
  intro pins s σ H xs us Q I r h
  obtain ⟨x, d, rfl, hd, h1, h2, h3, h4, q⟩ := h
  obtain ⟨u, rfl, ru⟩ := vals1 r
  obtain ⟨as, rd⟩ := Dp.reads I d x u hd ru
  have big : ∀ {a : Addr}, u = .ref a → wpAny (model X.prog X.w) X.A (call (.builtin "repr") [u]) (EP X pins σ Q) X.xe s := fun {a} e => by
    subst e
    exact repr_of_reads' rd h1 (PyData.noDict_hsm h2) hg (by omega) (fun _ _ o => o) (fun h' t tk kp => ⟨.str d.shown, H, I.kept kp, ⟨_, rfl⟩, q⟩) h4
  cases rd with
  | none => exact PySem.P.repr_of_none ⟨.str _, H, I.tok _, ⟨_, rfl⟩, by simpa only [PyData.shown] using q⟩
  | bool b => exact PySem.P.repr_of_bool ⟨.str _, H, I.tok _, ⟨_, rfl⟩, by simpa only [PyData.shown] using q⟩
  | int i t => exact PySem.P.repr_of_int (by simpa [PyData.showable] using h1) ⟨.str _, H, I.tok _, ⟨_, rfl⟩, by simpa only [PyData.shown] using q⟩
  | str x t => exact PySem.P.repr_of_str ⟨.str _, H, I.tok _, ⟨_, rfl⟩, by simpa only [PyData.shown] using q⟩ (by simpa only [PyData.shown] using h4)
  | list _ _ _ _ => exact big rfl
  | tuple _ _ _ _ => exact big rfl
  | dict _ _ _ _ _ => exact big rfl
def showOk (d : PyData) : Bool := d.showable && !d.hasDict && decide (d.depth ≤ 62) && decide (d.shown.length ≤ sizeLine)
def cRepr : CDen := fun ds S => match ds with
  | [d] => (datS S d).bind fun x => if showOk x then some (.str x.shown, S) else none
  | _ => none
theorem mc_repr {K : Frag} : MCall K (rRepr K) cRepr := by
  intro H ξ ι S S' ds d vs Q st r e k
  unfold cRepr at e
  split at e
  · rename_i x
    cases q : datS S x with
    | none => rw [q] at e; cases e
    | some y =>
      rw [q] at e
      have e : (if showOk y then some (D.str y.shown, S) else none) = some (d, S') := e
      split at e
      · rename_i hs
        cases e
        obtain ⟨v, rfl, h⟩ := RepL.one' r
        unfold showOk at hs
        simp only [Bool.and_eq_true, decide_eq_true_eq, Bool.not_eq_true'] at hs
        exact ⟨v, y, rfl, datS_ok st h q, hs.1.1.1, hs.1.1.2, hs.1.2, hs.2, k.here st rfl⟩
      · cases e
  · cases e
end
end MS

namespace MS
open PySem PySem.Spec PyProof.Rows L2

/-! ### what a def hands back: its own lists become unchanging ones -/
mutual
def D.frz (n : Nat) (S : Sto) : D → Option D
  | .tup ds => (D.frzL n S ds).map .tup
  | .fl ds => (D.frzL n S ds).map .fl
  | .ref k => if k < n then some (.ref k) else match S[k]? with
    | some (.lst ds) => if D.fitL n ds then some (.fl ds) else none
    | _ => none
  | .rl ds => if D.fitL n ds then some (.rl ds) else none
  | .non => some .non
  | .bl b => some (.bl b)
  | .int i => some (.int i)
  | .str x => some (.str x)
def D.frzL (n : Nat) (S : Sto) : List D → Option (List D)
  | [] => some []
  | d :: ds => (D.frz n S d).bind fun d' => (D.frzL n S ds).map fun ds' => d' :: ds'
end
def D.fin (n : Nat) (S : Sto) (d : D) : Option D := if D.fit n d then some d else D.frz n S d
section
variable {K : Frag} {H : Hp} {ξ ι m : List Addr} {S : Sto}
theorem Mv.cut : Mv H ξ (ι ++ m) ι.length H ξ ι := ⟨fun a o h h1 h2 => ⟨h, h1, fun z => h2 (List.mem_append.mpr (.inl z))⟩, fun i a hi e => by rw [List.getElem?_append_left hi] at e; exact e⟩
mutual
theorem D.frz_rep (st : StoOk K H ξ (ι ++ m) S) : ∀ {d d' : D} {v : V}, RepV K H ξ (ι ++ m) d v → D.frz ι.length S d = some d' → RepV K H ξ ι d' v
  | .tup ds, d', v, r, e => by
    have e : (D.frzL ι.length S ds).map .tup = some d' := e
    cases q : D.frzL ι.length S ds with
    | none => rw [q] at e; cases e
    | some es =>
      rw [q] at e
      cases e
      obtain ⟨a, vs, h1, h2, h3⟩ := r
      exact ⟨a, vs, h1, ⟨h2.1, h2.2.1, fun z => h2.2.2 (List.mem_append.mpr (.inl z))⟩, D.frzL_rep st h3 q⟩
  | .fl ds, d', v, r, e => by
    have e : (D.frzL ι.length S ds).map .fl = some d' := e
    cases q : D.frzL ι.length S ds with
    | none => rw [q] at e; cases e
    | some es =>
      rw [q] at e
      cases e
      obtain ⟨a, vs, h1, h2, h3⟩ := r
      exact ⟨a, vs, h1, ⟨h2.1, h2.2.1, fun z => h2.2.2 (List.mem_append.mpr (.inl z))⟩, D.frzL_rep st h3 q⟩
  | .rl ds, d', v, r, e => by
    have e : (if D.fitL ι.length ds then some (D.rl ds) else none) = some d' := e
    split at e
    · rename_i hf
      cases e
      exact RepV.mv Mv.cut hf r
    · cases e
  | .ref k, d', v, r, e => by
    unfold D.frz at e
    split at e
    · rename_i hk
      cases e
      exact RepV.mv Mv.cut (decide_eq_true hk) r
    · rename_i hk
      split at e
      · rename_i ds q
        split at e
        · rename_i hf
          cases e
          obtain ⟨a, us, rfl, hn, h4, h5⟩ := cell_of st r q
          refine ⟨a, us, rfl, ⟨h4, st.apart a (List.mem_of_getElem? hn), fun z => ?_⟩, RepL.mv Mv.cut hf h5⟩
          obtain ⟨j, hj, ej⟩ := List.getElem_of_mem z
          have e1 : (ι ++ m)[j]? = some a := by rw [List.getElem?_append_left hj, List.getElem?_eq_getElem hj, ej]
          have := nodup_ix st.nd e1 hn
          omega
        · cases e
      · cases e
  | .non, d', v, r, e => by cases e; exact r
  | .bl _, d', v, r, e => by cases e; exact r
  | .int _, d', v, r, e => by cases e; exact r
  | .str _, d', v, r, e => by cases e; exact r
theorem D.frzL_rep (st : StoOk K H ξ (ι ++ m) S) : ∀ {ds ds' : List D} {vs : List V}, RepL K H ξ (ι ++ m) ds vs → D.frzL ι.length S ds = some ds' → RepL K H ξ ι ds' vs
  | [], ds', vs, r, e => by cases e; exact r
  | d :: ds, ds', vs, r, e => by
    have e : (D.frz ι.length S d).bind (fun d' => (D.frzL ι.length S ds).map fun ds' => d' :: ds') = some ds' := e
    cases q : D.frz ι.length S d with
    | none => rw [q] at e; cases e
    | some d1 =>
      cases q2 : D.frzL ι.length S ds with
      | none => rw [q, q2] at e; cases e
      | some es =>
        rw [q, q2] at e
        cases e
        obtain ⟨v, t, h1, h2, h3⟩ := r
        exact ⟨v, t, h1, D.frz_rep st h2 q, D.frzL_rep st h3 q2⟩
end
theorem D.fin_rep (st : StoOk K H ξ (ι ++ m) S) {d d' : D} {v : V} (r : RepV K H ξ (ι ++ m) d v) (e : D.fin ι.length S d = some d') : RepV K H ξ ι d' v := by
  unfold D.fin at e
  split at e
  · rename_i hf
    cases e
    exact RepV.mv Mv.cut hf r
  · exact D.frz_rep st r e
theorem StoOk.cut (st : StoOk K H ξ (ι ++ m) S) : StoOk K H ξ ι (S.take ι.length) := by
  have hl : ι.length ≤ S.length := by
    have := st.len
    rw [List.length_append] at this
    omega
  refine ⟨by rw [List.length_take]; omega, (List.nodup_append.mp st.nd).1, fun a ha => st.apart a (List.mem_append.mpr (.inl ha)), st.live, fun n c e => ?_, fun n c e => ?_⟩
  · have hn : n < ι.length := by
      have := (List.getElem?_eq_some_iff.mp e).1
      rw [List.length_take] at this
      omega
    have e : (S.take ι.length)[n]? = some c := e
    rw [List.getElem?_take_of_lt hn] at e
    obtain ⟨a, h1, h2⟩ := st.cell n c e
    rw [List.getElem?_append_left hn] at h1
    refine ⟨a, h1, ?_⟩
    have hf := st.asc n c e
    cases c with
    | lst ds =>
      obtain ⟨vs, h3, h4⟩ := h2
      exact ⟨vs, h3, RepL.mv Mv.cut (D.fitL_mono (Nat.le_of_lt hn) hf) h4⟩
    | dct kvs =>
      obtain ⟨ws, h3, h4, h5⟩ := h2
      exact ⟨ws, h3, h4, RepL.mv Mv.cut (D.fitL_mono (Nat.le_of_lt hn) hf) h5⟩
    | lck kvs =>
      obtain ⟨ws, o, h3, h4, h5⟩ := h2
      exact ⟨ws, o, h3, h4, RepL.mv Mv.cut (D.fitL_mono (Nat.le_of_lt hn) hf) h5⟩
  · have hn : n < ι.length := by
      have := (List.getElem?_eq_some_iff.mp e).1
      rw [List.length_take] at this
      omega
    have e : (S.take ι.length)[n]? = some c := e
    rw [List.getElem?_take_of_lt hn] at e
    exact st.asc n c e
end

/-! ### a def by its body -/
def env0 (nn : Nat) (ds : List D) : Env := ds.map some ++ List.replicate (nn - ds.length) none
def bodyP (np nn : Nat) (b : SDen) : FP := fun ds => if ds.length = np then (match b (env0 nn ds) [] with
  | some (.rt d, _, S) => D.fin 0 S d
  | some (.nx, _, _) => some .non
  | _ => none) else none
/-- its own things are forgotten at its end -/
def bodyM (np nn : Nat) (b : SDen) : FM := fun ds S => if ds.length = np then (match b (env0 nn ds) S with
  | some (.rt d, _, S') => (D.fin S.length S' d).map fun d => (d, S'.take S.length)
  | some (.nx, _, S') => some (.non, S'.take S.length)
  | _ => none) else none
/-- .. or kept -/
def bodyN (np nn : Nat) (b : SDen) : FM := fun ds S => if ds.length = np then (match b (env0 nn ds) S with
  | some (.rt d, _, S') => some (d, S')
  | some (.nx, _, S') => some (.non, S')
  | _ => none) else none
section
variable {P : Program} {w : World} {K : Frag} {mg : Str → Option Value} {base : Heap} {k : Nat} {f : Addr} {fd : FuncData} {x qual : Str} {params : Arguments} {body : List Stmt} {scope : Scope} {dvs : List V} {kws : List (Str × V)} {N ps : List Str} {b : SDen}
theorem start_rep {H : Hp} {ξ ι : List Addr} {ds : List D} {vs : List V} (r : RepL K H ξ ι ds vs) : RepE K H ξ ι (env0 N.length ds) (start N vs) := by
  refine ⟨by simp [env0, L2.start, r.length], fun i d e => ?_⟩
  unfold env0 at e
  unfold L2.start
  by_cases h : i < ds.length
  · rw [List.getElem?_append_left (by rw [List.length_map]; exact h), List.getElem?_map, List.getElem?_eq_getElem h] at e
    cases e
    obtain ⟨v, h1, h2⟩ := r.get (List.getElem?_eq_getElem h)
    exact ⟨v, by rw [List.getElem?_append_left (by rw [List.length_map, r.length]; exact h), List.getElem?_map, h1]; rfl, h2⟩
  · rw [List.getElem?_append_right (by rw [List.length_map]; omega), List.getElem?_replicate] at e
    split at e <;> cases e
theorem fnP_of (F : FunD K x qual params body scope dvs kws f fd) (S : FnScope N ps scope)
    (h : ∀ (cdv : Value) (A : Around) (outer : List PySem.Env) (s : Shared) (H : Hp) (E : XK), RoomG k (A.deeper (envOfC qual scope s.heap.objs.size f cdv)) → MSs (cxOf CX0 P w K mg base N qual scope f cdv A outer s H E).nox body b) :
    FnG P w K mg base CX0 (k + 1) f fd ps (spP K (bodyP ps.length N.length b)) := by
  have len : ∀ {ds : List D} {d : D}, bodyP ps.length N.length b ds = some d → ds.length = ps.length := fun {ds d} e => by
    unfold bodyP at e
    split at e
    · assumption
    · cases e
  refine fnG_of F S (fun vs H Q E ⟨ξ, ds, d, _, r, e, _⟩ => by rw [r.length]; exact len e) fun cdv A outer s H vs Q E hr hsp => ?_
  obtain ⟨ξ, ds, d, live, r, e, k⟩ := hsp
  refine ⟨_, PSs.nox (h cdv A outer s H E hr), ?_⟩
  unfold bodyP at e
  rw [if_pos (len e)] at e
  have st : StoOk K H ξ [] [] := ⟨rfl, .nil, fun a ha => (by cases ha), live, fun n c e => (by simp at e), fun n c e => (by simp at e)⟩
  cases q : b (env0 N.length ds) [] with
  | none => rw [q] at e; cases e
  | some z =>
    obtain ⟨o, ρ', S'⟩ := z
    rw [q] at e
    refine tS.run st (start_rep r) q ?_
    have back : ∀ {H' : Hp} {ι' : List Addr}, Step H [] H' ι' → Step H [] H' [] := fun {H' ι'} z => ⟨⟨[], rfl⟩, fun a o h n => ⟨(z.keep a o h n).1, n⟩, z.frz⟩
    cases o with
    | nx =>
      cases e
      exact fun σ' H' ι' z st' _ => k .non H' (back z) rfl
    | rt d' => exact fun v H' ι' z st' rv => k v H' (back z) (D.fin_rep (ι := []) (m := ι') st' rv e)
    | bk => cases e
    | ct => cases e
theorem fnM_of (F : FunD K x qual params body scope dvs kws f fd) (Sc : FnScope N ps scope)
    (h : ∀ (cdv : Value) (A : Around) (outer : List PySem.Env) (s : Shared) (H : Hp) (E : XK), RoomG k (A.deeper (envOfC qual scope s.heap.objs.size f cdv)) → MSs (cxOf CX0 P w K mg base N qual scope f cdv A outer s H E).nox body b) :
    FnG P w K mg base CX0 (k + 1) f fd ps (spM K (bodyM ps.length N.length b)) := by
  have len : ∀ {ds : List D} {S : Sto} {d : D × Sto}, bodyM ps.length N.length b ds S = some d → ds.length = ps.length := fun {ds S d} e => by
    unfold bodyM at e
    split at e
    · assumption
    · cases e
  refine fnG_of F Sc (fun vs H Q E ⟨ξ, ι, S, ds, d, S', _, r, e, _⟩ => by rw [r.length]; exact len e) fun cdv A outer s H vs Q E hr hsp => ?_
  obtain ⟨ξ, ι, S, ds, d, S', st, r, e, k⟩ := hsp
  refine ⟨_, PSs.nox (h cdv A outer s H E hr), ?_⟩
  unfold bodyM at e
  rw [if_pos (len e)] at e
  cases q : b (env0 N.length ds) S with
  | none => rw [q] at e; cases e
  | some z =>
    obtain ⟨o, ρ', S1⟩ := z
    rw [q] at e
    refine tS.run st (start_rep r) q ?_
    have back : ∀ {H' : Hp} {ι' : List Addr}, Step H ι H' ι' → Step H ι H' ι := fun {H' ι'} z => ⟨⟨[], (List.append_nil _).symm⟩, fun a o h n => ⟨(z.keep a o h n).1, n⟩, z.frz⟩
    cases o with
    | nx =>
      cases e
      intro σ' H' ι' z st' _
      obtain ⟨m, rfl⟩ := z.more
      exact k .non H' ι (back z) (by rw [← st.len]; exact st'.cut) rfl
    | rt d' =>
      have e : (D.fin S.length S1 d').map (fun d => (d, S1.take S.length)) = some (d, S') := e
      cases q2 : D.fin S.length S1 d' with
      | none => rw [q2] at e; cases e
      | some d2 =>
        rw [q2] at e
        cases e
        intro v H' ι' z st' rv
        obtain ⟨m, rfl⟩ := z.more
        exact k v H' ι (back z) (by rw [← st.len]; exact st'.cut) (D.fin_rep st' rv (by rw [st.len]; exact q2))
    | bk => cases e
    | ct => cases e
theorem fnN_of (F : FunD K x qual params body scope dvs kws f fd) (Sc : FnScope N ps scope)
    (h : ∀ (cdv : Value) (A : Around) (outer : List PySem.Env) (s : Shared) (H : Hp) (E : XK), RoomG k (A.deeper (envOfC qual scope s.heap.objs.size f cdv)) → MSs (cxOf CX0 P w K mg base N qual scope f cdv A outer s H E).nox body b) :
    FnG P w K mg base CX0 (k + 1) f fd ps (spM K (bodyN ps.length N.length b)) := by
  have len : ∀ {ds : List D} {S : Sto} {d : D × Sto}, bodyN ps.length N.length b ds S = some d → ds.length = ps.length := fun {ds S d} e => by
    unfold bodyN at e
    split at e
    · assumption
    · cases e
  refine fnG_of F Sc (fun vs H Q E ⟨ξ, ι, S, ds, d, S', _, r, e, _⟩ => by rw [r.length]; exact len e) fun cdv A outer s H vs Q E hr hsp => ?_
  obtain ⟨ξ, ι, S, ds, d, S', st, r, e, k⟩ := hsp
  refine ⟨_, PSs.nox (h cdv A outer s H E hr), ?_⟩
  unfold bodyN at e
  rw [if_pos (len e)] at e
  cases q : b (env0 N.length ds) S with
  | none => rw [q] at e; cases e
  | some z =>
    obtain ⟨o, ρ', S1⟩ := z
    rw [q] at e
    refine tS.run st (start_rep r) q ?_
    cases o with
    | nx =>
      cases e
      exact fun σ' H' ι' z st' _ => k .non H' ι' z st' rfl
    | rt d' =>
      cases e
      exact k
    | bk => cases e
    | ct => cases e
end

/-! ### a law's own end -/
def spLaw (K : Frag) : Sp := fun vs H Q _ => ∃ (a : Addr) (ns : List Int), vs = [.ref a] ∧ SqL K H a (ns.map V.int) ∧ ns.length ≤ 63 ∧ ∀ H', Q (.bl true) H'
theorem law_imp {P : Program} {w : World} {K : Frag} {mg : Str → Option Value} {base : Heap} {k : Nat} {f : Addr} {fd : FuncData} {F : FP} (h : FnG P w K mg base CX0 k f fd ["script"] (spP K F)) (t : ∀ ns : List Int, ns.length ≤ 63 → F [.rl (ns.map D.int)] = some (.bl true)) : FnG P w K mg base CX0 k f fd ["script"] (spLaw K) := by
  have go : ∀ vs H Q E, spLaw K vs H Q E → spP K F vs H Q E := by
    rintro vs H Q E ⟨a, ns, rfl, hS, hl, q⟩
    refine ⟨[], [.rl (ns.map D.int)], .bl true, fun a ha => (by cases ha), ⟨_, _, rfl, ⟨a, ns.map V.int, rfl, ?_, RepL.ints.mpr rfl⟩, rfl⟩, t ns hl, fun v H' _ r => ?_⟩
    · rcases hS with hS | hS
      · exact .inl ⟨hS, by simp, by simp⟩
      · exact .inr fun _ => .inr hS
    · rw [show v = .bl true from r]
      exact q H'
  exact ⟨fun vs H Q E z => h.len vs H Q E (go vs H Q E z), fun A outer s H args us vs Q E hr e0 hb r z => h.run A outer s H args us vs Q E hr e0 hb r (go vs H Q E z)⟩
theorem lawG {P : Program} {w : World} {K : Frag} {mg mb : Str → Option Value} {k : Nat} {fa a : Addr} {fd : FuncData} {s₁ : Shared} {vs : List Value} {ns : List Int}
    (KX : K.In s₁.heap) (hns : s₁.heap.Ns mainGlobals mg) (hb : s₁.heap.Ns builtinsNs mb) (hbb : ∀ x : Str, x ≠ "__name__" → mb x = bootBuiltins x) (hlim : s₁.heap.NoLimit) (hg : s₁.gens = #[])
    (ha : s₁.heap.get? a = some { cls := .type "list", data := .seq vs.toArray }) (hi : IntsAre vs ns) (hl : ns.length ≤ 63) (hr : RoomG k callerA)
    (F : ∀ base : Heap, K.In base → base.Ns mainGlobals mg → FnG P w K mg base CX0 k fa fd ["script"] (spLaw K)) (hbind : ∀ (s : Shared) (u : Value), BindsTo s fd ⟨[u], []⟩ [("script", u)]) :
    codeAny (model P w) callerA (.call (.ref fa) ⟨[.ref a], []⟩) (fun r s' => r = .ok (.ret (.bool true)) ∧ OldK s₁.heap s'.heap ∧ s'.os = s₁.os ∧ AllBare s'.gens) s₁ := by
  have rv := vals_ints hi
  have lenV := hi.length
  have hl' : ns.length ≤ sizeLine := Nat.le_trans hl (by decide)
  -- the abstract heap knows the script at most
  suffices core : ∀ H : Hp, Only H → SqL K H a (ns.map V.int) → HOk P w H s₁.heap → (∀ b u, H b = some u → b = a ∧ K.lookup a = none) →
      codeAny (model P w) callerA (.call (.ref fa) ⟨[.ref a], []⟩) (fun r s' => r = .ok (.ret (.bool true)) ∧ OldK s₁.heap s'.heap ∧ s'.os = s₁.os ∧ AllBare s'.gens) s₁ by
    cases hk : K.lookup a with
    | some o =>
      have e := KX a o hk
      rw [ha] at e
      cases e
      exact core (fun _ => none) (fun _ => .inl rfl) (.inr ⟨_, vs.toArray, _, hk, rfl, rfl, rfl, by rw [List.size_toArray, lenV]; exact hl', by simpa using rv⟩) (fun b u z => nomatch z) fun b u z => nomatch z
    | none =>
      have at_ : ∀ {b : Addr} {u : HO}, (if b = a then some (HO.frz { cls := .type "list", data := .seq vs.toArray } (.lst (ns.map V.int))) else none) = some u → b = a ∧ u = HO.frz { cls := .type "list", data := .seq vs.toArray } (.lst (ns.map V.int)) := fun {b u} z => by
        split at z
        · rename_i hb
          exact ⟨hb, (Option.some.inj z).symm⟩
        · cases z
      refine core (fun b => if b = a then some (.frz { cls := .type "list", data := .seq vs.toArray } (.lst (ns.map V.int))) else none) (fun b => ?_) (.inl (.inr ⟨{ cls := .type "list", data := .seq vs.toArray }, if_pos rfl⟩)) (fun b u z => ?_) fun b u z => ⟨(at_ z).1, hk⟩
      · by_cases hb : b = a
        · exact .inr ⟨_, _, if_pos hb⟩
        · exact .inl (if_neg hb)
      · obtain ⟨rfl, rfl⟩ := at_ z
        exact ⟨ha, by rw [List.length_map]; exact hl', vs, _, rv, ha⟩
  intro H hO hS hok hA
  have out : ∀ {b : Addr} {o : Obj}, s₁.heap.get? b = some o → H b = none → (hidT s₁.heap H).get? b = some o := fun e n => hidT_get e n
  have free : ∀ {b : Addr}, (b = a → K.lookup a = none → False) → H b = none := fun {b} h => by
    cases q : H b with
    | none => rfl
    | some u => exact (h (hA b u q).1 (hA b u q).2).elim
  have nsK : ∀ {b : Addr} {m : Str → Option Value}, s₁.heap.Ns b m → (hidT s₁.heap H).Ns b m := fun {b m} ⟨o, es, ep, e, d, r⟩ => ⟨o, es, ep, out e (free fun z _ => by
    subst z
    rw [ha] at e
    cases e
    cases d), d, r⟩
  have kin : K.In (hidT s₁.heap H) := fun b o e => out (KX b o e) (free fun z hk => by rw [z, hk] at e; cases e)
  have e0 : Env0 P w K mg (hidT s₁.heap H) callerA [] s₁ H := ⟨rfl, ⟨kin, nsK hns, ⟨mb, nsK hb, hbb⟩, let ⟨mc, h1, h2⟩ := hlim; ⟨mc, nsK h1, h2⟩⟩, fun b o e => of_hidT e, Nat.le_of_eq (hidT_size _ _), trivial, fun b hb => absurd (show b ∈ ([] : List Addr) from hb) (by simp), hok, .of_eq hg⟩
  refine codeAny_mono ((F _ kin (nsK hns)).run callerA [] s₁ H ⟨[.ref a], []⟩ [.ref a] [.ref a] (fun v _ => v = .bl true) (fun _ _ _ => False) hr e0 (hbind s₁ (.ref a)) (.cons rfl .nil) ⟨a, ns, rfl, hS, hl, fun _ => rfl⟩) fun r s' h => ?_
  match r, h with
  | .error e, h => exact h.elim
  | .ok .next, h => exact False.elim h
  | .ok .brk, h => exact False.elim h
  | .ok .cont, h => exact False.elim h
  | .ok (.ret u), ⟨v, H', os, bare, un, hok', r', q⟩ =>
    obtain rfl : v = .bl true := q
    obtain rfl : u = Value.bool true := r'
    refine ⟨rfl, OldK.of_keep fun b o e => ?_, os, bare⟩
    rcases hO b with z | ⟨ob, xs, z⟩
    · exact un.keep b o e z (by intro z; exact absurd (show b ∈ ([] : List Addr) from z) (by simp)) (by simp)
    · obtain ⟨e1, _⟩ := hok b _ z
      obtain ⟨e2, _⟩ := hok' b _ (un.frzs b ob _ z)
      rw [e] at e1
      cases e1
      exact e2
theorem walkG {l : PySem.W.OpenLaw} {k : Nat} {q : Program} {loose : List Str} {XP : (Str → Option Value) → Heap → Prop} {YP : World → Heap → Prop} {d : DefRec}
    (hn : l.most = some 63) (hdf : d.params.defaults = []) (hr : RoomG k callerA)
    (F : ∀ (w : World) (mg : Str → Option Value) (fa : Addr) (h : Heap), YP w h → h.Ns mainGlobals mg → mg d.name = some (.ref fa) →
      ∃ (K : Frag) (fd : FuncData), K.In h ∧ (∀ (s : Shared) (u : Value), BindsTo s fd ⟨[u], []⟩ [("script", u)]) ∧
        ∀ base : Heap, K.In base → base.Ns mainGlobals mg → FnG l.prog w K mg base CX0 k fa fd ["script"] (spLaw K)) :
    PySem.W.WalkO q loose XP YP l.row.toRowW d [] (fun f vs => PySem.call f vs) := by
  refine Att.attach_call hn hdf fun w s₀ s₁ mg mb fa o pm cd doc a vs ns G Y ho hd hcd hmg hobj hints hlen hg => ?_
  obtain ⟨K, fd, KX, hb, hF⟩ := F w mg fa _ Y G.T.g hmg
  exact lawG KX G.T.g G.T.b G.T.builtins G.T.nolimit hg hobj hints hlen hr hF hb
end MS

namespace MS
open PySem PySem.Spec PyProof.Rows L2
section
variable {X : Cx}
/-! ### [elt for tg in iter if ..] -/
theorem me_lc {elt tg iter : Expr} {ifs : List Expr} {scope : Scope} {own : List (Str × Nat)} {pos : Pos} {fi : IDen} {g : NDen} {t : TDen} {b : EDen} {ws : List Nat} (hc : X.calm = true) (hN : X.N.Nodup) (hw : ∀ i ∈ ws, i ∈ own.map (·.2)) (hi : MI X tg iter fi) (ok : BlkOk X.N X.env.scope scope own)
    (hg : ∀ (s : Shared) (H : Hp) (C : Addr) (cl : List (Str × Addr)) (fp : List Addr), MN (X.blk s H scope (compEnvC scope cl C X.env) fp) tg ws g) (ht : ∀ (s : Shared) (H : Hp) (C : Addr) (cl : List (Str × Addr)) (fp : List Addr), MTs (X.blk s H scope (compEnvC scope cl C X.env) fp) ifs t)
    (he : ∀ (s : Shared) (H : Hp) (C : Addr) (cl : List (Str × Addr)) (fp : List Addr), ME (X.blk s H scope (compEnvC scope cl C X.env) fp) elt b) (hs : ∀ x, foldedSetIterable iter X.env x = pure x := by intro _; rfl) :
    ME X (.ListComp elt [⟨tg, iter, ifs, 0⟩] scope pos) (dLc fi g t b (own.map (·.2))) := (pe_lc hc hN hi ok hg ht he hs).weak fun _ _ _ h => lc_fl hw h
theorem me_lcC {elt tg iter : Expr} {ifs : List Expr} {scope : Scope} {own : List (Str × Nat)} {pos : Pos} {fi : IDen} {g : NDen} {t : TDen} {b : EDen} {ws : List Nat} (hc : X.calm = true) (hN : X.N.Nodup) (hw : ∀ i ∈ ws, i ∈ own.map (·.2)) (hi : MI X tg iter fi) (ok : BlkOk X.N X.env.scope scope own)
    (hg : ∀ (s : Shared) (H : Hp) (C : Addr) (cl : List (Str × Addr)) (fp : List Addr), MN (X.blk s H scope (compEnvC scope cl C X.env) fp) tg ws g) (ht : ∀ (s : Shared) (H : Hp) (C : Addr) (cl : List (Str × Addr)) (fp : List Addr), MTs (X.blk s H scope (compEnvC scope cl C X.env) fp) ifs t)
    (he : ∀ (s : Shared) (H : Hp) (C : Addr) (cl : List (Str × Addr)) (fp : List Addr), ME (X.blk s H scope (compEnvC scope cl C X.env) fp) elt b) (hs : ∀ x, foldedSetIterable iter X.env x = pure x := by intro _; rfl) :
    ME X (.ListComp elt [⟨tg, iter, ifs, 0⟩] scope pos) (dLcC fi g t b (own.map (·.2))) := (pe_lc hc hN hi ok hg ht he hs).weak fun _ _ _ h => lc_cell hw h
theorem setLc_of {K : Frag} {te : TE} {f : EDen} {i : Nat} {T : Ends} {σ : L2.St} {H : Hp} (hw : ∀ σ H Q, tE K f σ H Q → te σ H Q) (h : tS K (sAsg f (gN i)) T σ H) : tAsg te (gName i) T σ H := by
  obtain ⟨ξ, ι, ρ, S, o, ρ', S', st, re, e, k⟩ := h
  obtain ⟨d, S1, e1, e⟩ := bnd_some e
  cases e
  refine hw σ H _ (tE.run st re e1 fun v H' ι' s' st' rv => ?_)
  exact k _ H' ι' s' st' ((s'.env re).set rv)
theorem ms_setLc {i : Nat} {y : Str} {py : Pos} {elt tg iter : Expr} {ifs : List Expr} {scope : Scope} {own : List (Str × Nat)} {pos spos : Pos} {fi : IDen} {g : NDen} {t : TDen} {b : EDen} {ws : List Nat} (hc : X.calm = true) (hN : X.N.Nodup) (hy : X.N[i]? = some y) (hyl : X.env.scope.names.lookup y = some .local)
    (hsw : swapsWith (.ListComp elt [⟨tg, iter, ifs, 0⟩] scope pos) (some (.Name y py)) spos.line X.env = pure true) (hw : ∀ i ∈ ws, i ∈ own.map (·.2)) (hi : MI X tg iter fi) (ok : BlkOk X.N X.env.scope scope own)
    (hg : ∀ (s : Shared) (H : Hp) (C : Addr) (cl : List (Str × Addr)) (fp : List Addr), MN (X.blk s H scope (compEnvC scope cl C X.env) fp) tg ws g) (ht : ∀ (s : Shared) (H : Hp) (C : Addr) (cl : List (Str × Addr)) (fp : List Addr), MTs (X.blk s H scope (compEnvC scope cl C X.env) fp) ifs t)
    (he : ∀ (s : Shared) (H : Hp) (C : Addr) (cl : List (Str × Addr)) (fp : List Addr), ME (X.blk s H scope (compEnvC scope cl C X.env) fp) elt b) (hs : ∀ x, foldedSetIterable iter X.env x = pure x := by intro _; rfl) :
    MS X (.Assign [.Name y py] (.ListComp elt [⟨tg, iter, ifs, 0⟩] scope pos) spos) (sAsg (dLc fi g t b (own.map (·.2))) (gN i)) := (ps_setLc hc hN hy hyl hsw hi ok hg ht he hs).weak fun _ _ _ h => setLc_of (fun _ _ _ h => lc_fl hw h) h
theorem ms_setLcC {i : Nat} {y : Str} {py : Pos} {elt tg iter : Expr} {ifs : List Expr} {scope : Scope} {own : List (Str × Nat)} {pos spos : Pos} {fi : IDen} {g : NDen} {t : TDen} {b : EDen} {ws : List Nat} (hc : X.calm = true) (hN : X.N.Nodup) (hy : X.N[i]? = some y) (hyl : X.env.scope.names.lookup y = some .local)
    (hsw : swapsWith (.ListComp elt [⟨tg, iter, ifs, 0⟩] scope pos) (some (.Name y py)) spos.line X.env = pure true) (hw : ∀ i ∈ ws, i ∈ own.map (·.2)) (hi : MI X tg iter fi) (ok : BlkOk X.N X.env.scope scope own)
    (hg : ∀ (s : Shared) (H : Hp) (C : Addr) (cl : List (Str × Addr)) (fp : List Addr), MN (X.blk s H scope (compEnvC scope cl C X.env) fp) tg ws g) (ht : ∀ (s : Shared) (H : Hp) (C : Addr) (cl : List (Str × Addr)) (fp : List Addr), MTs (X.blk s H scope (compEnvC scope cl C X.env) fp) ifs t)
    (he : ∀ (s : Shared) (H : Hp) (C : Addr) (cl : List (Str × Addr)) (fp : List Addr), ME (X.blk s H scope (compEnvC scope cl C X.env) fp) elt b) (hs : ∀ x, foldedSetIterable iter X.env x = pure x := by intro _; rfl) :
    MS X (.Assign [.Name y py] (.ListComp elt [⟨tg, iter, ifs, 0⟩] scope pos) spos) (sAsg (dLcC fi g t b (own.map (·.2))) (gN i)) := (ps_setLc hc hN hy hyl hsw hi ok hg ht he hs).weak fun _ _ _ h => setLc_of (fun _ _ _ h => lc_cell hw h) h
end
section
variable {X : Cx} {K : Frag}
/-! ### a * b -/
def rMulA (K : Frag) : R2 := fun x y H Q => rI CMulA (fun i j => .int (i * j)) x y H Q ∨ (fun x y H Q => rRep x y H Q ∨ rRepT K x y H Q) x y H Q
theorem o_mul : OpR X (binaryOp .Mult) (rMulA X.K) := o_mulI.or (op_rep.or op_repT)
theorem RepL.rep {H : Hp} {ξ ι : List Addr} {ds : List D} {vs : List V} (r : RepL K H ξ ι ds vs) : ∀ n : Nat, RepL K H ξ ι (List.replicate n ds).flatten (List.replicate n vs).flatten
  | 0 => rfl
  | n + 1 => by
    rw [List.replicate_succ, List.flatten_cons, List.replicate_succ, List.flatten_cons]
    exact r.append (RepL.rep r n)

theorem m_mul : MOp K (rMulA K) gMul := by
  intro H ξ ι S S' x y d v w Q st rx ry e k
  have lst : ∀ {z : D} {j : Int}, RepV K H ξ ι z v → y = .int j → (mlistOf S z).bind (fun a => if -(2 ^ 63) ≤ j ∧ j < 2 ^ 63 ∧ a.length * j.toNat ≤ sizeLine then some (D.fl (List.replicate j.toNat a).flatten, S) else none) = some (d, S') → rMulA K v w H Q := fun {z j} rz hy e0 => by
    subst hy
    obtain rfl : w = .int j := ry
    cases q : mlistOf S z with
    | none => rw [q] at e0; cases e0
    | some a =>
      rw [q] at e0
      have e : (if -(2 ^ 63) ≤ j ∧ j < 2 ^ 63 ∧ a.length * j.toNat ≤ sizeLine then some (D.fl (List.replicate j.toNat a).flatten, S) else none) = some (d, S') := e0
      split at e
      · rename_i hz
        cases e
        obtain ⟨p, vs, rfl, h2, h3⟩ := mlistOf_ok st rz q
        exact .inr (.inl ⟨p, j, vs, rfl, rfl, h2, hz.1, hz.2.1, by rw [h3.length]; exact hz.2.2, fun l hl => k.fl st (h3.rep _) hl⟩)
      · cases e
  unfold gMul at e
  split at e
  · rename_i i j
    obtain rfl : v = .int i := rx
    obtain rfl : w = .int j := ry
    split at e
    · rename_i hm
      cases e
      exact .inl ⟨i, j, rfl, rfl, hm, k.here st rfl⟩
    · cases e
  · rename_i a j
    obtain rfl : w = .int j := ry
    split at e
    · rename_i hm
      cases e
      obtain ⟨p, vs, rfl, h2, h3⟩ := rx
      refine .inr (.inr ⟨p, j, vs, rfl, rfl, h2.sq, fun z => hm.2.2.1 (List.eq_nil_of_length_eq_zero (by rw [← h3.length, z]; rfl)), hm.1, hm.2.1, by rw [h3.length]; exact hm.2.2.2, fun l hl => k.tup st (h3.rep _) hl⟩)
    · split at e <;> cases e
  · exact lst rx rfl e
  · cases e
/-- list * int, a cell -/
def gMulC : Op2 := fun x y S => match y with
  | .int k => (mlistOf S x).bind fun a => if -(2 ^ 63) ≤ k ∧ k < 2 ^ 63 ∧ a.length * k.toNat ≤ sizeLine ∧ D.fitL S.length a = true then some (.ref S.length, S ++ [.lst (List.replicate k.toNat a).flatten]) else none
  | _ => none
/-! ### sorted -/
section
variable {α : Type}
def ins (le : α → α → Bool) (x : α) : List α → List α
  | [] => [x]
  | y :: l => if le x y = true then x :: y :: l else y :: ins le x l
def isort (le : α → α → Bool) : List α → List α
  | [] => []
  | x :: l => ins le x (isort le l)
theorem ins_perm (le : α → α → Bool) (x : α) : ∀ l : List α, (ins le x l).Perm (x :: l)
  | [] => List.Perm.refl _
  | y :: l => by
    unfold ins
    split
    · exact List.Perm.refl _
    · exact ((ins_perm le x l).cons y).trans (List.Perm.swap x y l)
theorem isort_perm (le : α → α → Bool) : ∀ l : List α, (isort le l).Perm l
  | [] => List.Perm.refl _
  | x :: l => (ins_perm le x _).trans ((isort_perm le l).cons x)
theorem ins_pw {le : α → α → Bool} (tot : ∀ a b, le a b = true ∨ le b a = true) (tr : ∀ a b c, le a b = true → le b c = true → le a c = true) (x : α) : ∀ {l : List α}, l.Pairwise (fun a b => le a b = true) → (ins le x l).Pairwise (fun a b => le a b = true)
  | [], _ => List.pairwise_singleton _ _
  | y :: l, h => by
    obtain ⟨h1, h2⟩ := List.pairwise_cons.mp h
    unfold ins
    split
    · rename_i hx
      exact List.pairwise_cons.mpr ⟨fun z hz => (List.mem_cons.mp hz).elim (fun e => by rw [e]; exact hx) (fun m => tr _ _ _ hx (h1 z m)), h⟩
    · rename_i hx
      refine List.pairwise_cons.mpr ⟨fun z hz => ?_, ins_pw tot tr x h2⟩
      rcases List.mem_cons.mp ((ins_perm le x l).mem_iff.mp hz) with rfl | m
      · exact (tot z y).resolve_left hx
      · exact h1 z m
theorem isort_pw {le : α → α → Bool} (tot : ∀ a b, le a b = true ∨ le b a = true) (tr : ∀ a b c, le a b = true → le b c = true → le a c = true) : ∀ l : List α, (isort le l).Pairwise (fun a b => le a b = true)
  | [] => List.Pairwise.nil
  | x :: l => ins_pw tot tr x (isort_pw tot tr l)
theorem isort_eq {le : α → α → Bool} (tot : ∀ a b, le a b = true ∨ le b a = true) (tr : ∀ a b c, le a b = true → le b c = true → le a c = true) (anti : ∀ a b, le a b = true → le b a = true → a = b) {l m : List α} (p : m.Perm l) (h : m.Pairwise fun a b => le a b = true) : m = isort le l :=
  List.Perm.eq_of_pairwise (le := fun a b => le a b = true) (fun a b _ _ h1 h2 => anti a b h1 h2) h (isort_pw tot tr l) (p.trans (isort_perm le l).symm)
end
def leI (a b : Int) : Bool := decide (a ≤ b)
def leP (a b : Int × Int) : Bool := decide (a.1 < b.1) || (decide (a.1 = b.1) && decide (a.2 ≤ b.2))
theorem sortI_eq {l m : List Int} (p : m.Perm l) (h : m.Pairwise (· ≤ ·)) : m = isort leI l :=
  isort_eq (fun a b => by simp only [leI, decide_eq_true_eq]; omega) (fun a b c => by simp only [leI, decide_eq_true_eq]; omega) (fun a b => by simp only [leI, decide_eq_true_eq]; omega) p (h.imp fun {a b} z => decide_eq_true z)
theorem leP_iff {a b : Int × Int} : leP a b = true ↔ a.1 < b.1 ∨ (a.1 = b.1 ∧ a.2 ≤ b.2) := by simp [leP]
theorem sortP_eq {l m : List (Int × Int)} (p : m.Perm l) (h : m.Pairwise fun a b => leP a b = true) : m = isort leP l :=
  isort_eq (fun a b => by simp only [leP_iff]; omega) (fun a b c => by simp only [leP_iff]; omega) (fun a b => by simp only [leP_iff]; intro h1 h2; exact Prod.ext (by omega) (by omega)) p h
def pairsOf : List D → Option (List (Int × Int))
  | [] => some []
  | .tup [.int i, .int j] :: r => (pairsOf r).map fun ns => (i, j) :: ns
  | _ => none
def dPair (p : Int × Int) : D := .tup [.int p.1, .int p.2]
theorem pairsOf_eq : ∀ {ds : List D} {ns : List (Int × Int)}, pairsOf ds = some ns → ds = ns.map dPair
  | [], ns, e => by cases e; rfl
  | .tup [.int i, .int j] :: r, ns, e => by
    have e : (pairsOf r).map (fun ns => (i, j) :: ns) = some ns := e
    cases q : pairsOf r with
    | none => rw [q] at e; cases e
    | some ms =>
      rw [q] at e
      cases e
      rw [pairsOf_eq q]
      rfl
theorem pairsOf_map : ∀ ns : List (Int × Int), pairsOf (ns.map dPair) = some ns
  | [] => rfl
  | (i, j) :: r => by
    show (pairsOf (r.map dPair)).map (fun ns => (i, j) :: ns) = _
    rw [pairsOf_map r]
    rfl
def keyP (H : Hp) : V → Int × Int
  | .ref t => match H t with
    | some (.tup [.int i, .int j]) => (i, j)
    | _ => (0, 0)
  | _ => (0, 0)
theorem dPair_key {H : Hp} {ξ ι : List Addr} {p : Int × Int} {v : V} (r : RepV K H ξ ι (dPair p) v) : ∃ t, v = .ref t ∧ H t = some (.tup [.int p.1, .int p.2]) ∧ keyP H v = p := by
  obtain ⟨a, vs, rfl, h1, h2⟩ := r
  obtain ⟨v1, r1, rfl, h3, v2, r2, rfl, h4, h5⟩ := h2
  obtain rfl : v1 = .int p.1 := h3
  obtain rfl : v2 = .int p.2 := h4
  obtain rfl : r2 = [] := h5
  refine ⟨a, rfl, h1.1, ?_⟩
  show (match H a with
    | some (.tup [.int i, .int j]) => (i, j)
    | _ => (0, 0)) = p
  rw [h1.1]
theorem RepL.mem {H : Hp} {ξ ι : List Addr} : ∀ {ds : List D} {vs : List V}, RepL K H ξ ι ds vs → ∀ v ∈ vs, ∃ d ∈ ds, RepV K H ξ ι d v
  | [], vs, r, v, h => by rw [show vs = [] from r] at h; cases h
  | d :: ds, vs, ⟨v0, t, e, h1, h2⟩, v, h => by
    subst e
    rcases List.mem_cons.mp h with rfl | h
    · exact ⟨d, List.mem_cons_self, h1⟩
    · obtain ⟨d', m, r⟩ := RepL.mem h2 v h
      exact ⟨d', List.mem_cons_of_mem _ m, r⟩
theorem keys_map {H : Hp} {ξ ι : List Addr} : ∀ {ps : List (Int × Int)} {vs : List V}, RepL K H ξ ι (ps.map dPair) vs → vs.map (keyP H) = ps
  | [], vs, r => by rw [show vs = [] from r]; rfl
  | p :: ps, vs, ⟨v0, t, e, h1, h2⟩ => by
    subst e
    rw [List.map_cons, keys_map h2]
    obtain ⟨_, _, _, h⟩ := dPair_key h1
    rw [h]
theorem rep_keys {H : Hp} {ξ ι : List Addr} : ∀ {vs : List V}, (∀ v ∈ vs, RepV K H ξ ι (dPair (keyP H v)) v) → RepL K H ξ ι ((vs.map (keyP H)).map dPair) vs
  | [], _ => rfl
  | v :: vs, h => ⟨v, vs, rfl, h v List.mem_cons_self, rep_keys fun v' m => h v' (List.mem_cons_of_mem _ m)⟩
def sortedD (es : List D) : Option (List D) := match intsOf es with
  | some ns => some ((isort leI ns).map .int)
  | none => (pairsOf es).map fun ps => (isort leP ps).map dPair
def cSorted : CDen := fun ds S => match ds with
  | [d] => (listOf S d).bind fun es => (sortedD es).map fun es' => (.fl es', S)
  | _ => none
def rSortA (K : Frag) : List V → Hp → VK → Prop := fun xs H Q => rSortedI K xs H Q ∨ rSortedPO K xs H Q
theorem _root_.L2.CallR.or' {f : Value} {r r' : List V → Hp → VK → Prop} (h : CallR X f r) (h' : CallR X f r') : CallR X f (fun xs H Q => r xs H Q ∨ r' xs H Q) := h.or h'
theorem c_sorted : CallR X (.builtin "sorted") (rSortA X.K) := cr_sortedI.or cr_sortedPO
theorem mc_sorted : MCall K (rSortA K) cSorted := by
  intro H ξ ι S S' ds d vs Q st r e k
  unfold cSorted at e
  split at e
  · rename_i x
    cases q : listOf S x with
    | none => rw [q] at e; cases e
    | some es =>
      rw [q] at e
      have e : (sortedD es).map (fun es' => (D.fl es', S)) = some (d, S') := e
      obtain ⟨v, rfl, h⟩ := RepL.one' r
      obtain ⟨a, ys, rfl, h2, h3⟩ := listOf_ok st h q
      unfold sortedD at e
      split at e
      · rename_i ns q2
        cases e
        rw [intsOf_eq q2] at h3
        rw [RepL.ints.mp h3] at h2
        refine .inl ⟨a, ns, rfl, h2, fun ns' p hp hs hl => ?_⟩
        rw [← sortI_eq hp hs] at k
        exact k.fl st (RepL.ints.mpr rfl) hl
      · cases q3 : pairsOf es with
        | none => rw [q3] at e; cases e
        | some ps =>
          rw [q3] at e
          cases e
          rw [pairsOf_eq q3] at h3
          refine .inr ⟨a, ys, keyP H, rfl, h2, fun y hy => ?_, fun zs p hs hb hl => ?_⟩
          · obtain ⟨d', m, r'⟩ := h3.mem y hy
            obtain ⟨pp, _, rfl⟩ := List.mem_map.mp m
            obtain ⟨t, e1, e2, e3⟩ := dPair_key r'
            exact ⟨t, e1, by rw [e3]; exact e2⟩
          · have hk : zs.map (keyP H) = isort leP ps := by
              rw [← keys_map h3] 
              refine sortP_eq (hb.perm.map _) (List.pairwise_map.mpr (hs.imp fun {x y} h => ?_))
              have := SrtO.lexB_no.mp h
              rw [leP_iff]
              omega
            have k : Ans K ξ ι H S (D.fl (List.map dPair (isort leP ps))) Q := k
            rw [← hk] at k
            refine k.fl st (rep_keys fun v hv => ?_) hl
            obtain ⟨d', m, r'⟩ := h3.mem v (hb.perm.mem_iff.mp hv)
            obtain ⟨pp, _, rfl⟩ := List.mem_map.mp m
            obtain ⟨t, e1, e2, e3⟩ := dPair_key r'
            rw [e3]
            exact r'
  · cases e
end
theorem blk_mk {N : List Str} {sc scope : Scope} {own : List (Str × Nat)} (N0 : List Str) (S0 : Scope) (e1 : N = N0) (e2 : sc = S0) (h1 : scope.kind = .function) (h2 : ∀ y ∈ scope.names, scope.names.lookup y.1 = some y.2) (h3 : ∀ p ∈ own, N0[p.2]? = some p.1)
    (h4 : ∀ y ∈ scope.names, y.2 = .free → S0.names.lookup y.1 = some .cell ∨ S0.names.lookup y.1 = some .free) (h5 : ∀ y ∈ scope.names, y.2 = .local ∨ y.2 = .cell → y.1 ∈ own.map (·.1) ∨ y.1 ∉ N0) : BlkOk N sc scope own := by
  subst e1 e2
  exact ⟨h1, h2, h3, h4, h5⟩
/-! ### == of plain values; of data -/
section
variable {X : Cx} {K : Frag}
def gCmpA (neg : Bool) : Op2 := fun x y S => match x, y with
  | .int i, .int j => some (.bl (if neg then !decide (i = j) else decide (i = j)), S)
  | .str i, .str j => some (.bl (if neg then !decide (i = j) else decide (i = j)), S)
  | .bl i, .bl j => some (.bl (if neg then !decide (i = j) else decide (i = j)), S)
  | x, y => gCmpD neg x y S
def gEqA : Op2 := gCmpA false
def gNeA : Op2 := gCmpA true
def rEqA (K : Frag) : R2 := fun x y H Q => rEq x y H Q ∨ rEqD K x y H Q
def rNeA (K : Frag) : R2 := fun x y H Q => rNe x y H Q ∨ rNeD K x y H Q
theorem o_eqA (hu : X.A.units + 64 < cLine) : OpR X (compareOp .Eq) (rEqA X.K) := op_eq.or (op_eqD hu)
theorem o_neA (hu : X.A.units + 64 < cLine) : OpR X (compareOp .NotEq) (rNeA X.K) := op_ne.or (op_neD hu)
theorem m_eqA : MOp K (rEqA K) gEqA := by
  intro H ξ ι S S' x y d v w Q st rx ry e k
  unfold gEqA gCmpA at e
  split at e
  · cases e
    obtain rfl : v = .int _ := rx
    obtain rfl : w = .int _ := ry
    refine .inl ⟨rfl, ?_⟩
    have e : ∀ i j : Int, decide (V.int i = V.int j) = decide (i = j) := fun i j => by simp
    rw [e]
    exact k.here st rfl
  · cases e
    obtain rfl : v = .str _ := rx
    obtain rfl : w = .str _ := ry
    refine .inl ⟨rfl, ?_⟩
    have e : ∀ i j : Str, decide (V.str i = V.str j) = decide (i = j) := fun i j => by simp
    rw [e]
    exact k.here st rfl
  · cases e
    obtain rfl : v = .bl _ := rx
    obtain rfl : w = .bl _ := ry
    refine .inl ⟨rfl, ?_⟩
    have e : ∀ i j : Bool, decide (V.bl i = V.bl j) = decide (i = j) := fun i j => by simp
    rw [e]
    exact k.here st rfl
  · exact .inr (m_eq H ξ ι S S' x y d v w Q st rx ry e k)
theorem m_neA : MOp K (rNeA K) gNeA := by
  intro H ξ ι S S' x y d v w Q st rx ry e k
  unfold gNeA gCmpA at e
  split at e
  · cases e
    obtain rfl : v = .int _ := rx
    obtain rfl : w = .int _ := ry
    refine .inl ⟨rfl, ?_⟩
    have e : ∀ i j : Int, decide (V.int i = V.int j) = decide (i = j) := fun i j => by simp
    rw [e]
    exact k.here st rfl
  · cases e
    obtain rfl : v = .str _ := rx
    obtain rfl : w = .str _ := ry
    refine .inl ⟨rfl, ?_⟩
    have e : ∀ i j : Str, decide (V.str i = V.str j) = decide (i = j) := fun i j => by simp
    rw [e]
    exact k.here st rfl
  · cases e
    obtain rfl : v = .bl _ := rx
    obtain rfl : w = .bl _ := ry
    refine .inl ⟨rfl, ?_⟩
    have e : ∀ i j : Bool, decide (V.bl i = V.bl j) = decide (i = j) := fun i j => by simp
    rw [e]
    exact k.here st rfl
  · exact .inr (m_ne H ξ ι S S' x y d v w Q st rx ry e k)
end
end MS

/-! MS: zip of two or three, enumerate, of lists and tuples in any mix; stars in displays -/
namespace MS
open PySem PySem.Spec PyProof.Rows L2
/-! ### lists and tuples alike -/
def SqK (K : Frag) (H : Hp) : Bool → Addr → List V → Prop
  | true => SqT K H
  | false => SqL K H
def IterK (h : Heap) : Bool → Addr → Addr → Nat → Prop
  | true => h.IsTupleIter
  | false => h.IsListIter
def IsK (h : Heap) : Bool → Addr → Array Value → Prop
  | true => h.IsTuple
  | false => h.IsList
def objK : Bool → Addr → Obj
  | true, a => { cls := .type "tuple_iterator", data := .fields #[.ref a, .int 0 0] }
  | false, a => { cls := .type "list_iterator", data := .fields #[.ref a, .int 0 0] }
theorem begK : ∀ (k : Bool) (a : Addr) (its : Array Value), Begins (.ref a) (objK k a) fun h => IsK h k a its
  | true, a, its => begins_tuple a its
  | false, a, its => begins_list a its
theorem drawK {prog : Program} {w : World} {A : Around} (hh : A.handled = none) : ∀ (k : Bool) (it a : Addr) (hne : a ≠ it) (its : Array Value), Draws prog w A it [it, a] its.size (fun i v => its[i]? = some v) (fun i h => IterK h k it a i ∧ IsK h k a its)
  | true, it, a, hne, its => Draws.tuple hh it a hne its
  | false, it, a, hne, its => Draws.list hh it a hne its
theorem iterK0 {h : Heap} : ∀ {k : Bool} {it a : Addr}, h.get? it = some (objK k a) → IterK h k it a 0
  | true, it, a, e => ⟨_, e, rfl, rfl⟩
  | false, it, a, e => ⟨_, e, rfl, rfl⟩
theorem iterK_at {h h' : Heap} : ∀ {k : Bool} {it a : Addr} {i : Nat}, IterK h k it a i → (∀ o, h.get? it = some o → h'.get? it = some o) → IterK h' k it a i
  | true, it, a, i, st, hk => (show h.IsTupleIter it a i from st).at hk
  | false, it, a, i, st, hk => (show h.IsListIter it a i from st).at hk
theorem iterK_obj {h : Heap} : ∀ {k : Bool} {it a : Addr} {i : Nat}, IterK h k it a i → ∃ o, h.get? it = some o ∧ ∀ v, o.data ≠ .cell v
  | true, it, a, i, ⟨o, e, _, d⟩ => ⟨o, e, fun v q => by rw [d] at q; cases q⟩
  | false, it, a, i, ⟨o, e, _, d⟩ => ⟨o, e, fun v q => by rw [d] at q; cases q⟩
theorem iterK_ne {h : Heap} : ∀ {k : Bool} {it a : Addr} {i : Nat} {k' : Bool} {b : Addr} {its : Array Value}, IterK h k it a i → IsK h k' b its → b ≠ it
  | true, _, _, _, true, _, _, ⟨o, e, c, _⟩, ⟨o', e', c', _⟩ => fun z => by
    rw [z, e] at e'
    cases e'
    rw [c] at c'
    exact absurd c' (by decide)
  | false, _, _, _, true, _, _, ⟨o, e, c, _⟩, ⟨o', e', c', _⟩ => fun z => by
    rw [z, e] at e'
    cases e'
    rw [c] at c'
    exact absurd c' (by decide)
  | true, _, _, _, false, _, _, ⟨o, e, c, _⟩, ⟨o', e', c', _⟩ => fun z => by
    rw [z, e] at e'
    cases e'
    rw [c] at c'
    exact absurd c' (by decide)
  | false, _, _, _, false, _, _, ⟨o, e, c, _⟩, ⟨o', e', c', _⟩ => fun z => by
    rw [z, e] at e'
    cases e'
    rw [c] at c'
    exact absurd c' (by decide)
section
variable {X : Cx} {pins : List (Addr × Obj)} {σ : L2.St} {H : Hp} {s : Shared}
theorem seqK (I : Inv X pins σ H s) : ∀ {k : Bool} {a : Addr} {xs : List V}, SqK X.K H k a xs → ∃ its, Vals xs its ∧ IsK s.heap k a its.toArray ∧ a < s.heap.objs.size
  | true, a, xs, h => by
    obtain ⟨its, rv, p, _⟩ := I.tuple h
    obtain ⟨o, ho, _⟩ := id p
    exact ⟨its, rv, p, Heap.lt_size ho⟩
  | false, a, xs, h => by
    obtain ⟨its, rv, p, _⟩ := I.list h
    exact ⟨its, rv, p.isList, p.lt⟩
theorem seqK_inj (I : Inv X pins σ H s) : ∀ {k : Bool} {a : Addr} {xs ys : List V}, SqK X.K H k a xs → SqK X.K H k a ys → xs = ys
  | true, a, xs, ys, h, h' => I.tuple_inj h h'
  | false, a, xs, ys, h, h' => I.list_inj h h'
end
/-! ### zip(a, b) -/
def ItzG (K : Frag) (j k : Bool) (a b : Addr) : It :=
  ⟨fun i H => ∃ (xs ys : List V) (x y : V), SqK K H j a xs ∧ SqK K H k b ys ∧ xs[i]? = some x ∧ ys[i]? = some y,
    fun i H v H' => ∃ T x y, v = .ref T ∧ H T = none ∧ H' = L2.upd H T (.tup [x, y]) ∧ (∀ xs, SqK K H j a xs → xs[i]? = some x) ∧ ∀ ys, SqK K H k b ys → ys[i]? = some y,
    fun i H => ∃ xs ys : List V, SqK K H j a xs ∧ SqK K H k b ys ∧ i ≤ xs.length ∧ i ≤ ys.length ∧ (i = xs.length ∨ i = ys.length)⟩
theorem turn_zipG {P : Program} {w : World} {K : Frag} {elts : List Expr} {kk : Nat} {tpos : Pos} {j k : Bool} {a b z TI TO i1 i2 : Addr} (D : ZipSep2 z TI TO i1 i2 [i1, a] [i2, b]) :
    Turn P w K (.Tuple elts kk tpos) (ItzG K j k a b) [z, TI, TO, i1, i2] z (fun i h => IsZip h z TI TO .none ∧ IsTupOf2 h TI (.ref i1) (.ref i2) ∧ (∃ x y, IsTupOf2 h TO x y) ∧ IterK h j i1 a i ∧ IterK h k i2 b i) where
  mem := by simp
  obj := fun i h st c hc => by
    obtain ⟨hz, hTI, ⟨x, y, hTO⟩, h1, h2⟩ := st
    have e' : c = z ∨ c = TI ∨ c = TO ∨ c = i1 ∨ c = i2 := by simpa using hc
    rcases e' with q | q | q | q | q
    · rw [q]; exact ⟨_, hz, fun v q => nomatch q⟩
    · rw [q]; exact ⟨_, hTI, fun v q => nomatch q⟩
    · rw [q]; exact ⟨_, hTO, fun v q => nomatch q⟩
    · rw [q]; exact iterK_obj h1
    · rw [q]; exact iterK_obj h2
  keep := fun i h h' st kp => by
    obtain ⟨hz, hTI, ⟨x, y, hTO⟩, h1, h2⟩ := st
    exact ⟨kp z (by simp) _ hz, kp TI (by simp) _ hTI, ⟨x, y, kp TO (by simp) _ hTO⟩, iterK_at h1 fun o q => kp i1 (by simp) o q, iterK_at h2 fun o q => kp i2 (by simp) o q⟩
  item := by
    intro X hP hw hK hc i pins s σ H E I hf st hg
    subst hP hw hK
    obtain ⟨hz, hTI, ⟨x0, y0, hTO⟩, h1, h2⟩ := st
    obtain ⟨xs, ys, x, y, hqx, hqy, hx, hy⟩ := hg
    obtain ⟨its, rv, p, _⟩ := seqK I hqx
    obtain ⟨its2, rv2, p2, _⟩ := seqK I hqy
    obtain ⟨u, hu, ru⟩ := rv.get hx
    obtain ⟨u2, hu2, ru2⟩ := rv2.get hy
    have hzl : z < s.heap.objs.size := Heap.lt_size hz
    have D1 := drawK (prog := X.prog) (w := X.w) (A := X.A.in1) (I.ok.hd hc) j i1 a (iterK_ne h1 p) its.toArray
    have D2 := drawK (prog := X.prog) (w := X.w) (A := X.A.in1) (I.ok.hd hc) k i2 b (iterK_ne h2 p2) its2.toArray
    have l1 : i < its.toArray.size := by rw [List.size_toArray]; exact (List.getElem?_eq_some_iff.mp hu).1
    have l2 : i < its2.toArray.size := by rw [List.size_toArray]; exact (List.getElem?_eq_some_iff.mp hu2).1
    refine wpAny_pyNext_zipD2_item D D1 D2 hz hTI hTO ⟨h1, p⟩ ⟨h2, p2⟩ l1 l2 fun v v2 h' tk q1 q2 z' TO' s1 s2 hT hsz hk => ?_
    obtain rfl : v = u := by
      have e : its.toArray[i]? = some v := q1
      rw [List.getElem?_toArray, hu] at e
      exact (Option.some.inj e).symm
    obtain rfl : v2 = u2 := by
      have e : its2.toArray[i]? = some v2 := q2
      rw [List.getElem?_toArray, hu2] at e
      exact (Option.some.inj e).symm
    refine ⟨_, rfl, wpAny_letOwnedTupleGo_zip (s := { s with heap := h', toks := tk }) z' fun h'' z'' sb => ?_⟩
    have hT2 : h''.get? s.heap.objs.size = some { cls := .type "tuple", data := .seq #[v, v2] } := (sb.2 _ (Nat.ne_of_gt hzl)).trans hT
    have new : ObjOk X.prog X.w (L2.upd H s.heap.objs.size (.tup [x, y])) h'' s.heap.objs.size (.tup [x, y]) :=
      ⟨by show 2 ≤ sizeLine; decide, [v, v2], .cons ru (.cons ru2 .nil), ⟨_, hT2, rfl, _, rfl⟩⟩
    have I1 : Inv X pins σ (L2.upd H s.heap.objs.size (.tup [x, y])) { s with heap := h'', toks := tk } :=
      I.turnedNew (t' := tk) (ch := [z, TI, TO, i1, i2]) (fun c o hb q => (sb.2 c (fun q' => hb (by simp [q']))).trans (hk c o (fun q' => hb (by simp [q'])) (fun q' => hb (by simp [q'])) (fun q' => hb (by simp [q'])) (fun q' => hb (by simp [q'])) q)) hf (Nat.le_refl _) new
    refine ⟨.ref s.heap.objs.size, _, I1, rfl, ⟨_, x, y, rfl, I.hok.fresh (Nat.le_refl _), rfl, fun l hl => by rw [seqK_inj I hl hqx]; exact hx, fun l hl => by rw [seqK_inj I hl hqy]; exact hy⟩, ⟨z'', ?_, ⟨v, v2, ?_⟩, ?_, ?_⟩, fun c hcm => ?_⟩
    · exact (sb.2 _ D.TIz).trans (hk _ _ D.TIz D.TITO D.TIi1 D.TIi2 hTI)
    · exact (sb.2 _ D.TOz).trans TO'
    · exact iterK_at s1.1 fun o q => (sb.2 _ (Ne.symm D.zi1)).trans q
    · exact iterK_at s2.1 fun o q => (sb.2 _ (Ne.symm D.zi2)).trans q
    · have hlt : c < s.heap.objs.size := by
        have e' : c = z ∨ c = TI ∨ c = TO ∨ c = i1 ∨ c = i2 := by simpa using hcm
        rcases e' with q | q | q | q | q
        · rw [q]; exact hzl
        · rw [q]; exact Heap.lt_size hTI
        · rw [q]; exact Heap.lt_size hTO
        · rw [q]; obtain ⟨_, e1, _⟩ := iterK_obj h1; exact Heap.lt_size e1
        · rw [q]; obtain ⟨_, e2, _⟩ := iterK_obj h2; exact Heap.lt_size e2
      rw [upd_ne (Nat.ne_of_lt hlt)]
      exact (hf c hcm).1
  done := by
    intro X hP hw hK hc i pins s σ H E I hf st hg
    subst hP hw hK
    obtain ⟨hz, hTI, ⟨x0, y0, hTO⟩, h1, h2⟩ := st
    obtain ⟨xs, ys, hqx, hqy, le1, le2, hend⟩ := hg
    obtain ⟨its, rv, p, _⟩ := seqK I hqx
    obtain ⟨its2, rv2, p2, _⟩ := seqK I hqy
    have l1 := rv.length
    have l2 := rv2.length
    have D1 := drawK (prog := X.prog) (w := X.w) (A := X.A.in1) (I.ok.hd hc) j i1 a (iterK_ne h1 p) its.toArray
    have D2 := drawK (prog := X.prog) (w := X.w) (A := X.A.in1) (I.ok.hd hc) k i2 b (iterK_ne h2 p2) its2.toArray
    exact wpAny_pyNext_zipD2_end D D1 D2 hz hTI hTO ⟨h1, p⟩ ⟨h2, p2⟩ (by rw [List.size_toArray]; omega) (by rw [List.size_toArray]; omega) (by rw [List.size_toArray, List.size_toArray]; omega) fun h' tk hk => ⟨rfl, I.turnedL (t' := tk) (ch := [z, TI, TO, i1, i2]) (fun c o hb q =>
      hk c o (fun q' => hb (by simp [q'])) (fun q' => hb (by simp [q'])) (fun q' => hb (by simp [q'])) (fun q' => hb (by simp [q'])) q) hf⟩
  self := fun A i s Q E st h => wpAny_pyIter_zip st.1 h

def iZipG (K : Frag) (ta : TA) : TI := fun σ H R => ta σ H fun vs H1 => ∃ j k a b xs ys, vs = [.ref a, .ref b] ∧ SqK K H1 j a xs ∧ SqK K H1 k b ys ∧ R (ItzG K j k a b) H1
theorem pi_zipG {X : Cx} {e e2 : Expr} {ta : TA} {p pos tpos : Pos} {elts : List Expr} {kk : Nat} (hg : Gl X "zip") (hm : X.mg "zip" = none) (ha : PA X [e, e2] ta)
    (hs : starEach [e, e2] X.env = (false, eval e X.env) :: starEach [e2] X.env := by rfl) (hpl : (backTo pos (starEach [e2] X.env)).any (·.1) = false := by rfl) :
    PI X (.Tuple elts kk tpos) (.Call (.Name "zip" p) [e, e2] [] pos) (iZipG X.K ta) := by
  refine ⟨fun pins s σ H R I h => ?_⟩
  refine Call_ (ld_blt I hg hm PyProof.Rows.boot_zip (PyProof.Rows.callWith_type1 (thn (ha.run pos pins s σ H _ I h) fun us s1 ⟨vs, H1, I1, r1, q1⟩ => ?_) hs hpl))
  obtain ⟨j, k, a, b, xs, ys, ex, hqx, hqy, q⟩ := q1
  subst ex
  cases r1 with
  | cons r rr =>
    cases rr with
    | cons r' rr =>
      cases rr
      cases r
      cases r'
      obtain ⟨its, rv, p1, la⟩ := seqK I1 hqx
      obtain ⟨its2, rv2, p2, lb⟩ := seqK I1 hqy
      refine zip_begins2 (begK j a its.toArray) (begK k b its2.toArray) p1 p2 fun h' hz hTI hTO e1 e2 hsz hk => wpAny_pyIter_zip hz ?_
      have I2 : Inv X pins σ H1 { s1 with heap := h' } := I1.kept (t' := s1.toks) hk
      refine ⟨s1.heap.objs.size + 4, [s1.heap.objs.size + 4, s1.heap.objs.size + 2, s1.heap.objs.size + 3, s1.heap.objs.size, s1.heap.objs.size + 1], _, _, H1, rfl, I2, turn_zipG (zip_sep2 (fp1 := [a]) (fp2 := [b]) (fun c hc => by rw [List.mem_singleton.mp hc]; exact la) (fun c hc => by rw [List.mem_singleton.mp hc]; exact lb)), ⟨hz, hTI, ⟨_, _, hTO⟩, iterK0 e1, iterK0 e2⟩, fun c hcm => ?_, q⟩
      have e' : c = s1.heap.objs.size + 4 ∨ c = s1.heap.objs.size + 2 ∨ c = s1.heap.objs.size + 3 ∨ c = s1.heap.objs.size ∨ c = s1.heap.objs.size + 1 := by simpa using hcm
      have hle : s1.heap.objs.size ≤ c := by
        rcases e' with z | z | z | z | z
        · rw [z]; exact Nat.le_add_right _ _
        · rw [z]; exact Nat.le_add_right _ _
        · rw [z]; exact Nat.le_add_right _ _
        · rw [z]; exact Nat.le_refl _
        · rw [z]; exact Nat.le_add_right _ _
      exact I1.fpOk hle (I1.hok.fresh hle)

/-! ### enumerate(a) -/
set_option maxHeartbeats 1000000 in
theorem meets_enumerate_new1 {v : Value} {o : Obj} {H : Heap → Prop} (B : Begins v o H) :
    Meets (Builtin.«enumerate.__new__» ⟨[.type "enumerate", v], []⟩) (fun _ R s => H s.heap ∧
      R (.ok (.ret (.ref (s.heap.push o).objs.size))) { s with heap := (s.heap.push o).push { cls := .type "enumerate", data := .fields #[.none, .bool false, .ref s.heap.objs.size, rawInt 0, .none, .none] } }) :=
  .of_wp fun prog w A R s h => by
    obtain ⟨hp, g, d, tk, os⟩ := s; obtain ⟨h1, h⟩ := h
    have hsub := sub_enumerate
    have q1 : ∀ {A' : Around} {E : Value → Shared → Prop} {Q : Value → Shared → Prop}, Q (.ref hp.objs.size) ⟨hp.push o, g, d, tk, os⟩ → wpAny (model prog w) A' (pyIter v) Q E ⟨hp, g, d, tk, os⟩ :=
      fun q => B.iter prog w _ _ ⟨hp, g, d, tk, os⟩ _ h1 q
    wp_walk using q1
    refine wpAny_stack_any fun st => wpAny_pure ?_
    split
    · rename_i c _ _ _ _ _
      cases (c == Value.type "enumerate")
      · wp_walk using q1
        exact ⟨_, rfl, h⟩
      · wp_walk using q1
        exact ⟨_, rfl, h⟩
    · wp_walk using q1
      exact ⟨_, rfl, h⟩
section
variable {prog : Program} {w : World} {A : Around} {E : Value → Shared → Prop} {s : Shared}
theorem enum_begins1 {v : Value} {o : Obj} {H : Heap → Prop} {Q : Value → Shared → Prop} (B : Begins v o H) (h1 : H s.heap)
    (h : ∀ h', IsEnum h' (s.heap.objs.size + 1) s.heap.objs.size 0 .none → h'.get? s.heap.objs.size = some o → h'.objs.size = s.heap.objs.size + 2 →
      (∀ b o, s.heap.get? b = some o → h'.get? b = some o) → Q (.ref (s.heap.objs.size + 1)) { s with heap := h' }) :
    wpAny (model prog w) A (call (.type "enumerate") [v]) Q E s := by
  refine callType_new F.called_enumerate (by decide) (F.typeCall_enumerate_1 _) (F.newCall_enumerate_1 _) (fun obj => F.args_object_init_2 obj _) F.entry_enumerate_new
    (meets_enumerate_new1 B) ⟨h1, ?_⟩
  have hz : (s.heap.push o).objs.size = s.heap.objs.size + 1 := Heap.size_push ..
  show _ ∧ _
  rw [hz]
  have he : IsEnum ((s.heap.push o).push { cls := .type "enumerate", data := .fields #[.none, .bool false, .ref s.heap.objs.size, rawInt 0, .none, .none] }) (s.heap.objs.size + 1) s.heap.objs.size 0 .none := by
    have := Heap.get?_push_size (s.heap.push o) (o := { cls := .type "enumerate", data := .fields #[.none, .bool false, .ref s.heap.objs.size, rawInt 0, .none, .none] }) rfl
    rw [hz] at this; exact this
  refine ⟨⟨_, he, rfl⟩, h _ he (Heap.get?_push_of_some _ (Heap.get?_push_size _ B.free)) (by rw [Heap.size_push, hz]) fun b o x => Heap.get?_push_of_some _ (Heap.get?_push_of_some _ x)⟩
end
def IteG (K : Frag) (k : Bool) (a : Addr) : It :=
  ⟨fun i H => ∃ (xs : List V) (x : V), SqK K H k a xs ∧ xs[i]? = some x, fun i H v H' => ∃ T x, v = .ref T ∧ H T = none ∧ H' = L2.upd H T (.tup [.int (i : Nat), x]) ∧ ∀ xs, SqK K H k a xs → xs[i]? = some x, fun i H => ∃ xs : List V, SqK K H k a xs ∧ xs.length = i⟩
theorem turn_enumG {P : Program} {w : World} {K : Frag} {elts : List Expr} {kk : Nat} {tpos : Pos} {k : Bool} {a e it : Addr} (hea : e ≠ a) (hne : e ≠ it) :
    Turn P w K (.Tuple elts kk tpos) (IteG K k a) [e, it] e (fun i h => (∃ old, IsEnum h e it ((i : Nat) : Int) old) ∧ IterK h k it a i) where
  mem := by simp
  obj := fun i h st b hb => by
    obtain ⟨⟨old, he⟩, h1⟩ := st
    have e' : b = e ∨ b = it := by simpa using hb
    rcases e' with z | z
    · rw [z]; exact ⟨_, he, fun v q => nomatch q⟩
    · rw [z]; exact iterK_obj h1
  keep := fun i h h' st kp => let ⟨⟨old, he⟩, hi⟩ := st; ⟨⟨old, kp e (by simp) _ he⟩, iterK_at hi fun o q => kp it (by simp) o q⟩
  item := by
    intro X hP hw hK hc i pins s σ H E I hf st hg
    subst hP hw hK
    obtain ⟨⟨old, he⟩, hit⟩ := st
    obtain ⟨xs, x, hq, hx⟩ := hg
    obtain ⟨its, rv, p, _⟩ := seqK I hq
    obtain ⟨u, hu, ru⟩ := rv.get hx
    have hel : e < s.heap.objs.size := Heap.lt_size he
    have hil : it < s.heap.objs.size := by obtain ⟨_, q, _⟩ := iterK_obj hit; exact Heap.lt_size q
    have D1 := drawK (prog := X.prog) (w := X.w) (A := X.A.in1) (I.ok.hd hc) k it a (iterK_ne hit p) its.toArray
    have l1 : i < its.toArray.size := by rw [List.size_toArray]; exact (List.getElem?_eq_some_iff.mp hu).1
    refine wpAny_pyNext_enum_itemC D1 he ⟨hit, p⟩ l1 hne (by simp [hne, hea]) fun v h' tk q1 ho s1 hT hsz hk => ?_
    obtain rfl : v = u := by
      have e : its.toArray[i]? = some v := q1
      rw [List.getElem?_toArray, hu] at e
      exact (Option.some.inj e).symm
    refine ⟨_, rfl, wpAny_letOwnedTupleGo_enum (s := { s with heap := h', toks := tk + 1 }) ho fun h'' he' sb => ?_⟩
    have hT2 : h''.get? s.heap.objs.size = some { cls := .type "tuple", data := .seq #[.int i tk, v] } := (sb.2 _ (Nat.ne_of_gt hel)).trans hT
    have new : ObjOk X.prog X.w (L2.upd H s.heap.objs.size (.tup [.int (i : Nat), x])) h'' s.heap.objs.size (.tup [.int (i : Nat), x]) :=
      ⟨by show 2 ≤ sizeLine; decide, [.int i tk, v], .cons ⟨_, rfl⟩ (.cons ru .nil), ⟨_, hT2, rfl, _, rfl⟩⟩
    have I1 : Inv X pins σ (L2.upd H s.heap.objs.size (.tup [.int (i : Nat), x])) { s with heap := h'', toks := tk + 1 } :=
      I.turnedNew (ch := [e, it]) (fun b ob hb q => (sb.2 b (fun z => hb (by simp [z]))).trans (hk b ob (fun z => hb (by simp [z])) (fun z => hb (by simp [z])) q)) hf (Nat.le_refl _) new
    refine ⟨.ref s.heap.objs.size, _, I1, rfl, ⟨_, x, rfl, I.hok.fresh (Nat.le_refl _), rfl, fun ys hy => by rw [seqK_inj I hy hq]; exact hx⟩, ⟨⟨v, ?_⟩, iterK_at s1.1 fun o q => (sb.2 it (Ne.symm hne)).trans q⟩, fun b hb => ?_⟩
    · have e1 : ((i + 1 : Nat) : Int) = (i : Int) + 1 := by omega
      rw [e1]; exact he'
    · have hb' : b < s.heap.objs.size := by
        have e' : b = e ∨ b = it := by simpa using hb
        rcases e' with z | z
        · rw [z]; exact hel
        · rw [z]; exact hil
      rw [upd_ne (Nat.ne_of_lt hb')]
      exact (hf b hb).1
  done := by
    intro X hP hw hK hc i pins s σ H E I hf st hg
    subst hP hw hK
    obtain ⟨⟨old, he⟩, hit⟩ := st
    obtain ⟨xs, hq, rfl⟩ := hg
    obtain ⟨its, rv, p, _⟩ := seqK I hq
    obtain ⟨f0, f1, f2, f3, f4, f5⟩ := hf it (by simp)
    have D1 := drawK (prog := X.prog) (w := X.w) (A := X.A.in1) (I.ok.hd hc) k it a (iterK_ne hit p) its.toArray
    have hl : its.toArray.size = xs.length := by rw [List.size_toArray, rv.length]
    exact wpAny_pyNext_enum_endD D1 he (by rw [hl]; exact ⟨hit, p⟩) fun h' eb => ⟨rfl, I.turned (t' := s.toks) (fun b o hb q => eb b o hb q) f0 f1 f3 f4 f5⟩
  self := fun A i s Q E st h => let ⟨⟨_, he⟩, _⟩ := st; wpAny_pyIter_enum he h
def iEnumG (K : Frag) (ta : TA) : TI := fun σ H R => ta σ H fun vs H1 => ∃ k a xs, vs = [.ref a] ∧ SqK K H1 k a xs ∧ R (IteG K k a) H1
theorem pi_enumG {X : Cx} {e : Expr} {ta : TA} {p pos tpos : Pos} {elts : List Expr} {kk : Nat} (hg : Gl X "enumerate") (hm : X.mg "enumerate" = none) (ha : PA X [e] ta) (hs : starEach [e] X.env = [(false, eval e X.env)] := by rfl) :
    PI X (.Tuple elts kk tpos) (.Call (.Name "enumerate" p) [e] [] pos) (iEnumG X.K ta) := by
  refine ⟨fun pins s σ H R I h => ?_⟩
  refine Call_ (ld_blt I hg hm boot_enumerate (PyProof.Rows.callWith_type1 (thn (ha.run pos pins s σ H _ I h) fun us s1 ⟨vs, H1, I1, r1, q1⟩ => ?_) hs rfl))
  obtain ⟨k, a, xs, ex, hq, q⟩ := q1
  subst ex
  cases r1 with
  | cons r rr =>
    cases rr
    cases r
    obtain ⟨its, rv, p', la⟩ := seqK I1 hq
    refine enum_begins1 (begK k a its.toArray) p' fun h' he e1 hsz hk => wpAny_pyIter_enum he ?_
    have I2 : Inv X pins σ H1 { s1 with heap := h' } := I1.kept (t' := s1.toks) hk
    refine ⟨s1.heap.objs.size + 1, [s1.heap.objs.size + 1, s1.heap.objs.size], _, _, H1, rfl, I2, turn_enumG (k := k) (a := a) (fun z => absurd la (by rw [← z]; exact Nat.not_lt.mpr (Nat.le_add_right _ _))) (Nat.succ_ne_self _), ⟨⟨.none, he⟩, iterK0 e1⟩, fun b hb => ?_, q⟩
    have e' : b = s1.heap.objs.size + 1 ∨ b = s1.heap.objs.size := by simpa using hb
    have hle : s1.heap.objs.size ≤ b := by
      rcases e' with z | z
      · rw [z]; exact Nat.le_add_right _ _
      · rw [z]; exact Nat.le_refl _
    exact I1.fpOk hle (I1.hok.fresh hle)

/-! ### the denotations -/
/-- a list or a tuple to be walked: is it a tuple; its items; what must stand meanwhile -/
def seqAt (S : Sto) : D → Option (Bool × List D × List (Nat × List D))
  | .tup ds => some (true, ds, [])
  | .fl ds => some (false, ds, [])
  | .rl ds => some (false, ds, [])
  | .ref n => match S[n]? with
    | some (.lst ds) => some (false, ds, [(n, ds)])
    | _ => none
  | _ => none
section
variable {K : Frag} {H : Hp} {ξ ι : List Addr} {S : Sto}
theorem cellIs_ok {n : Nat} {ds : List D} {a : Addr} (st : StoOk K H ξ ι S) (hn : ι[n]? = some a) (h : cellIs S n ds = true) : ∃ vs, SqL K H a vs ∧ RepL K H ξ ι ds vs := by
  unfold cellIs at h
  split at h
  · rename_i es q
    rw [D.sameL_eq h] at q
    obtain ⟨b, h1, vs, h2, h3⟩ := st.cell n _ q
    rw [hn] at h1
    cases h1
    exact ⟨vs, .inl (.inl h2), h3⟩
  · cases h
theorem cellIs_self {n : Nat} {ds : List D} (q : S[n]? = some (.lst ds)) : cellIs S n ds = true := by
  unfold cellIs
  rw [q]
  exact D.sameL_self ds
/-- what stands of a walked one later on -/
def Stays (K : Frag) (ξ ι : List Addr) (H : Hp) (k : Bool) (a : Addr) (ds : List D) (gs : List (Nat × List D)) : Prop :=
  ∀ {ξ' H' ι' S'}, Step H ι H' ι' → (∀ a ∈ ξ', a ∈ ξ ∨ H a = none) → StoOk K H' ξ' ι' S' → (gs.all fun g => cellIs S' g.1 g.2) = true → ∃ vs, SqK K H' k a vs ∧ RepL K H' ξ' ι' ds vs
theorem seqAt_ok {x : D} {v : V} {k : Bool} {ds : List D} {gs : List (Nat × List D)} (st : StoOk K H ξ ι S) (r : RepV K H ξ ι x v) (e : seqAt S x = some (k, ds, gs)) : ∃ a, v = .ref a ∧ (∃ xs, SqK K H k a xs) ∧ Stays K ξ ι H k a ds gs := by
  cases x with
  | tup es =>
    cases e
    have r' := r
    obtain ⟨a, vs, rfl, h2, h3⟩ := r'
    refine ⟨a, rfl, ⟨vs, h2.sq⟩, fun {ξ' H' ι' S'} z h _ _ => ?_⟩
    obtain ⟨b, us, e, h1, h2⟩ := RepV.mv (Mv.to z h) r.fit r
    cases e
    exact ⟨us, h1.sq, h2⟩
  | fl es =>
    cases e
    have r' := r
    obtain ⟨a, vs, rfl, h2, h3⟩ := r'
    refine ⟨a, rfl, ⟨vs, h2.sq⟩, fun {ξ' H' ι' S'} z h _ _ => ?_⟩
    obtain ⟨b, us, e, h1, h2⟩ := RepV.mv (Mv.to z h) r.fit r
    cases e
    exact ⟨us, h1.sq, h2⟩
  | rl es =>
    cases e
    have r' := r
    obtain ⟨a, vs, rfl, h2, h3⟩ := r'
    refine ⟨a, rfl, ⟨vs, h2.sq⟩, fun {ξ' H' ι' S'} z h _ _ => ?_⟩
    obtain ⟨b, us, e, h1, h2⟩ := RepV.mv (Mv.to z h) r.fit r
    cases e
    exact ⟨us, h1.sq, h2⟩
  | ref n =>
    unfold seqAt at e
    simp only at e
    split at e
    · rename_i es q
      cases e
      obtain ⟨a, rfl, hn⟩ := r
      obtain ⟨vs, h1, h2⟩ := cellIs_ok st hn (cellIs_self q)
      refine ⟨a, rfl, ⟨vs, h1⟩, fun {ξ' H' ι' S'} z h st' ok => ?_⟩
      obtain ⟨m, rfl⟩ := z.more
      simp only [List.all_cons, List.all_nil, Bool.and_true] at ok
      exact cellIs_ok st' (by rw [List.getElem?_append_left (List.getElem?_eq_some_iff.mp hn).1]; exact hn) ok
    · cases e
  | _ => cases e
theorem fresh_tup {H' : Hp} {ξ' ι' : List Addr} {S' : Sto} {T : Addr} {ds : List D} {vs : List V} (st : StoOk K H' ξ' ι' S') (hT : H' T = none) (r : RepL K H' ξ' ι' ds vs) : (∀ a o, H' a = some o → L2.upd H' T (.tup vs) a = some o) ∧ RepV K (L2.upd H' T (.tup vs)) ξ' ι' (.tup ds) (.ref T) := by
  have kp : ∀ a o, H' a = some o → L2.upd H' T (.tup vs) a = some o := fun a o h => by rw [upd_ne (ne_of_none h hT)]; exact h
  have s : Step H' ι' (L2.upd H' T (.tup vs)) ι' := Step.upd hT
  refine ⟨kp, T, vs, rfl, ⟨upd_same, fun z => ?_, fun z => ?_⟩, s.vals r⟩
  · exact absurd hT (st.live T z)
  · exact absurd hT (st.ne z)
def zipD (xs ys : List D) : List D := (xs.zip ys).map fun p => .tup [p.1, p.2]
theorem zipD_get {xs ys : List D} {i : Nat} {d : D} (h : (zipD xs ys)[i]? = some d) : ∃ x y, xs[i]? = some x ∧ ys[i]? = some y ∧ d = .tup [x, y] := by
  unfold zipD at h
  rw [List.getElem?_map, Option.map_eq_some_iff] at h
  obtain ⟨p, hp, rfl⟩ := h
  have := List.getElem?_zip_eq_some.mp hp
  exact ⟨p.1, p.2, this.1, this.2, rfl⟩
theorem zipD_length {xs ys : List D} : (zipD xs ys).length = min xs.length ys.length := by unfold zipD; rw [List.length_map, List.length_zip]
def enumD (xs : List D) : List D := xs.zipIdx.map fun p => .tup [.int (p.2 : Nat), p.1]
theorem enumD_get {xs : List D} {i : Nat} {d : D} (h : (enumD xs)[i]? = some d) : ∃ x, xs[i]? = some x ∧ d = .tup [.int (i : Nat), x] := by
  unfold enumD at h
  rw [List.getElem?_map, Option.map_eq_some_iff] at h
  obtain ⟨p, hp, rfl⟩ := h
  rw [List.getElem?_zipIdx, Option.map_eq_some_iff] at hp
  obtain ⟨x, hx, rfl⟩ := hp
  exact ⟨x, hx, by simp⟩
theorem enumD_length {xs : List D} : (enumD xs).length = xs.length := by unfold enumD; rw [List.length_map, List.length_zipIdx]
theorem srcZip {j k : Bool} {a b : Addr} {ds es : List D} {gs hs : List (Nat × List D)} (t1 : Stays K ξ ι H j a ds gs) (t2 : Stays K ξ ι H k b es hs) : SrcOk K ξ ι H (.grd (gs ++ hs) (zipD ds es)) (ItzG K j k a b) := by
  have sp : ∀ {S' : Sto}, Src.ok (.grd (gs ++ hs) (zipD ds es)) S' = true → (gs.all fun g => cellIs S' g.1 g.2) = true ∧ (hs.all fun g => cellIs S' g.1 g.2) = true := fun {S'} h => by
    unfold Src.ok at h
    simp only [List.all_append, Bool.and_eq_true] at h
    exact h
  refine ⟨fun ξ' H' ι' S i z h st ok hi => ?_, fun ξ' H' ι' S z h st ok => ?_, fun ξ' H' ι' S i x H3 d z h st ok e y => ?_⟩
  · obtain ⟨vs, q, r⟩ := t1 z h st (sp ok).1
    obtain ⟨us, q', r'⟩ := t2 z h st (sp ok).2
    have hi : i < min ds.length es.length := by rw [← zipD_length]; exact hi
    have l1 : i < vs.length := by rw [r.length]; omega
    have l2 : i < us.length := by rw [r'.length]; omega
    exact ⟨vs, us, vs[i], us[i], q, q', List.getElem?_eq_getElem l1, List.getElem?_eq_getElem l2⟩
  · obtain ⟨vs, q, r⟩ := t1 z h st (sp ok).1
    obtain ⟨us, q', r'⟩ := t2 z h st (sp ok).2
    have e : (Src.items (.grd (gs ++ hs) (zipD ds es))).length = min ds.length es.length := zipD_length
    rw [e]
    refine ⟨vs, us, q, q', ?_, ?_, ?_⟩
    · rw [r.length]; omega
    · rw [r'.length]; omega
    · rw [r.length, r'.length]; omega
  · obtain ⟨vs, q, r⟩ := t1 z h st (sp ok).1
    obtain ⟨us, q', r'⟩ := t2 z h st (sp ok).2
    obtain ⟨T, v1, v2, rfl, hT, rfl, y1, y2⟩ := y
    obtain ⟨d1, d2, e1, e2, rfl⟩ := zipD_get e
    obtain ⟨w1, f1, g1⟩ := r.get e1
    obtain ⟨w2, f2, g2⟩ := r'.get e2
    obtain rfl : w1 = v1 := Option.some.inj (f1.symm.trans (y1 vs q))
    obtain rfl : w2 = v2 := Option.some.inj (f2.symm.trans (y2 us q'))
    exact fresh_tup st hT (.cons g1 (.cons g2 (show RepL K H' ξ' ι' [] [] from rfl)))
theorem srcEnum {k : Bool} {a : Addr} {ds : List D} {gs : List (Nat × List D)} (t1 : Stays K ξ ι H k a ds gs) : SrcOk K ξ ι H (.grd gs (enumD ds)) (IteG K k a) := by
  refine ⟨fun ξ' H' ι' S i z h st ok hi => ?_, fun ξ' H' ι' S z h st ok => ?_, fun ξ' H' ι' S i x H3 d z h st ok e y => ?_⟩
  · obtain ⟨vs, q, r⟩ := t1 z h st ok
    have hi : i < ds.length := by rw [← enumD_length]; exact hi
    have l1 : i < vs.length := by rw [r.length]; omega
    exact ⟨vs, vs[i], q, List.getElem?_eq_getElem l1⟩
  · obtain ⟨vs, q, r⟩ := t1 z h st ok
    have e : (Src.items (.grd gs (enumD ds))).length = ds.length := enumD_length
    rw [e]
    exact ⟨vs, q, r.length⟩
  · obtain ⟨vs, q, r⟩ := t1 z h st ok
    obtain ⟨T, v1, rfl, hT, rfl, y1⟩ := y
    obtain ⟨d1, e1, rfl⟩ := enumD_get e
    obtain ⟨w1, f1, g1⟩ := r.get e1
    obtain rfl : w1 = v1 := Option.some.inj (f1.symm.trans (y1 vs q))
    exact fresh_tup st hT (.cons (show RepV K H' ξ' ι' (.int (i : Nat)) (.int (i : Nat)) from rfl) (.cons g1 (show RepL K H' ξ' ι' [] [] from rfl)))
end
def iZipD (fa : ADen) : IDen := fun ρ S => bnd (fa ρ S) fun ds S => match ds with
  | [x, y] => (seqAt S x).bind fun p => (seqAt S y).map fun q => (.grd (p.2.2 ++ q.2.2) (zipD p.2.1 q.2.1), S)
  | _ => none
def iEnumD (fa : ADen) : IDen := fun ρ S => bnd (fa ρ S) fun ds S => match ds with
  | [x] => (seqAt S x).map fun p => (.grd p.2.2 (enumD p.2.1), S)
  | _ => none
section
variable {X : Cx}
theorem mi_zip {e e2 : Expr} {fa : ADen} {p pos tpos : Pos} {elts : List Expr} {kk : Nat} (hg : Gl X "zip") (hm : X.mg "zip" = none) (ha : MA X [e, e2] fa)
    (hs : starEach [e, e2] X.env = (false, eval e X.env) :: starEach [e2] X.env := by rfl) (hpl : (backTo pos (starEach [e2] X.env)).any (·.1) = false := by rfl) :
    MI X (.Tuple elts kk tpos) (.Call (.Name "zip" p) [e, e2] [] pos) (iZipD fa) := (pi_zipG hg hm ha hs hpl).weak fun σ H R ⟨ξ, ι, ρ, S, s, S', st, re, e, k⟩ => by
  obtain ⟨ds, S1, e1, e⟩ := bnd_some e
  refine tA.run st re e1 fun vs H1 ι1 s1 st1 r1 => ?_
  match ds, e, r1 with
  | [x, y], e, r1 =>
    simp only at e
    cases q : seqAt S1 x with
    | none => rw [q] at e; cases e
    | some p =>
      cases q2 : seqAt S1 y with
      | none => rw [q, q2] at e; cases e
      | some p2 =>
        rw [q, q2] at e
        cases e
        obtain ⟨v, w, rfl, h1, h2⟩ := RepL.two' r1
        obtain ⟨k1, d1, g1⟩ := p
        obtain ⟨k2, d2, g2⟩ := p2
        obtain ⟨a, rfl, ⟨xs, hx⟩, t1⟩ := seqAt_ok st1 h1 q
        obtain ⟨b, rfl, ⟨ys, hy⟩, t2⟩ := seqAt_ok st1 h2 q2
        exact ⟨k1, k2, a, b, xs, ys, rfl, hx, hy, k _ H1 ι1 s1 st1 (srcZip t1 t2)⟩
theorem mi_enum {e : Expr} {fa : ADen} {p pos tpos : Pos} {elts : List Expr} {kk : Nat} (hg : Gl X "enumerate") (hm : X.mg "enumerate" = none) (ha : MA X [e] fa) (hs : starEach [e] X.env = [(false, eval e X.env)] := by rfl) :
    MI X (.Tuple elts kk tpos) (.Call (.Name "enumerate" p) [e] [] pos) (iEnumD fa) := (pi_enumG hg hm ha hs).weak fun σ H R ⟨ξ, ι, ρ, S, s, S', st, re, e, k⟩ => by
  obtain ⟨ds, S1, e1, e⟩ := bnd_some e
  refine tA.run st re e1 fun vs H1 ι1 s1 st1 r1 => ?_
  match ds, e, r1 with
  | [x], e, r1 =>
    simp only at e
    cases q : seqAt S1 x with
    | none => rw [q] at e; cases e
    | some p =>
      rw [q] at e
      cases e
      obtain ⟨v, rfl, h1⟩ := RepL.one' r1
      obtain ⟨k1, d1, g1⟩ := p
      obtain ⟨a, rfl, ⟨xs, hx⟩, t1⟩ := seqAt_ok st1 h1 q
      exact ⟨k1, a, xs, rfl, hx, k _ H1 ι1 s1 st1 (srcEnum t1)⟩
/-! ### [*a, b], (*a, *b) -/
def aStar (fe : EDen) (fr : ADen) : ADen := fun ρ S => bnd (fe ρ S) fun d S => match seqOf S d with
  | some xs => bnd (fr ρ S) fun ys S => some (xs ++ ys, S)
  | none => none
theorem ma_star {e : Expr} {es : List Expr} {p : Pos} {fe : EDen} {fr : ADen} (he : ME X e fe) (hr : MA X es fr) (hs : starEach (.Starred e p :: es) X.env = (true, eval e X.env) :: starEach es X.env := by rfl) : MA X (.Starred e p :: es) (aStar fe fr) :=
  (StX.pa_star he hr hs).weak fun σ H Q ⟨ξ, ι, ρ, S, ds, S', st, re, e, k⟩ => by
    obtain ⟨d, S1, e1, e⟩ := bnd_some e
    split at e
    · rename_i xs q
      obtain ⟨ys, S2, e2, e⟩ := bnd_some e
      cases e
      refine tE.run st re e1 fun v H1 ι1 s1 st1 r1 => ?_
      obtain ⟨a, vs, rfl, hq, r⟩ := seqOf_ok st1 r1 q
      refine ⟨a, vs, rfl, hq.symm, tA.run st1 (s1.env re) e2 fun us H2 ι2 s2 st2 r2 => ?_⟩
      exact k _ H2 ι2 (s1.trans s2) st2 ((s2.vals r).append r2)
    · cases e
end
end MS

/-! MS: sorted of any data alike -/
namespace MS
open PySem PySem.Spec PyProof.Rows L2
def leD (a b : D) : Bool := PySem.W.dataLe false D.dat a b
def rSortD (K : Frag) : List V → Hp → VK → Prop := fun vs H Q => ∃ (a : Addr) (bs : List (V × D)), vs = [V.ref a] ∧ SqL K H a (bs.map (·.1)) ∧ (∀ b ∈ bs, Dp K H b.1 (D.dat b.2)) ∧ PySem.W.AllAlike (bs.map fun b => D.dat b.2) ∧ PySem.W.Sortable (bs.map fun b => D.dat b.2) ∧ (∀ b ∈ bs, (D.dat b.2).depth ≤ 60) ∧
  ∀ p, H p = none → Q (.ref p) (L2.upd H p (.lst ((bs.mergeSort (PySem.W.dataLe false fun b => D.dat b.2)).map (·.1))))
theorem eachIs_zip {α β γ : Type} {R : α → γ → Prop} {f : β → γ} : ∀ {us : List α} {bs : List β}, PySem.W.EachIs (fun u b => R u (f b)) us bs → PySem.W.EachIs R us (bs.map f)
  | _, _, .nil => .nil
  | _, _, .cons h t => .cons h (eachIs_zip t)
theorem each_vals : ∀ {bs : List (V × D)} {us : List Value}, PySem.W.EachIs (fun u (b : V × D) => RelV b.1 u) us bs → Vals (bs.map (·.1)) us
  | _, _, .nil => .nil
  | _, _, .cons h t => .cons h (each_vals t)
theorem vals_each : ∀ {bs : List (V × D)} {us : List Value}, Vals (bs.map (·.1)) us → PySem.W.EachIs (fun u (b : V × D) => RelV b.1 u) us bs
  | [], us, h => by cases h; exact .nil
  | b :: bs, us, h => by
    cases h with
    | cons h t => exact .cons h (vals_each t)
theorem each_and {α β : Type} {R : α → β → Prop} {T : α → β → Prop} : ∀ {us : List α} {bs : List β}, PySem.W.EachIs R us bs → (∀ u b, b ∈ bs → R u b → T u b) → PySem.W.EachIs T us bs
  | _, _, .nil, _ => .nil
  | _, _, .cons h t, f => .cons (f _ _ List.mem_cons_self h) (each_and t fun u b m r => f u b (List.mem_cons_of_mem _ m) r)
section
variable {X : Cx}
theorem cr_sortedD (hu : X.A.units + 64 < cLine) : CallR X (.builtin "sorted") (rSortD X.K) := by
  intro pins s σ H vs us Q I r h
  obtain ⟨a, bs, rfl, hs, hd, hal, hk, hdep, q⟩ := h
  obtain ⟨its, rv, hl, hz⟩ := I.list hs
  rw [Vals.ref1 r]
  have e := vals_each rv
  have er : PySem.W.EachIs (fun v (b : V × D) => ∃ as, Reads s.heap v (D.dat b.2) as) its bs := each_and e fun u b m r => Dp.reads I _ _ _ (hd b m) r
  refine PySem.W.sorted_data (enc := fun b : V × D => D.dat b.2) hl.isList e er hal hk (by rw [List.length_map] at hz; exact hz) (fun b m => by have := hdep b m; omega) fun out ho e' => ?_
  obtain ⟨ep, he'⟩ := PyProof.Rows.sortedAll_at s.heap its out.toArray
  have rv' := each_vals e'
  have hlen : ((bs.mergeSort (PySem.W.dataLe false fun b : V × D => D.dat b.2)).map (·.1)).length ≤ sizeLine := by
    rw [List.length_map, List.length_mergeSort]
    rw [List.length_map] at hz
    exact hz
  exact ⟨.ref _, L2.upd H (s.heap.objs.size + 1) (.lst _), I.laid (t' := s.toks) (fun _ _ => PyProof.Rows.sortedAll_old) (Nat.le_succ _) ⟨hlen, out, ep, rv', he'⟩, rfl, q _ (I.hok.fresh (Nat.le_succ _))⟩
end

section
variable {α : Type} {le : α → α → Bool}
theorem isort_merge (h : PySem.W.TotalLe le) (l : List α) : l.mergeSort le = isort le l := by
  refine (PySem.W.sort_unique h (isort_pw (fun a b => h.total a b) (fun a b c => h.trans a b c) l) fun c => ?_).symm
  have key : ∀ (x : α) (m : List α), (ins le x m).filter (PySem.W.sameRank le c) = (x :: m).filter (PySem.W.sameRank le c) := by
    intro x m
    induction m with
    | nil => rfl
    | cons y m ih =>
      unfold ins
      split
      · rfl
      · rename_i hxy
        have hh : PySem.W.sameRank le c x = true → PySem.W.sameRank le c y = false := fun hx => by
          cases hy : PySem.W.sameRank le c y with
          | false => rfl
          | true =>
            unfold PySem.W.sameRank at hx hy
            rw [Bool.and_eq_true] at hx hy
            exact absurd (h.trans x c y hx.2 hy.1) hxy
        simp only [List.filter_cons] at ih ⊢
        rw [ih]
        cases hx : PySem.W.sameRank le c x with
        | false => simp
        | true => simp [hh hx]
  induction l with
  | nil => rfl
  | cons x l ih =>
    show (ins le x (isort le l)).filter _ = _
    rw [key]
    simp only [List.filter_cons]
    rw [ih]
end
theorem leD_total : PySem.W.TotalLe leD := PySem.W.sortLe_total (listOrd itemOrd) false fun b : D => PySem.W.keyToks (D.dat b)
def alikeB (es : List D) : Bool := es.all fun a => es.all fun b => PySem.W.alike (D.dat a) (D.dat b)
def isTup1 : PyData → Bool
  | .tuple (_ :: _) => true
  | _ => false
def isOther : PyData → Bool
  | .none => false
  | .tuple _ => false
  | _ => true
def sortOk (es : List D) : Bool := D.pureL es && alikeB es && ((es.all fun d => isTup1 (D.dat d)) || es.all fun d => isOther (D.dat d)) && es.all fun d => decide ((D.dat d).depth ≤ 60)
def cSortedG : CDen := fun ds S => match cSorted ds S with
  | some r => some r
  | none => match ds with
    | [d] => (listOf S d).bind fun es => if sortOk es = true then some (.fl (isort leD es), S) else none
    | _ => none
def rSortG (K : Frag) : List V → Hp → VK → Prop := fun xs H Q => rSortA K xs H Q ∨ rSortD K xs H Q
theorem rep_zip {K : Frag} {H : Hp} {ξ ι : List Addr} : ∀ {es : List D} {vs : List V}, RepL K H ξ ι es vs → (vs.zip es).map (·.1) = vs ∧ (vs.zip es).map (·.2) = es ∧ ∀ b ∈ vs.zip es, RepV K H ξ ι b.2 b.1 ∧ b.2 ∈ es
  | [], vs, r => by rw [show vs = [] from r]; exact ⟨rfl, rfl, fun b h => by cases h⟩
  | e :: es, vs, ⟨v, t, q, h1, h2⟩ => by
    subst q
    obtain ⟨a1, a2, a3⟩ := rep_zip h2
    refine ⟨by rw [List.zip_cons_cons, List.map_cons, a1], by rw [List.zip_cons_cons, List.map_cons, a2], fun b hb => ?_⟩
    rw [List.zip_cons_cons] at hb
    rcases List.mem_cons.mp hb with rfl | hb
    · exact ⟨h1, List.mem_cons_self⟩
    · exact ⟨(a3 b hb).1, List.mem_cons_of_mem _ (a3 b hb).2⟩
theorem rep_of_zip {K : Frag} {H : Hp} {ξ ι : List Addr} : ∀ {bs : List (V × D)}, (∀ b ∈ bs, RepV K H ξ ι b.2 b.1) → RepL K H ξ ι (bs.map (·.2)) (bs.map (·.1))
  | [], _ => rfl
  | b :: bs, h => ⟨b.1, _, rfl, h b List.mem_cons_self, rep_of_zip fun c m => h c (List.mem_cons_of_mem _ m)⟩
section
variable {X : Cx} {K : Frag}
theorem c_sortedG (hu : X.A.units + 64 < cLine) : CallR X (.builtin "sorted") (rSortG X.K) := c_sorted.or (cr_sortedD hu)
theorem mc_sortedG : MCall K (rSortG K) cSortedG := by
  intro H ξ ι S S' ds d vs Q st r e k
  unfold cSortedG at e
  split at e
  · rename_i p q
    cases e
    exact .inl (mc_sorted H ξ ι S S' ds d vs Q st r q k)
  · split at e
    · rename_i x _
      cases q : listOf S x with
      | none => rw [q] at e; cases e
      | some es =>
        rw [q] at e
        have e : (if sortOk es = true then some (D.fl (isort leD es), S) else none) = some (d, S') := e
        split at e
        · rename_i ok
          cases e
          obtain ⟨v, rfl, h⟩ := RepL.one' r
          obtain ⟨a, ys, rfl, h2, h3⟩ := listOf_ok st h q
          unfold sortOk at ok
          simp only [Bool.and_eq_true] at ok
          obtain ⟨⟨⟨o1, o2⟩, o3⟩, o4⟩ := ok
          obtain ⟨z1, z2, z3⟩ := rep_zip h3
          have mem2 : ∀ x ∈ (ys.zip es).map (fun b => D.dat b.2), ∃ b ∈ es, D.dat b = x := fun x hx => by
            obtain ⟨b, hb, rfl⟩ := List.mem_map.mp hx
            exact ⟨b.2, (z3 b hb).2, rfl⟩
          refine .inr ⟨a, ys.zip es, rfl, by rw [z1]; exact h2, fun b hb => ?_, fun x hx y hy => ?_, ?_, fun b hb => ?_, fun p hp => ?_⟩
          · exact RepV.dp (D.fitL_all.mp o1 b.2 (z3 b hb).2) (z3 b hb).1
          · obtain ⟨b, hb, rfl⟩ := mem2 x hx
            obtain ⟨c, hc, rfl⟩ := mem2 y hy
            exact List.all_eq_true.mp (List.all_eq_true.mp o2 b hb) c hc
          · rw [Bool.or_eq_true] at o3
            rcases o3 with o3 | o3
            · refine .inl fun x hx => ?_
              obtain ⟨b, hb, rfl⟩ := mem2 x hx
              have := List.all_eq_true.mp o3 b hb
              unfold isTup1 at this
              split at this
              · rename_i x t e
                exact ⟨x, t, e⟩
              · cases this
            · refine .inr fun x hx => ?_
              obtain ⟨b, hb, rfl⟩ := mem2 x hx
              have := List.all_eq_true.mp o3 b hb
              refine ⟨fun z => ?_, fun xs z => ?_⟩
              · rw [z] at this; cases this
              · rw [z] at this; cases this
          · exact of_decide_eq_true (List.all_eq_true.mp o4 b.2 (z3 b hb).2)
          · have e1 : ((ys.zip es).mergeSort (PySem.W.dataLe false fun b : V × D => D.dat b.2)).map (·.2) = isort leD es := by
              rw [List.map_mergeSort (r := PySem.W.dataLe false fun b : V × D => D.dat b.2) (s := leD) (f := fun b : V × D => b.2) (fun _ _ _ _ => rfl), z2, isort_merge leD_total]
            rw [← e1] at k
            exact k.fl st (rep_of_zip fun b hb => (z3 b ((List.mergeSort_perm _ _).mem_iff.mp hb)).1) hp
        · cases e
    · cases e
end
end MS

/-! MS: in, range as a list, dict.get -/
namespace MS
open PySem PySem.Spec PyProof.Rows L2
section
variable {X : Cx} {K : Frag}
/-! ### x in xs, text in text -/
def rInT (K : Frag) (neg : Bool) : R2 := fun x y H Q => ∃ d ds, Dp K H x d ∧ Dp K H y (.tuple ds) ∧ SeqAt.shaped d = true ∧ SeqAt.shaped (.tuple ds) = true ∧ Q (.bl (if neg then !ds.any fun z => PyData.eqv z d else ds.any fun z => PyData.eqv z d)) H
theorem op_inT (hu : X.A.units + 65 < cLine) : OpR X (compareOp .In) (rInT X.K false) := by
  intro pins s σ H x y v u Q I rx ry h
  obtain ⟨d, ds, hd, he, sd, se, q⟩ := h
  obtain ⟨as, r1⟩ := Dp.reads I d x v hd rx
  obtain ⟨bs, r2⟩ := Dp.reads I (.tuple ds) y u he ry
  exact SeqAt.in_tuple_reads r2 r1 (SeqAt.canLay_of_shaped se) (SeqAt.canLay_of_shaped sd) (room_in_shaped sd hu) ⟨.bl _, H, I, rfl, q⟩
theorem op_notInT (hu : X.A.units + 65 < cLine) : OpR X (compareOp .NotIn) (rInT X.K true) := by
  intro pins s σ H x y v u Q I rx ry h
  obtain ⟨d, ds, hd, he, sd, se, q⟩ := h
  obtain ⟨as, r1⟩ := Dp.reads I d x v hd rx
  obtain ⟨bs, r2⟩ := Dp.reads I (.tuple ds) y u he ry
  exact SeqAt.notIn_tuple_reads r2 r1 (SeqAt.canLay_of_shaped se) (SeqAt.canLay_of_shaped sd) (room_in_shaped sd hu) ⟨.bl _, H, I, rfl, q⟩
def sayN (neg b : Bool) : D := .bl (if neg then !b else b)
def gInN (neg : Bool) : Op2 := fun x y S => match x, y with
  | .str i, .str j => some (sayN neg (!(Builtin.Str.occurrences j i 0 j.length 1).isEmpty), S)
  | x, y => match datS S x, datS S y with
    | some a, some (.list es) => if SeqAt.shaped a && SeqAt.shaped (.list es) then some (sayN neg (es.any fun z => PyData.eqv z a), S) else none
    | some a, some (.tuple es) => if SeqAt.shaped a && SeqAt.shaped (.tuple es) then some (sayN neg (es.any fun z => PyData.eqv z a), S) else none
    | _, _ => none
def gIn : Op2 := gInN false
def gNotIn : Op2 := gInN true
def rInS (neg : Bool) : R2 := fun x y H Q => ∃ i j, x = .str i ∧ y = .str j ∧ Q (.bl (if neg then !(!(Builtin.Str.occurrences j i 0 j.length 1).isEmpty) else !(Builtin.Str.occurrences j i 0 j.length 1).isEmpty)) H
def rInA (K : Frag) : R2 := fun x y H Q => rInS false x y H Q ∨ (fun x y H Q => L2.rInD K x y H Q ∨ rInT K false x y H Q) x y H Q
def rNotInA (K : Frag) : R2 := fun x y H Q => rInS true x y H Q ∨ (fun x y H Q => L2.rNotInD K x y H Q ∨ rInT K true x y H Q) x y H Q
theorem o_in (hu : X.A.units + 64 < cLine) (hu2 : X.A.units + 65 < cLine) : OpR X (compareOp .In) (rInA X.K) := OpR.or (r := rInS false) op_in_str ((op_inD hu2).or (op_inT hu2))
theorem o_notIn (hu : X.A.units + 64 < cLine) (hu2 : X.A.units + 65 < cLine) : OpR X (compareOp .NotIn) (rNotInA X.K) := OpR.or (r := rInS true) op_notin_str ((op_notInD hu2).or (op_notInT hu2))
theorem gInN_cases {neg : Bool} {x y d : D} {S S' : Sto} (e : gInN neg x y S = some (d, S')) : (∃ i j, x = .str i ∧ y = .str j ∧ d = sayN neg (!(Builtin.Str.occurrences j i 0 j.length 1).isEmpty) ∧ S' = S) ∨
    ∃ a es, datS S x = some a ∧ (datS S y = some (.list es) ∧ SeqAt.shaped (.list es) = true ∨ datS S y = some (.tuple es) ∧ SeqAt.shaped (.tuple es) = true) ∧ SeqAt.shaped a = true ∧ d = sayN neg (es.any fun z => PyData.eqv z a) ∧ S' = S := by
  unfold gInN at e
  split at e
  · rename_i i j
    cases e
    exact .inl ⟨i, j, rfl, rfl, rfl, rfl⟩
  · split at e
    · rename_i a es q1 q2
      split at e
      · rename_i h
        rw [Bool.and_eq_true] at h
        cases e
        exact .inr ⟨a, es, q1, .inl ⟨q2, h.2⟩, h.1, rfl, rfl⟩
      · cases e
    · rename_i a es q1 q2
      split at e
      · rename_i h
        rw [Bool.and_eq_true] at h
        cases e
        exact .inr ⟨a, es, q1, .inr ⟨q2, h.2⟩, h.1, rfl, rfl⟩
      · cases e
    · cases e
theorem m_in : MOp K (rInA K) gIn := by
  intro H ξ ι S S' x y d v w Q st rx ry e k
  rcases gInN_cases e with ⟨i, j, rfl, rfl, rfl, rfl⟩ | ⟨a, es, q1, q2, h1, rfl, rfl⟩
  · obtain rfl : v = .str i := rx
    obtain rfl : w = .str j := ry
    exact .inl ⟨i, j, rfl, rfl, k.here st rfl⟩
  · rcases q2 with ⟨q2, h2⟩ | ⟨q2, h2⟩
    · exact .inr (.inl ⟨a, es, datS_ok st rx q1, datS_ok st ry q2, h1, h2, k.here st rfl⟩)
    · exact .inr (.inr ⟨a, es, datS_ok st rx q1, datS_ok st ry q2, h1, h2, k.here st rfl⟩)
theorem m_notIn : MOp K (rNotInA K) gNotIn := by
  intro H ξ ι S S' x y d v w Q st rx ry e k
  rcases gInN_cases e with ⟨i, j, rfl, rfl, rfl, rfl⟩ | ⟨a, es, q1, q2, h1, rfl, rfl⟩
  · obtain rfl : v = .str i := rx
    obtain rfl : w = .str j := ry
    exact .inl ⟨i, j, rfl, rfl, k.here st rfl⟩
  · rcases q2 with ⟨q2, h2⟩ | ⟨q2, h2⟩
    · exact .inr (.inl ⟨a, es, datS_ok st rx q1, datS_ok st ry q2, h1, h2, k.here st rfl⟩)
    · exact .inr (.inr ⟨a, es, datS_ok st rx q1, datS_ok st ry q2, h1, h2, k.here st rfl⟩)
/-! ### for x in range(a, b, c) -/
def stepN (lo c : Int) (n : Nat) : List D := (List.range n).map fun (i : Nat) => .int (lo + i * c)
theorem stepN_length (lo c : Int) (n : Nat) : (stepN lo c n).length = n := by simp [stepN]
theorem srcStep {H : Hp} {ξ ι : List Addr} {lo c : Int} {n : Nat} : SrcOk K ξ ι H (.fix (stepN lo c n)) (Itc lo c n) := by
  refine ⟨fun ξ' H' ι' S i _ _ _ _ hi => ?_, fun ξ' H' ι' S _ _ _ _ => ?_, fun ξ' H' ι' S i x H3 d _ _ st _ e y => ?_⟩
  · show i < n
    rw [← stepN_length lo c n]
    exact hi
  · show n ≤ (stepN lo c n).length
    rw [stepN_length]
    exact Nat.le_refl _
  · obtain ⟨rfl, rfl⟩ := y
    have hl : i < n := by
      have := (List.getElem?_eq_some_iff.mp e).1
      rw [← stepN_length lo c n]
      exact this
    have e : (stepN lo c n)[i]? = some d := e
    have e2 : (stepN lo c n)[i]? = some (.int (lo + i * c)) := by simp [stepN, hl]
    rw [e2] at e
    cases e
    exact ⟨fun _ _ o => o, rfl⟩
def sz3 (i j c : Int) : Nat := (Builtin.Range.rangeSize i j c).toNat
def iRange3 (fa : ADen) : IDen := fun ρ S => bnd (fa ρ S) fun ds S => match ds with
  | [.int i, .int j, .int c] => if c ≠ 0 ∧ c.natAbs < 1073741824 ∧ Builtin.Range.small i j c = true ∧ 0 ≤ Builtin.Range.rangeSize i j c then some (.fix (stepN i c (sz3 i j c)), S) else none
  | _ => none
theorem mi_range3 {tg a b c : Expr} {fa : ADen} {p pos : Pos} (hg : Gl X "range") (hm : X.mg "range" = none) (ha : MA X [a, b, c] fa)
    (hs : starEach [a, b, c] X.env = (false, eval a X.env) :: starEach [b, c] X.env := by rfl) (hpl : (backTo pos (starEach [b, c] X.env)).any (·.1) = false := by rfl) : MI X tg (.Call (.Name "range" p) [a, b, c] [] pos) (iRange3 fa) :=
  (pi_range3 hg hm ha hs hpl).weak fun σ H R ⟨ξ, ι, ρ, S, s, S', st, re, e, k⟩ => by
    obtain ⟨ds, S1, e1, e⟩ := bnd_some e
    refine tA.run st re e1 fun vs H1 ι1 s1 st1 r1 => ?_
    match ds, e, r1 with
    | [.int i, .int j, .int c], e, r1 =>
      simp only at e
      split at e
      · rename_i h
        cases e
        obtain ⟨v, t, rfl, h1, h2⟩ := r1
        obtain ⟨v2, w, rfl, h3, h4⟩ := RepL.two' h2
        obtain rfl : v = .int i := h1
        obtain rfl : v2 = .int j := h3
        obtain rfl : w = .int c := h4
        exact ⟨i, j, c, _, rfl, ⟨h.1, h.2.1, h.2.2.1, (Int.toNat_of_nonneg h.2.2.2).symm⟩, k _ H1 ι1 s1 st1 srcStep⟩
      · cases e
/-! ### reading a dict that is locked: d.items() in a comprehension, d a local -/
def keyD : Key → D
  | .inl i => .int i
  | .inr x => .str x
theorem keyD_rep {H : Hp} {ξ ι : List Addr} (k : Key) : RepV K H ξ ι (keyD k) (kV k) := by cases k <;> rfl
def itemsD (kvs : List (Key × D)) : List D := kvs.map fun p => .tup [keyD p.1, p.2]
def lckAt (S : Sto) : D → Option (List (Key × D))
  | .ref n => match S[n]? with
    | some (.lck kvs) => some kvs
    | _ => none
  | _ => none
theorem lckAt_ok {H : Hp} {ξ ι : List Addr} {S : Sto} {d : D} {v : V} {kvs : List (Key × D)} (st : StoOk K H ξ ι S) (r : RepV K H ξ ι d v) (e : lckAt S d = some kvs) :
    ∃ n a ws o, d = .ref n ∧ v = .ref a ∧ S[n]? = some (.lck kvs) ∧ H a = some (.frz o (.dK ws)) ∧ ws.map (·.1) = kvs.map (·.1) ∧ RepL K H ξ ι (kvs.map (·.2)) (ws.map (·.2)) := by
  cases d with
  | ref n =>
    unfold lckAt at e
    simp only at e
    split at e
    · rename_i es q
      cases e
      obtain ⟨a, rfl, hn⟩ := r
      obtain ⟨b, h1, ws, o, h2, h3, h4⟩ := st.cell n _ q
      rw [hn] at h1
      cases h1
      exact ⟨n, a, ws, o, rfl, rfl, q, h2, h3, h4⟩
    · cases e
  | _ => cases e
theorem pair_get {H : Hp} {ξ ι : List Addr} : ∀ {kvs : List (Key × D)} {ws : List (Key × V)} {i : Nat} {k : Key} {v : V}, ws.map (·.1) = kvs.map (·.1) → RepL K H ξ ι (kvs.map (·.2)) (ws.map (·.2)) → ws[i]? = some (k, v) → ∃ d, kvs[i]? = some (k, d) ∧ RepV K H ξ ι d v := by
  intro kvs ws i k v hk hv e
  have e1 : (ws.map (·.1))[i]? = some k := by rw [List.getElem?_map, e]; rfl
  rw [hk, List.getElem?_map, Option.map_eq_some_iff] at e1
  obtain ⟨p, hp, rfl⟩ := e1
  have e2 : (kvs.map (·.2))[i]? = some p.2 := by rw [List.getElem?_map, hp]; rfl
  obtain ⟨w, h1, h2⟩ := hv.get e2
  rw [List.getElem?_map, e] at h1
  cases h1
  exact ⟨p.2, hp, h2⟩
theorem srcItems {H : Hp} {ξ ι : List Addr} {a : Addr} {o : Obj} {kvs : List (Key × D)} {ws : List (Key × V)} (h : H a = some (.frz o (.dK ws))) (hk : ws.map (·.1) = kvs.map (·.1)) (hv : RepL K H ξ ι (kvs.map (·.2)) (ws.map (·.2))) : SrcOk K ξ ι H (.fix (itemsD kvs)) (Iti a o ws) := by
  have hl : ws.length = kvs.length := by simpa using congrArg List.length hk
  have li : (itemsD kvs).length = ws.length := by unfold itemsD; rw [List.length_map, hl]
  refine ⟨fun ξ' H' ι' S i z _ _ _ hi => ⟨z.frz a o _ h, ?_⟩, fun ξ' H' ι' S z _ _ _ => ⟨z.frz a o _ h, ?_⟩, fun ξ' H' ι' S i x H3 d z hz st _ e y => ?_⟩
  · rw [← li]
    exact hi
  · exact Nat.le_of_eq li.symm
  · obtain ⟨T, k, v, e1, rfl, hT, rfl⟩ := y
    obtain ⟨d1, e2, r1⟩ := pair_get hk hv e1
    have e3 : (itemsD kvs)[i]? = some d := e
    unfold itemsD at e3
    rw [List.getElem?_map, e2] at e3
    cases e3
    have r2 : RepV K H' ξ' ι' d1 v := RepV.mv (Mv.to z hz) r1.fit r1
    exact fresh_tup st hT (.cons (keyD_rep k) (.cons r2 (show RepL K H' ξ' ι' [] [] from rfl)))
def iItemsL (fe : EDen) : IDen := fun ρ S => bnd (fe ρ S) fun d S => (lckAt S d).map fun kvs => (.fix (itemsD kvs), S)
theorem mi_items {e : Expr} {fe : EDen} {apos cpos tpos : Pos} {elts : List Expr} {kk : Nat} (he : ME X e fe) (hbase : attributeBase e "items" X.env (eval e X.env) = eval e X.env := by rfl) (hline : (apos.endLine == cpos.line) = true := by rfl) :
    MI X (.Tuple elts kk tpos) (.Call (.Attribute e "items" apos) [] [] cpos) (iItemsL fe) := (pi_items he hbase hline).weak fun σ H R ⟨ξ, ι, ρ, S, s, S', st, re, e, k⟩ => by
  obtain ⟨d, S1, e1, e⟩ := bnd_some e
  cases q : lckAt S1 d with
  | none => rw [q] at e; cases e
  | some kvs =>
    rw [q] at e
    cases e
    refine tE.run st re e1 fun v H1 ι1 s1 st1 r1 => ?_
    obtain ⟨n, a, ws, o, rfl, rfl, h1, h2, h3, h4⟩ := lckAt_ok st1 r1 q
    exact ⟨a, o, ws, rfl, h2, k _ H1 ι1 s1 st1 (srcItems h2 h3 h4)⟩
/-- the dict in slot i is locked while f runs -/
def dLock (i : Nat) (f : EDen) : EDen := fun ρ S => match ρ[i]? with
  | some (some (.ref n)) => match S[n]? with
    | some (.dct kvs) => bnd (f ρ (S.set n (.lck kvs))) fun d S' => match S'[n]? with
      | some (.lck es) => some (d, S'.set n (.dct es))
      | _ => none
    | _ => none
  | _ => none
theorem me_lock {e : Expr} {f : EDen} (i : Nat) (h : ME X e f) : ME X e (dLock i f) := (pe_lock h).weak fun σ H Q ⟨ξ, ι, ρ, S, d, S', st, re, q, k⟩ => by
  unfold dLock at q
  split at q
  · rename_i n hρ
    split at q
    · rename_i kvs hS
      obtain ⟨d', S1, e1, q⟩ := bnd_some q
      split at q
      · rename_i es hS1
        cases q
        obtain ⟨v, hσ, a, rfl, hn⟩ := re.at_ i _ hρ
        obtain ⟨b, h1, ws, h2, h3, h4⟩ := st.cell n _ hS
        rw [hn] at h1
        cases h1
        have ha : a ∈ ι := List.mem_of_getElem? hn
        refine ⟨a, .dK ws, h2, trivial, fun od => ?_⟩
        have m1 : ∀ k, Mv H ξ ι k (L2.upd H a (.frz od (.dK ws))) ξ ι := fun k => Mv.write ha
        have st1 : StoOk X.K (L2.upd H a (.frz od (.dK ws))) ξ ι (S.set n (.lck kvs)) := st.swap hn ⟨ws, od, upd_same, h3, RepL.mv (m1 _) h4.fit h4⟩ (show C.fit n (.dct kvs) = true from st.asc n _ hS)
        have re1 : RepE X.K (L2.upd H a (.frz od (.dK ws))) ξ ι ρ σ := ⟨re.len, fun j d e => by
          obtain ⟨v, g1, g2⟩ := re.at_ j d e
          exact ⟨v, g1, RepV.mv (m1 _) g2.fit g2⟩⟩
        refine tE.run st1 re1 e1 fun v H' ι' s' st' r' => ?_
        have hf : H' a = some (.frz od (.dK ws)) := s'.frz a od _ upd_same
        refine ⟨hf, ?_⟩
        have hn' : ι'[n]? = some a := by
          obtain ⟨m, rfl⟩ := s'.more
          rw [List.getElem?_append_left (List.getElem?_eq_some_iff.mp hn).1]
          exact hn
        obtain ⟨b, g1, ws', o', g2, g3, g4⟩ := st'.cell n _ hS1
        rw [hn'] at g1
        cases g1
        rw [hf] at g2
        cases g2
        have ha' : a ∈ ι' := List.mem_of_getElem? hn'
        have m2 : ∀ k, Mv H' ξ ι' k (L2.upd H' a (.dK ws)) ξ ι' := fun k => Mv.write ha'
        refine k v (L2.upd H' a (.dK ws)) ι' ⟨s'.more, fun c o hc hni => ?_, fun c o u hc => ?_⟩ (st'.swap hn' ⟨ws, upd_same, g3, RepL.mv (m2 _) g4.fit g4⟩ (show C.fit n (.lck es) = true from st'.asc n _ hS1)) (RepV.mv (m2 _) r'.fit r')
        · have ne : c ≠ a := fun z => hni (z ▸ ha)
          obtain ⟨x1, x2⟩ := s'.keep c o (by rw [upd_ne ne]; exact hc) hni
          exact ⟨by rw [upd_ne ne]; exact x1, x2⟩
        · have ne : c ≠ a := fun z => by rw [z, h2] at hc; cases hc
          rw [upd_ne ne]
          exact s'.frz c o u (by rw [upd_ne ne]; exact hc)
      · cases q
    · cases q
  · cases q
/-- d.get(k, x), the dict perhaps locked -/
def dctRd (S : Sto) (d : D) : Option (List (Key × D)) := match dctAt S d with
  | some kvs => some kvs
  | none => lckAt S d
theorem dctRd_ok {H : Hp} {ξ ι : List Addr} {S : Sto} {d : D} {v : V} {kvs : List (Key × D)} (st : StoOk K H ξ ι S) (r : RepV K H ξ ι d v) (e : dctRd S d = some kvs) :
    ∃ n a ws, d = .ref n ∧ v = .ref a ∧ L2.Rd H a (.dK ws) ∧ ws.map (·.1) = kvs.map (·.1) ∧ RepL K H ξ ι (kvs.map (·.2)) (ws.map (·.2)) := by
  unfold dctRd at e
  split at e
  · rename_i es q
    cases e
    obtain ⟨n, a, ws, h1, h2, _, _, h3, h4, h5⟩ := dctAt_ok st r q
    exact ⟨n, a, ws, h1, h2, .inl h3, h4, h5⟩
  · obtain ⟨n, a, ws, o, h1, h2, _, h3, h4, h5⟩ := lckAt_ok st r e
    exact ⟨n, a, ws, h1, h2, .inr ⟨o, h3⟩, h4, h5⟩
/-! ### d.get(k, x), d.get(k) -/
def dGet (z : Option EDen) (fo fk : EDen) : EDen := fun ρ S => bnd (fo ρ S) fun o S => if (dctRd S o).isSome then bnd (fk ρ S) fun y S => bnd (z.getD (dC .non) ρ S) fun z S => match dctRd S o, keyOf y with
  | some kvs, some k => some ((dlook kvs k).getD z, S)
  | _, _ => none else none
theorem me_get2 {o e f : Expr} {apos cpos : Pos} {fo fk fx : EDen} (hu : X.A.units + 1 < cLine) (ho : ME X o fo) (he : ME X e fk) (hf : ME X f fx) (m : M2 X o "get" apos e f cpos) : ME X (.Call (.Attribute o "get" apos) [e, f] [] cpos) (dGet (some fx) fo fk) :=
  (pe_dget2 hu ho he hf m).weak fun σ H Q ⟨ξ, ι, ρ, S, d, S', st, re, q, k⟩ => by
    obtain ⟨o, S1, e1, q⟩ := bnd_some q
    split at q
    · rename_i hi
      obtain ⟨y, S2, e2, q⟩ := bnd_some q
      obtain ⟨z, S3, e3, q⟩ := bnd_some q
      split at q
      · rename_i kvs key q1 q2
        cases q
        refine tE.run st re e1 fun v1 H1 ι1 s1 st1 r1 => ?_
        obtain ⟨kvs1, hk1⟩ := Option.isSome_iff_exists.mp hi
        obtain ⟨n, a, ws1, rfl, rfl, hH, _, _⟩ := dctRd_ok st1 r1 hk1
        refine ⟨a, rfl, .inl ⟨ws1, hH⟩, tE.run st1 (s1.env re) e2 fun v2 H2 ι2 s2 st2 r2 => tE.run st2 (s2.env (s1.env re)) e3 fun v3 H3 ι3 s3 st3 r3 => ?_⟩
        have rA : RepV X.K H3 ξ ι3 (.ref n) (.ref a) := s3.val (s2.val r1)
        obtain ⟨n', a', ws, en, ea, hH', hkeys, hvals⟩ := dctRd_ok st3 rA q1
        cases en
        cases ea
        have ey := keyOf_rep q2 (s3.val r2)
        obtain ⟨g1, g2⟩ := dlook_rep (k := key) hkeys hvals
        refine ⟨valV ws key, .inl ⟨ws, key, hH', ey, rfl⟩, ?_⟩
        cases q3 : dlook kvs key with
        | none =>
          rw [q3] at k
          rw [g1 q3]
          exact k _ H3 ι3 (s1.trans (s2.trans s3)) st3 r3
        | some d' =>
          rw [q3] at k
          obtain ⟨v, h1, h2⟩ := g2 d' q3
          rw [h1]
          exact k _ H3 ι3 (s1.trans (s2.trans s3)) st3 h2
      · cases q
    · cases q

end
end MS

/-! MS: range as a list or a tuple -/
namespace MS
open PySem PySem.Spec PyProof.Rows L2
theorem RoomG.u65 {k : Nat} {A : Around} (r : RoomG k A) : A.units + 65 < cLine := by have := r.room.un; omega
section
variable {X : Cx} {K : Frag}
theorem o_in1 (hu : X.A.units + 65 < cLine) : OpR X (compareOp .In) (rInA X.K) := o_in (by omega) hu
theorem o_notIn1 (hu : X.A.units + 65 < cLine) : OpR X (compareOp .NotIn) (rNotInA X.K) := o_notIn (by omega) hu
def rgD (a b : Int) : List D := upto a (b - a).toNat
theorem rgD_rep {H : Hp} {ξ ι : List Addr} (a b : Int) : RepL K H ξ ι (rgD a b) (rgV a b) := by
  have : ∀ l : List Nat, RepL K H ξ ι (l.map fun i : Nat => D.int (a + (i : Nat))) (l.map fun i : Nat => V.int (a + (i : Nat))) := by
    intro l
    induction l with
    | nil => rfl
    | cons x l ih => exact ⟨_, _, rfl, rfl, ih⟩
  exact this _
def rgOk (a b : Int) : Bool := decide (-(2 ^ 62) ≤ a) && decide (a < 2 ^ 62) && decide (-(2 ^ 62) ≤ b) && decide (b < 2 ^ 62) && decide ((b - a).toNat ≤ 2 ^ 24)
theorem rgOk_iff {a b : Int} (h : rgOk a b = true) : RgOk a b := by
  unfold rgOk at h
  simp only [Bool.and_eq_true, decide_eq_true_eq] at h
  exact ⟨h.1.1.1.1, h.1.1.1.2, h.1.1.2, h.1.2, h.2⟩
/-- range(b), range(a, b): the bounds -/
abbrev RDen := Env → Sto → Option ((Int × Int) × Sto)
def rg1 (f : EDen) : RDen := fun ρ S => bnd (f ρ S) fun x S => match x with
  | .int n => some ((0, n), S)
  | _ => none
def rg2 (f g : EDen) : RDen := fun ρ S => bnd (f ρ S) fun x S => bnd (g ρ S) fun y S => match x, y with
  | .int i, .int j => some ((i, j), S)
  | _, _ => none
def tR (K : Frag) (f : RDen) : L2.St → Hp → (Int → Int → Hp → Prop) → Prop := fun σ H Q => ∃ ξ ι ρ S i j S', StoOk K H ξ ι S ∧ RepE K H ξ ι ρ σ ∧ f ρ S = some ((i, j), S') ∧ AnsT K ξ ι H S' (Q i j)
def MRg (X : Cx) (e : Expr) (f : RDen) : Prop := PRg X e (tR X.K f)
theorem mrg_1 {a : Expr} {fa : EDen} {p pos : Pos} (hg : Gl X "range") (hm : X.mg "range" = none) (ha : ME X a fa) (na : starEach [a] X.env = (false, eval a X.env) :: starEach [] X.env := by rfl) : MRg X (.Call (.Name "range" p) [a] [] pos) (rg1 fa) := by
  intro pins s σ H Q I ⟨ξ, ι, ρ, S, i, j, S', st, re, e, k⟩
  refine prg_1 hg hm ha na pins s σ H Q I ?_
  obtain ⟨x, S1, e1, e⟩ := bnd_some e
  refine tE.run st re e1 fun v H1 ι1 s1 st1 r1 => ?_
  cases x with
  | int n =>
    cases e
    exact ⟨_, r1, k H1 ι1 s1 st1⟩
  | _ => cases e
theorem mrg_2 {a b : Expr} {fa fb : EDen} {p pos : Pos} (hg : Gl X "range") (hm : X.mg "range" = none) (ha : ME X a fa) (hb : ME X b fb) (na : starEach [a, b] X.env = (false, eval a X.env) :: starEach [b] X.env := by rfl)
    (nb : starEach [b] X.env = (false, eval b X.env) :: starEach [] X.env := by rfl) (hp : (backTo pos (starEach [b] X.env)).any (·.1) = false := by rfl) : MRg X (.Call (.Name "range" p) [a, b] [] pos) (rg2 fa fb) := by
  intro pins s σ H Q I ⟨ξ, ι, ρ, S, i, j, S', st, re, e, k⟩
  refine prg_2 hg hm ha hb na nb hp pins s σ H Q I ?_
  obtain ⟨x, S1, e1, e⟩ := bnd_some e
  obtain ⟨y, S2, e2, e⟩ := bnd_some e
  refine tE.run st re e1 fun v H1 ι1 s1 st1 r1 => tE.run st1 (s1.env re) e2 fun w H2 ι2 s2 st2 r2 => ?_
  cases x with
  | int m =>
    cases y with
    | int n =>
      cases e
      exact ⟨_, _, s2.val r1, r2, k H2 ι2 (s1.trans s2) st2⟩
    | _ => cases e
  | _ => cases e
def dLstRg (f : RDen) : EDen := fun ρ S => bnd (f ρ S) fun r S => if rgOk r.1 r.2 then some (.fl (rgD r.1 r.2), S) else none
def dLstRgC (f : RDen) : EDen := fun ρ S => bnd (f ρ S) fun r S => if rgOk r.1 r.2 then some (.ref S.length, S ++ [.lst (rgD r.1 r.2)]) else none
def dTupRg (f : RDen) : EDen := fun ρ S => bnd (f ρ S) fun r S => if rgOk r.1 r.2 then some (.tup (rgD r.1 r.2), S) else none
theorem tR_run {K : Frag} {f : RDen} {i j : Int} {σ : L2.St} {H : Hp} {ξ ι : List Addr} {S S' : Sto} {ρ : Env} {Q : Int → Int → Hp → Prop} (st : StoOk K H ξ ι S) (re : RepE K H ξ ι ρ σ) (e : f ρ S = some ((i, j), S')) (k : AnsT K ξ ι H S' (Q i j)) : tR K f σ H Q := ⟨ξ, ι, ρ, S, i, j, S', st, re, e, k⟩
theorem me_listRg {e : Expr} {f : RDen} {p pos : Pos} (hc : X.calm = true) (hg : Gl X "list") (hm : X.mg "list" = none) (he : MRg X e f) (na : starEach [e] X.env = (false, eval e X.env) :: starEach [] X.env := by rfl) : ME X (.Call (.Name "list" p) [e] [] pos) (dLstRg f) :=
  (pe_listRg hc hg hm he na).weak fun σ H Q ⟨ξ, ι, ρ, S, d, S', st, re, e, k⟩ => by
    obtain ⟨⟨i, j⟩, S1, e1, e⟩ := bnd_some e
    split at e
    · rename_i h
      cases e
      exact tR_run st re e1 fun H1 ι1 s1 st1 => ⟨rgOk_iff h, fun q hq => (k.next s1).fl st1 (rgD_rep i j) hq⟩
    · cases e
theorem me_tupRg {e : Expr} {f : RDen} {p pos : Pos} (hc : X.calm = true) (hg : Gl X "tuple") (hm : X.mg "tuple" = none) (he : MRg X e f) (na : starEach [e] X.env = (false, eval e X.env) :: starEach [] X.env := by rfl) : ME X (.Call (.Name "tuple" p) [e] [] pos) (dTupRg f) :=
  (pe_tupRg hc hg hm he na).weak fun σ H Q ⟨ξ, ι, ρ, S, d, S', st, re, e, k⟩ => by
    obtain ⟨⟨i, j⟩, S1, e1, e⟩ := bnd_some e
    split at e
    · rename_i h
      cases e
      exact tR_run st re e1 fun H1 ι1 s1 st1 => ⟨rgOk_iff h, fun q hq => (k.next s1).tup st1 (rgD_rep i j) hq⟩
    · cases e
theorem fit_rgD (n : Nat) (i j : Int) : D.fitL n (rgD i j) = true := D.fitL_all.mpr fun d hd => by
  obtain ⟨x, _, rfl⟩ := List.mem_map.mp (show d ∈ (List.range (j - i).toNat).map fun (x : Nat) => D.int (i + x) from hd)
  rfl
theorem me_listRgC {e : Expr} {f : RDen} {p pos : Pos} (hc : X.calm = true) (hg : Gl X "list") (hm : X.mg "list" = none) (he : MRg X e f) (na : starEach [e] X.env = (false, eval e X.env) :: starEach [] X.env := by rfl) : ME X (.Call (.Name "list" p) [e] [] pos) (dLstRgC f) :=
  (pe_listRg hc hg hm he na).weak fun σ H Q ⟨ξ, ι, ρ, S, d, S', st, re, e, k⟩ => by
    obtain ⟨⟨i, j⟩, S1, e1, e⟩ := bnd_some e
    split at e
    · rename_i h
      cases e
      exact tR_run st re e1 fun H1 ι1 s1 st1 => ⟨rgOk_iff h, fun q hq => (k.next s1).cell st1 (rgD_rep i j) hq (fit_rgD _ i j)⟩
    · cases e
/-! ### products of lists, slices as cells -/
theorem fitL_rep {n m : Nat} {ds : List D} (h : D.fitL n ds = true) : D.fitL n (List.replicate m ds).flatten = true := D.fitL_all.mpr fun d hd => by
  obtain ⟨l, hl, hd⟩ := List.mem_flatten.mp hd
  rw [List.eq_of_mem_replicate hl] at hd
  exact D.fitL_all.mp h d hd
theorem m_mulC : MOp K (rMulA K) gMulC := by
  intro H ξ ι S S' x y d v w Q st rx ry e k
  unfold gMulC at e
  split at e
  · rename_i j
    obtain rfl : w = .int j := ry
    cases q : mlistOf S x with
    | none => rw [q] at e; cases e
    | some a =>
      rw [q] at e
      have e : (if -(2 ^ 63) ≤ j ∧ j < 2 ^ 63 ∧ a.length * j.toNat ≤ sizeLine ∧ D.fitL S.length a = true then some (D.ref S.length, S ++ [.lst (List.replicate j.toNat a).flatten]) else none) = some (d, S') := e
      split at e
      · rename_i hz
        cases e
        obtain ⟨p, vs, rfl, h2, h3⟩ := mlistOf_ok st rx q
        exact .inr (.inl ⟨p, j, vs, rfl, rfl, h2, hz.1, hz.2.1, by rw [h3.length]; exact hz.2.2.1, fun l hl => k.cell st (h3.rep _) hl (fitL_rep hz.2.2.2)⟩)
      · cases e
  · cases e
end
end MS

/-! MS: sum of a tuple -/
namespace MS
open PySem PySem.Spec PyProof.Rows L2
def rSumT (K : Frag) : List V → Hp → VK → Prop := fun vs H Q => ∃ (a : Addr) (ns : List Int), vs = [V.ref a] ∧ SqT K H a (ns.map V.int) ∧ Q (.int ns.sum) H
section
variable {X : Cx} {K : Frag}
theorem cr_sumT (hc : X.calm = true) : CallR X (.builtin "sum") (rSumT X.K) := by
  intro pins s σ H vs us Q I r h
  obtain ⟨a, ns, rfl, hs, q⟩ := h
  obtain ⟨its, rv, hl, _⟩ := I.tuple hs
  rw [Vals.ref1 r]
  have hi := rv.ints
  obtain ⟨xs, e⟩ := hi.allInts.items
  have hn : numsOf (intItems xs).toList = ns := by rw [← e]; exact hi.numsOf
  rw [nums_intItems] at hn
  have hl' : s.heap.IsTuple a (intItems xs) := by rw [← e]; exact hl
  refine PySem.W.ktm_sumG (I.ok.hd hc) hl' fun h' tk t' hk => ?_
  have e2 : preSum (numAt xs) xs.size = ns.sum := by
    rw [preSum_eq, List.take_of_length_le (by simp), hn]
  rw [e2]
  exact ⟨.int _, H, I.kept hk, ⟨_, rfl⟩, q⟩
/-- sum of a list or a tuple of ints -/
def cSumA : CDen := fun ds S => match ds with
  | [d] => (seqOf S d).bind fun es => (intsOf es).map fun ns => (.int ns.sum, S)
  | _ => none
def rSumA (K : Frag) : List V → Hp → VK → Prop := fun xs H Q => rSum K xs H Q ∨ rSumT K xs H Q
theorem c_sumA (hc : X.calm = true) : CallR X (.builtin "sum") (rSumA X.K) := (cr_sum hc).or (cr_sumT hc)
theorem mc_sumA : MCall K (rSumA K) cSumA := by
  intro H ξ ι S S' ds d vs Q st r e k
  unfold cSumA at e
  split at e
  · rename_i x
    cases q : seqOf S x with
    | none => rw [q] at e; cases e
    | some es =>
      rw [q] at e
      have e : (intsOf es).map (fun ns => (D.int ns.sum, S)) = some (d, S') := e
      cases q2 : intsOf es with
      | none => rw [q2] at e; cases e
      | some ns =>
        rw [q2] at e
        cases e
        obtain ⟨v, rfl, h⟩ := RepL.one' r
        obtain ⟨a, ys, rfl, h2, h3⟩ := seqOf_ok st h q
        rw [intsOf_eq q2] at h3
        rw [RepL.ints.mp h3] at h2
        rcases h2 with h2 | h2
        · exact .inl ⟨a, ns, rfl, h2, k.here st rfl⟩
        · exact .inr ⟨a, ns, rfl, h2, k.here st rfl⟩
  · cases e
end
end MS

/-! MS: dict comprehensions over what stands; sorted of a dict of ints -/
namespace MS
open PySem PySem.Spec PyProof.Rows L2
/-- the turns of a dict comprehension, the dict at n of the store -/
def dcL (s : Src) (g : NDen) (t : TDen) (bk bv : EDen) (n : Nat) : List D → Env → Sto → Option Sto
  | [] => fun _ S => if s.ok S then some S else none
  | d :: ds => fun ρ S => if s.ok S then (match g d ρ with
    | some ρ1 => bnd (t ρ1 S) (fun c S2 => if c = true then (bnd (bk ρ1 S2) fun y S3 => bnd (bv ρ1 S3) fun z S4 => match setItemD (.ref n) y z S4 with
      | some S5 => if (dctAt S4 (.ref n)).isSome then dcL s g t bk bv n ds ρ S5 else none
      | none => none) else dcL s g t bk bv n ds ρ S2)
    | none => none) else none
def dDc (fi : IDen) (g : NDen) (t : TDen) (bk bv : EDen) (vs : List Nat) : EDen := fun ρ S => bnd (fi ρ S) fun s S => (dcL s g t bk bv S.length s.items (wipeE ρ vs) (S ++ [.dct []])).map fun S2 => (.ref S.length, S2)
theorem dc_run {K : Frag} {fi : IDen} {g : NDen} {t : TDen} {bk bv : EDen} {vs ws : List Nat} (hw : ∀ i ∈ ws, i ∈ vs) {σ : L2.St} {H : Hp} {Q : VK} (h : tE K (dDc fi g t bk bv vs) σ H Q) : tDc (tI K fi) (tGn K ws g) (tB K t) (tE K bk) (tE K bv) vs σ H Q := by
  obtain ⟨ξ, ι, ρ, S, d, S', st, re, e, k⟩ := h
  obtain ⟨s, S1, e1, e⟩ := bnd_some e
  rw [Option.map_eq_some_iff] at e
  obtain ⟨S2, e2, e⟩ := e
  cases e
  refine ⟨ξ, ι, ρ, S, s, S1, st, re, e1, fun J H1 ι1 s1 st1 so q0 hD => ?_⟩
  have p0 : Step H1 ι1 (upd H1 q0 (.dK [])) (ι1 ++ [q0]) := Step.push st1 hD
  have st0 : StoOk K (upd H1 q0 (.dK [])) ξ (ι1 ++ [q0]) (S1 ++ [.dct []]) := st1.push hD ⟨[], upd_same, rfl, rfl⟩ rfl
  have at0 : (ι1 ++ [q0])[S1.length]? = some q0 := by rw [← st1.len, List.getElem?_append_right (Nat.le_refl _), Nat.sub_self]; rfl
  have ok1 : ∀ a ∈ ξ, a ∈ ξ ∨ H1 a = none := fun a ha => .inl ha
  refine ⟨fun i m H2 => m = s.items.length - i ∧ i ≤ s.items.length ∧ ∃ ι2 S3, Step H1 ι1 H2 ι2 ∧ ι2[S1.length]? = some q0 ∧ StoOk K H2 ξ ι2 S3 ∧ dcL s g t bk bv S1.length (s.items.drop i) (wipeE ρ vs) S3 = some S', ⟨_, rfl, Nat.zero_le _, _, _, p0, at0, st0, e2⟩, ?_⟩
  rintro i m H2 ⟨rfl, hi, ι2, S3, s2, at2, st2, e3⟩
  by_cases hlt : i < s.items.length
  · rw [List.drop_eq_getElem_cons hlt] at e3
    have e3 : (if s.ok S3 then (match g s.items[i] (wipeE ρ vs) with
      | some ρ1 => bnd (t ρ1 S3) (fun c S2 => if c = true then (bnd (bk ρ1 S2) fun y S3 => bnd (bv ρ1 S3) fun z S4 => match setItemD (.ref S1.length) y z S4 with
        | some S5 => if (dctAt S4 (.ref S1.length)).isSome then dcL s g t bk bv S1.length (s.items.drop (i + 1)) (wipeE ρ vs) S5 else none
        | none => none) else dcL s g t bk bv S1.length (s.items.drop (i + 1)) (wipeE ρ vs) S2)
      | none => none) else none) = some S' := e3
    split at e3
    · rename_i hok
      refine .inr ⟨so.go ξ H2 ι2 S3 i s2 ok1 st2 hok hlt, fun H' => ∃ m', m' < s.items.length - i ∧ (m' = s.items.length - (i + 1) ∧ i + 1 ≤ s.items.length ∧ ∃ ι2 S3, Step H1 ι1 H' ι2 ∧ ι2[S1.length]? = some q0 ∧ StoOk K H' ξ ι2 S3 ∧ dcL s g t bk bv S1.length (s.items.drop (i + 1)) (wipeE ρ vs) S3 = some S'), fun H' h => h, fun x H3 hyl => ?_⟩
      obtain ⟨kp, rx⟩ := so.yld ξ H2 ι2 S3 i x H3 _ s2 ok1 st2 hok (List.getElem?_eq_getElem hlt) hyl
      have s3 : Step H2 ι2 H3 ι2 := ⟨⟨[], (List.append_nil _).symm⟩, fun a o h n => ⟨kp a o h, n⟩, fun a o u h => kp a _ h⟩
      have st3 := st2.beside kp
      have re3 : RepE K H3 ξ ι2 (wipeE ρ vs) (wipe σ vs) := wipeE_ok (s3.env (s2.env (s1.env re))) vs
      cases q : g s.items[i] (wipeE ρ vs) with
      | none => rw [q] at e3; cases e3
      | some ρ1 =>
        rw [q] at e3
        obtain ⟨c, S4, e4, e3⟩ := bnd_some e3
        refine ⟨ξ, ι2, wipeE ρ vs, S3, _, ρ1, st3, re3, rx, q, fun σ4 re4 l4 o4 => ⟨wipe_same hw l4 o4, tB.run st3 re4 e4 fun H5 ι5 s5 st5 => ?_⟩⟩
        have up : ∀ {A B : Hp} {α β : List Addr}, Step A α B β → α[S1.length]? = some q0 → β[S1.length]? = some q0 := fun {A B α β} z h => by
          obtain ⟨m, rfl⟩ := z.more
          rw [List.getElem?_append_left (List.getElem?_eq_some_iff.mp h).1]
          exact h
        cases c with
        | true =>
          refine iteT ?_
          obtain ⟨y, S6, e6, e3⟩ := bnd_some e3
          obtain ⟨z, S7, e7, e3⟩ := bnd_some e3
          refine tE.run st5 (s5.env re4) e6 fun yv H6 ι6 s6 st6 ry => tE.run st6 (s6.env (s5.env re4)) e7 fun zv H7 ι7 s7 st7 rz => ?_
          have at7 := up s7 (up s6 (up s5 (up s3 at2)))
          cases q5 : setItemD (.ref S1.length) y z S7 with
          | none => rw [q5] at e3; cases e3
          | some S8 =>
            rw [q5] at e3
            simp only at e3
            split at e3
            · rename_i isd
              obtain ⟨kvs, q6⟩ := Option.isSome_iff_exists.mp isd
              obtain ⟨n, a, us, hn, hv, h3, h4, h5, h6, h7⟩ := dctAt_ok (d := .ref S1.length) (v := .ref q0) st7 ⟨q0, rfl, at7⟩ q6
              cases hn
              cases hv
              unfold setItemD at q5
              rw [q6] at q5
              cases q2 : keyOf y with
              | none => rw [q2] at q5; cases q5
              | some ky =>
                rw [q2] at q5
                have q5 : (if kvs.length < sizeLine ∧ D.fit S1.length z = true then some (S7.set S1.length (.dct (dput kvs ky z))) else none) = some S8 := q5
                split at q5
                · rename_i hz
                  cases q5
                  have hl : us.length = kvs.length := by simpa using congrArg List.length h6
                  have s8 : Step H7 ι7 (upd H7 q0 (.dK (putK us ky zv))) ι7 := Step.write (S := S7) h3 (.dK h5)
                  have rv := s8.val rz
                  obtain ⟨p1, p2⟩ := dput_rep (k := ky) rv h6 (s8.vals h7)
                  have hy := keyOf_rep q2 ry
                  exact ⟨us, ky, hy, h5, by rw [hl]; exact hz.1, _, by omega, rfl, hlt, ι7, _, s2.trans (s3.trans (s5.trans (s6.trans (s7.trans s8)))), at7, st7.write (c := .dct (dput kvs ky z)) h3 (.dK h5) ⟨_, upd_same, p1, p2⟩ (dput_fit (st7.asc _ _ h4) hz.2), e3⟩
                · cases q5
            · cases e3
        | false =>
          refine iteF ⟨_, by omega, rfl, hlt, ι5, S4, s2.trans (s3.trans s5), up s5 (up s3 at2), st5, ?_⟩
          exact e3
    · cases e3
  · have hl : i = s.items.length := by omega
    subst hl
    rw [List.drop_length] at e3
    have e3 : (if s.ok S3 then some S3 else none) = some S' := e3
    split at e3
    · rename_i hok
      cases e3
      exact .inl ⟨so.stop ξ H2 ι2 _ s2 ok1 st2 hok, k (.ref q0) H2 ι2 (s1.trans s2) st2 ⟨q0, rfl, at2⟩⟩
    · cases e3
section
variable {X : Cx}
theorem me_dc {kx vx tg iter : Expr} {ifs : List Expr} {scope : Scope} {own : List (Str × Nat)} {pos : Pos} {fi : IDen} {g : NDen} {t : TDen} {bk bv : EDen} {ws : List Nat} (hc : X.calm = true) (hN : X.N.Nodup) (hw : ∀ i ∈ ws, i ∈ own.map (·.2)) (hi : MI X tg iter fi) (ok : BlkOk X.N X.env.scope scope own)
    (hg : ∀ (s : Shared) (H : Hp) (C : Addr) (cl : List (Str × Addr)) (fp : List Addr), MN (X.blk s H scope (compEnvC scope cl C X.env) fp) tg ws g) (ht : ∀ (s : Shared) (H : Hp) (C : Addr) (cl : List (Str × Addr)) (fp : List Addr), MTs (X.blk s H scope (compEnvC scope cl C X.env) fp) ifs t)
    (hk : ∀ (s : Shared) (H : Hp) (C : Addr) (cl : List (Str × Addr)) (fp : List Addr), ME (X.blk s H scope (compEnvC scope cl C X.env) fp) kx bk)
    (he : ∀ (s : Shared) (H : Hp) (C : Addr) (cl : List (Str × Addr)) (fp : List Addr), ME (X.blk s H scope (compEnvC scope cl C X.env) fp) vx bv) (hs : ∀ x, foldedSetIterable iter X.env x = pure x := by intro _; rfl) :
    ME X (.DictComp kx vx [⟨tg, iter, ifs, 0⟩] scope pos) (dDc fi g t bk bv (own.map (·.2))) := (pe_dc hc hN hi ok hg ht hk he hs).weak fun _ _ _ h => dc_run hw h
/-- the name of a local is put to a dict comprehension on one line -/
theorem sw_dict {kx vx : Expr} {gs : List Comprehension} {sc : Scope} {p py : Pos} {y : Str} {l : Nat} {en : PySem.Env} (h1 : en.scope.kind = .function) (h2 : en.scope.names.lookup y = some .local) (h3 : (py.line == p.line) = true)
    (h4 : (sc.names.any fun (n, k) => n == y && (k == .local || k == .cell)) = false) : swapsWith (.DictComp kx vx gs sc p) (some (.Name y py)) l en = pure true := by
  have a : en.kindOf y = some .local := h2
  have b : en.blockKind = .function := by
    unfold PySem.Env.blockKind
    rw [h1]
    rfl
  unfold swapsWith
  simp only [b, a, h4, Expr.pos, h3]
  rfl
theorem ps_dictc {i : Nat} {y : Str} {py : Pos} {kx vx tg iter : Expr} {ifs : List Expr} {scope : Scope} {own : List (Str × Nat)} {pos spos : Pos} {wi : TI} {g : TG} {tt : TT} {tk tv : TE} (hc : X.calm = true) (hN : X.N.Nodup) (hy : X.N[i]? = some y) (hyl : X.env.scope.names.lookup y = some .local)
    (hsw : swapsWith (.DictComp kx vx [⟨tg, iter, ifs, 0⟩] scope pos) (some (.Name y py)) spos.line X.env = pure true) (hi : PI X tg iter wi) (ok : BlkOk X.N X.env.scope scope own)
    (hg : ∀ (s : Shared) (H : Hp) (C : Addr) (cl : List (Str × Addr)) (fp : List Addr), PG (X.blk s H scope (compEnvC scope cl C X.env) fp) tg g) (ht : ∀ (s : Shared) (H : Hp) (C : Addr) (cl : List (Str × Addr)) (fp : List Addr), PTs (X.blk s H scope (compEnvC scope cl C X.env) fp) ifs tt)
    (hk : ∀ (s : Shared) (H : Hp) (C : Addr) (cl : List (Str × Addr)) (fp : List Addr), PE (X.blk s H scope (compEnvC scope cl C X.env) fp) kx tk)
    (he : ∀ (s : Shared) (H : Hp) (C : Addr) (cl : List (Str × Addr)) (fp : List Addr), PE (X.blk s H scope (compEnvC scope cl C X.env) fp) vx tv) (hs : ∀ x, foldedSetIterable iter X.env x = pure x := by intro _; rfl) :
    PS X (.Assign [.Name y py] (.DictComp kx vx [⟨tg, iter, ifs, 0⟩] scope pos) spos) (tAsg (tDc wi g tt tk tv (own.map (·.2))) (gName i)) := by
  refine ⟨fun pins s σ H T I z => ?_⟩
  have z : tDc wi g tt tk tv (own.map (·.2)) σ H (fun x H1 => gName i x σ H1 T.nx) := z
  rw [exec_Assign_Name_used _ _ _ _ hsw]
  refine wpAny_bind (wpAny_standAt (wpAny_bind ?_))
  show wpAny _ X.A (do let _ ← comprehension (.DictComp kx vx [⟨tg, iter, ifs, 0⟩] scope pos) scope X.env (firstIterPos [⟨tg, iter, ifs, 0⟩] pos) newDict false (eval iter X.env) (some (assign (.Name y py) X.env))) _ _ s
  refine wpAny_bind (thn (dc_core (Qf := fun _ s1 => SP X pins T .next s1) hc hN I hi ok hg ht hk he hs z fun L C s1 m H' I' q hn f => ?_) fun _ s1 q1 => wpAny_pure (wpAny_pure q1))
  show wpAny _ _ (assign (.Name y py) X.env (.ref L)) _ _ _
  refine wpAny_assign_Name (store_ok2 (v := V.ref L) I' hN hy (.inl hyl) rfl (fun s2 I2 ⟨a, sb, ha⟩ => ?_) (.inr hyl))
  obtain ⟨k0, k1, k2, k3, k4, k5⟩ := f
  have ne : C ≠ a := ha.elim (fun w => by rw [w]; exact k1) fun w e => k4 y a w e.symm
  exact ⟨m, hn.sameBut sb ne, fun h3 sb3 => ⟨_, H', I2.turned (t' := s2.toks) (fun b o hb e => (sb3.2 b hb).trans e) k0 k1 k3 k4 k5, q⟩⟩
theorem ms_setDc {i : Nat} {y : Str} {py : Pos} {kx vx tg iter : Expr} {ifs : List Expr} {scope : Scope} {own : List (Str × Nat)} {pos spos : Pos} {fi : IDen} {g : NDen} {t : TDen} {bk bv : EDen} {ws : List Nat} (hc : X.calm = true) (hN : X.N.Nodup) (hy : X.N[i]? = some y) (hyl : X.env.scope.names.lookup y = some .local)
    (hsw : swapsWith (.DictComp kx vx [⟨tg, iter, ifs, 0⟩] scope pos) (some (.Name y py)) spos.line X.env = pure true) (hw : ∀ i ∈ ws, i ∈ own.map (·.2)) (hi : MI X tg iter fi) (ok : BlkOk X.N X.env.scope scope own)
    (hg : ∀ (s : Shared) (H : Hp) (C : Addr) (cl : List (Str × Addr)) (fp : List Addr), MN (X.blk s H scope (compEnvC scope cl C X.env) fp) tg ws g) (ht : ∀ (s : Shared) (H : Hp) (C : Addr) (cl : List (Str × Addr)) (fp : List Addr), MTs (X.blk s H scope (compEnvC scope cl C X.env) fp) ifs t)
    (hk : ∀ (s : Shared) (H : Hp) (C : Addr) (cl : List (Str × Addr)) (fp : List Addr), ME (X.blk s H scope (compEnvC scope cl C X.env) fp) kx bk)
    (he : ∀ (s : Shared) (H : Hp) (C : Addr) (cl : List (Str × Addr)) (fp : List Addr), ME (X.blk s H scope (compEnvC scope cl C X.env) fp) vx bv) (hs : ∀ x, foldedSetIterable iter X.env x = pure x := by intro _; rfl) :
    MS X (.Assign [.Name y py] (.DictComp kx vx [⟨tg, iter, ifs, 0⟩] scope pos) spos) (sAsg (dDc fi g t bk bv (own.map (·.2))) (gN i)) := (ps_dictc hc hN hy hyl hsw hi ok hg ht hk he hs).weak fun _ _ _ h => setLc_of (fun _ _ _ h => dc_run hw h) h
/-! ### sorted(d), the keys of d fewer than 64 ints -/
def intKeys : List (Key × D) → Option (List Int)
  | [] => some []
  | (.inl i, _) :: l => (intKeys l).map (i :: ·)
  | _ => none
theorem intKeys_eq : ∀ {l : List (Key × D)} {ks : List Int}, intKeys l = some ks → l.map (·.1) = ks.map Sum.inl
  | [], ks, e => by cases e; rfl
  | (.inl i, d) :: l, ks, e => by
    have e : (intKeys l).map (i :: ·) = some ks := e
    rw [Option.map_eq_some_iff] at e
    obtain ⟨js, e1, rfl⟩ := e
    rw [List.map_cons, List.map_cons, intKeys_eq e1]
  | (.inr x, d) :: l, ks, e => by cases e
def cSortedH : CDen := fun ds S => match ds with
  | [d] => match dctAt S d with
    | some kvs => (intKeys kvs).bind fun ks => if ks.length < 64 then some (.fl ((isort leI ks).map .int), S) else none
    | none => cSortedG [d] S
  | _ => none
def rSortDI : List V → Hp → VK → Prop := fun xs H Q => ∃ (a : Addr) (kvs : List (Key × V)) (ks : List Int), xs = [.ref a] ∧ Rd H a (.dK kvs) ∧ kvs.map (·.1) = ks.map Sum.inl ∧ ks.length < 64 ∧
    ∀ (ys : List Int) (p : Addr), ys.Perm ks → ys.Pairwise (· ≤ ·) → H p = none → Q (.ref p) (upd H p (.lst (ys.map V.int)))
def rSortH (K : Frag) : List V → Hp → VK → Prop := fun xs H Q => rSortG K xs H Q ∨ rSortDI xs H Q
theorem c_sortedH (hc : X.calm = true) (hu : X.A.units + 64 < cLine) : CallR X (.builtin "sorted") (rSortH X.K) := (c_sortedG hu).or (call_sortedDI hc)
theorem mc_sortedH {K : Frag} : MCall K (rSortH K) cSortedH := by
  intro H ξ ι S S' ds d vs Q st r e k
  unfold cSortedH at e
  split at e
  · rename_i x
    split at e
    · rename_i kvs q
      cases q2 : intKeys kvs with
      | none => rw [q2] at e; cases e
      | some ks =>
        rw [q2] at e
        have e : (if ks.length < 64 then some (D.fl ((isort leI ks).map .int), S) else none) = some (d, S') := e
        split at e
        · rename_i h64
          cases e
          obtain ⟨v, rfl, h⟩ := RepL.one' r
          obtain ⟨n, a, us, rfl, rfl, h3, h4, h5, h6, h7⟩ := dctAt_ok st h q
          refine .inr ⟨a, us, ks, rfl, .inl h5, h6.trans (intKeys_eq q2), h64, fun ys p hp hs hl => ?_⟩
          rw [← sortI_eq hp hs] at k
          exact k.fl st (RepL.ints.mpr rfl) hl
        · cases e
    · exact .inl (mc_sortedG H ξ ι S S' _ d vs Q st r e k)
  · cases e
end
end MS

/-! MS: t[::-1] of a tuple -/
namespace MS
open PySem PySem.Spec PyProof.Rows L2
section
variable {prog : Program} {w : World} {A : Around} {E : Value → Shared → Prop} {s : Shared}
theorem back_adjust (n : Nat) : Builtin.Slice.sliceAdjust none none (-1) (n : Int) = ((n : Int) - 1, -1) := rfl
theorem back_places (n : Nat) : Builtin.Slice.slicePlaces ((n : Int) - 1) (-1) (-1) = n := by
  unfold Builtin.Slice.slicePlaces
  rw [if_neg (by decide)]
  split
  · rw [show (-(-1) : Int) = 1 from rfl, Int.ediv_one]
    omega
  · omega
theorem fm_congr {α β : Type} {f g : α → Option β} : ∀ l : List α, (∀ k ∈ l, f k = g k) → l.filterMap f = l.filterMap g
  | [], _ => rfl
  | k :: l, h => by
    rw [List.filterMap_cons, List.filterMap_cons, h k List.mem_cons_self, fm_congr l fun j hj => h j (List.mem_cons_of_mem _ hj)]
theorem back_pick (xs : Array Value) : ((List.range xs.size).filterMap fun (k : Nat) => xs[(((xs.size : Nat) : Int) - 1 + (k : Int) * -1).toNat]?).toArray = xs.toList.reverse.toArray := by
  congr 1
  have e : ∀ l : List Value, ((List.range l.length).filterMap fun (k : Nat) => l[((l.length : Int) - 1 + (k : Int) * -1).toNat]?) = l.reverse := by
    intro l
    have e2 : ((List.range l.length).filterMap fun (k : Nat) => l[((l.length : Int) - 1 + (k : Int) * -1).toNat]?) = (List.range l.length).filterMap fun (k : Nat) => l.reverse[k]? := by
      refine fm_congr _ fun k hk => ?_
      have hk := List.mem_range.mp hk
      rw [List.getElem?_reverse hk]
      congr 1
      omega
    rw [e2]
    have : ∀ r : List Value, (List.range r.length).filterMap (fun k => r[k]?) = r := by
      intro r
      induction r with
      | nil => rfl
      | cons x r ih =>
        rw [List.length_cons, List.range_succ_eq_map, List.filterMap_cons, List.filterMap_map]
        show x :: (List.range r.length).filterMap (fun k => r[k]?) = _
        rw [ih]
    have := this l.reverse
    rwa [List.length_reverse] at this
  have h := e xs.toList
  simpa using h
theorem back_applied {sl : Addr} {t : Tok} {n : Nat} {Q : Int × Int × Nat → Shared → Prop} (hs : s.heap.IsSliceOf sl .none .none (.int (-1) t)) (h : Q ((n : Int) - 1, -1, n) s) : wpAny (model prog w) A (Builtin.Slice.sliceApplied (.ref sl) (pure (n : Int))) Q E s := by
  obtain ⟨os, hos, hcs, hds⟩ := id hs
  unfold Builtin.Slice.sliceApplied Builtin.Slice.sliceFields
  refine wpAny_bind (wpAny_bind (wpAny_field hos hds (x := .none) rfl (wpAny_bind (wpAny_field hos hds (x := .none) rfl (wpAny_bind (wpAny_field hos hds (x := .int (-1) t) rfl (wpAny_pure ?_)))))))
  refine wpAny_bind (slicePart_int ?_)
  show wpAny _ _ (if ((-1 : Int) == 0) = true then _ else _) _ _ s
  rw [if_neg (by decide)]
  refine wpAny_bind (slicePart_none (wpAny_bind (slicePart_none (wpAny_bind (wpAny_pure ?_)))))
  show wpAny _ _ (pure ((n : Int) - 1, (-1 : Int), Builtin.Slice.slicePlaces ((n : Int) - 1) (-1) (-1))) _ _ s
  rw [back_places]
  exact wpAny_pure h
theorem get_back {t sl : Addr} {items : Array Value} {u : Tok} {Q : Value → Shared → Prop} (ht : IsTup s.heap t items) (hs : s.heap.IsSliceOf sl .none .none (.int (-1) u))
    (h : Q (.ref s.heap.objs.size) { s with heap := s.heap.push { cls := .type "tuple", data := .seq items.toList.reverse.toArray } }) (hsz : items.size ≤ sizeLine) : wpAny (model prog w) A (getItem (.ref t) (.ref sl)) Q E s := by
  have fits : sizeOk (.seq items.toList.reverse.toArray) := by
    show items.toList.reverse.toArray.size ≤ sizeLine
    rw [List.size_toArray, List.length_reverse, Array.length_toList]
    exact hsz
  obtain ⟨os, hos, hcs, hds⟩ := id hs
  have hTs : s.TypeIs (.ref sl) "slice" := ⟨os, hos, hcs⟩
  unfold getItem
  try with_reducible refine wpAny_holding ?_
  first | refine wpAny_bind (wpAny_pure ?_) | skip
  refine wpAny_bind (wpAny_sequenceKey ht.typeIs (by decide) ?_)
  refine wpAny_bind (wpAny_callSpecial?_slot (name := Str.ofString "__getitem__") ht.typeIs PyProof.Rows.slot_tuple_getitem
    (wpAny_call_entry PyProof.Rows.slot_tuple_getitem ht.typeIs entry_tuple_getitem ?_ (args_tuple_getitem _ _)))
  show wpAny _ _ (Builtin.Tuple.tupleItemsOf (.ref t) >>= _) _ _ s
  refine wpAny_bind (tupleItemsOf_ ht (wpAny_bind (wpAny_typeOf hTs ?_)))
  rw [if_pos (by decide)]
  refine wpAny_bind (back_applied hs ?_)
  have no : ¬ (((((items.size : Nat) : Int) - 1) == 0 && (-1 : Int) == 1 && items.size == items.size) = true) := by
    intro q
    rw [Bool.and_eq_true, Bool.and_eq_true] at q
    exact absurd q.1.2 (by decide)
  show wpAny _ _ (if ((((items.size : Nat) : Int) - 1) == 0 && (-1 : Int) == 1 && items.size == items.size) = true then _ else _) _ _ s
  rw [if_neg no, back_pick]
  first
    | exact wpAny_bind (m := Builtin.Tuple.tupleExact _) (wpAny_newObj_type (wpAny_pure ⟨_, rfl, wpAny_pure h⟩) fits)
    | exact wpAny_bind (m := Builtin.Tuple.tupleExact _) (wpAny_newObj_type (wpAny_bind (wpAny_pure (wpAny_pure ⟨_, rfl, wpAny_pure h⟩))) fits)
    | exact wpAny_bind (wpAny_bind (m := Builtin.Tuple.tupleExact _) (wpAny_newObj_type (wpAny_pure (wpAny_pure ⟨_, rfl, wpAny_pure h⟩)) fits))
    | exact wpAny_bind (wpAny_bind (m := Builtin.Tuple.tupleExact _) (wpAny_newObj_type (wpAny_pure ⟨_, rfl, wpAny_pure h⟩) fits))
end
def tRevT (K : Frag) (te : TE) : TE := fun σ H Q => te σ H fun x H1 => ∃ a xs, x = .ref a ∧ SqT K H1 a xs ∧ ∀ p, H1 p = none → Q (.ref p) (upd H1 p (.tup xs.reverse))
section
variable {X : Cx} {pos : Pos}
theorem pe_revT {e : Expr} {te : TE} {k : Nat} {p1 p2 p3 : Pos} (he : PE X e te) : PE X (.Subscript e (.Slice none none (some (.UnaryOp .USub (.Constant (.int 1) k p1) p2)) p3) pos) (tRevT X.K te) := by
  refine ⟨fun pins s σ H Q I h => ?_⟩
  refine Subscript_ (thn (he.run pins s σ H _ I h) fun v s1 ⟨x, H1, I1, r1, a, xs, ex, hx, q⟩ => ?_)
  subst ex
  cases r1
  have step : PO X (some (.UnaryOp .USub (.Constant (.int 1) k p1) p2)) (tPart (tUn (rU fun i => .int (-i)) (tC (.int 1)))) := po_some (pe_un un_neg pe_int)
  refine wpAny_Slice (thn (po_none.run pins s1 σ H1 (fun o J => o = none ∧ J = H1) I1 ⟨rfl, rfl⟩) fun vl s2 ⟨l, H2, I2, pl, el, e2⟩ => ?_)
  subst el e2
  refine thn (po_none.run pins s2 σ H2 (fun o J => o = none ∧ J = H2) I2 ⟨rfl, rfl⟩) fun vu s3 ⟨u, H3, I3, pu, eu, e3⟩ => ?_
  subst eu e3
  refine thn (step.run pins s3 σ H3 (fun o J => o = some (-1) ∧ J = H3) I3 ⟨1, rfl, -1, rfl, rfl, rfl⟩) fun vs s4 ⟨o, H4, I4, ps, eo, e4⟩ => ?_
  subst eo e4
  cases pl
  cases pu
  cases ps with
  | int _ tk =>
  have I5 : Inv X pins σ H4 { s4 with heap := s4.heap.push { cls := .type "slice", data := .fields #[.none, .none, .int (-1) tk] } } := I4.kept (t' := s4.toks) fun b ob q => Heap.get?_push_of_some _ q
  obtain ⟨its, r, ht, hz⟩ := I5.tuple hx
  have hlen := r.length
  show wpAny (model X.prog X.w) X.A (subscriptTail e (.Slice none none (some (.UnaryOp .USub (.Constant (.int 1) k p1) p2)) p3) (.ref a) (.ref s4.heap.objs.size)) (EP X pins σ Q) X.xe { s4 with heap := s4.heap.push { cls := .type "slice", data := .fields #[.none, .none, .int (-1) tk] } }
  refine tail_any (ops := [.ref a, .ref s4.heap.objs.size]) ht.typeIs PyProof.Rows.slot_tuple_getitem.lookup ?_ (by with_unfolding_all rfl)
  refine get_back ht (Heap.IsSliceOf.new ..) ?_ (by rw [List.size_toArray]; omega)
  refine ⟨.ref _, _, I5.laid (t' := s4.toks) (o := .tup xs.reverse) (fun b ob q => Heap.get?_push_of_some _ q) (Nat.le_refl _) ?_, rfl, q _ (I5.hok.fresh (Nat.le_refl _))⟩
  exact ⟨by rw [List.length_reverse]; exact hz, _, r.reverse, IsTup.new _ _⟩
/-- t[::-1] -/
def dRevT (fa : EDen) : EDen := fun ρ S => bnd (fa ρ S) fun x S => match x with
  | .tup ds => some (.tup ds.reverse, S)
  | _ => none
theorem me_revT {e : Expr} {f : EDen} {k : Nat} {p1 p2 p3 pos : Pos} (he : ME X e f) : ME X (.Subscript e (.Slice none none (some (.UnaryOp .USub (.Constant (.int 1) k p1) p2)) p3) pos) (dRevT f) :=
  (pe_revT he).weak fun σ H Q ⟨ξ, ι, ρ, S, d, S', st, re, e, k⟩ => by
    obtain ⟨x, S1, e1, e⟩ := bnd_some e
    cases x with
    | tup ds =>
      cases e
      refine tE.run st re e1 fun v1 H1 ι1 s1 st1 r1 => ?_
      obtain ⟨a, vs', rfl, h4, h5⟩ := r1
      exact ⟨_, vs', rfl, h4.sq, fun p hp => (k.next s1).tup st1 h5.reverse hp⟩
    | _ => cases e
end
end MS

/-! the plain side: what a denotation is worth, read step by step -/
namespace MS
open PySem PySem.Spec PyProof.Rows L2
def Wo {β : Type} (x : Option β) (Q : β → Prop) : Prop := ∃ b, x = some b ∧ Q b
section
variable {α β γ : Type} {x : Option β} {Q R : β → Prop}
theorem wo_some {b : β} : Wo (some b) Q ↔ Q b := ⟨fun ⟨_, e, h⟩ => by cases e; exact h, fun h => ⟨b, rfl, h⟩⟩
theorem wo_none : Wo none Q ↔ False := ⟨fun ⟨_, e, _⟩ => (nomatch e), False.elim⟩
theorem wo_of {b : β} (e : x = some b) (h : Q b) : Wo x Q := ⟨b, e, h⟩
theorem Wo.mono (h : Wo x Q) (i : ∀ b, Q b → R b) : Wo x R := let ⟨b, e, q⟩ := h; ⟨b, e, i b q⟩
theorem wo_eq {b : β} : Wo x (fun z => z = b) ↔ x = some b := ⟨fun ⟨_, e, h⟩ => by rw [e, h], fun e => ⟨b, e, rfl⟩⟩
theorem wo_bnd {x : Option (α × Sto)} {k : α → Sto → Option β} : Wo (bnd x k) Q ↔ Wo x fun p => Wo (k p.1 p.2) Q := by
  cases x with
  | none => simp [bnd, wo_none]
  | some p => simp [bnd, wo_some]
theorem wo_map {x : Option α} {f : α → β} : Wo (x.map f) Q ↔ Wo x fun p => Q (f p) := by
  cases x with
  | none => simp [wo_none]
  | some p => simp [wo_some]
theorem wo_bind {x : Option α} {f : α → Option β} : Wo (x.bind f) Q ↔ Wo x fun p => Wo (f p) Q := by
  cases x with
  | none => simp [wo_none]
  | some p => simp [wo_some]
theorem wo_if {c : Prop} [Decidable c] {x y : Option β} : Wo (if c then x else y) Q ↔ (c → Wo x Q) ∧ (¬c → Wo y Q) := by
  by_cases h : c <;> simp [h]
theorem wo_ifN {c : Prop} [Decidable c] {x : Option β} : Wo (if c then x else none) Q ↔ c ∧ Wo x Q := by
  by_cases h : c <;> simp [h, wo_none]
theorem wo_seq {f g : SDen} {ρ : Env} {S : Sto} {Q : Out × Env × Sto → Prop} : Wo (sSeq f g ρ S) Q ↔ Wo (f ρ S) fun r => match r with
    | (.nx, ρ', S') => Wo (g ρ' S') Q
    | r => Q r := by
  unfold sSeq
  cases h : f ρ S with
  | none => simp [wo_none]
  | some r =>
    obtain ⟨o, ρ', S'⟩ := r
    cases o <;> simp [wo_some]
/-- a while by what holds ahead of each turn -/
theorem wo_while {c : TDen} {b : SDen} {n : Nat} {Q : Out × Env × Sto → Prop} (I : Nat → Env → Sto → Prop) {ρ : Env} {S : Sto} {m : Nat} (h0 : I m ρ S) (hm : m < n)
    (turn : ∀ m ρ S, I m ρ S → Wo (c ρ S) fun t => (t.1 = true → Wo (b ρ t.2) fun r => match r with
      | (.nx, ρ', S') => ∃ m', m' < m ∧ I m' ρ' S'
      | (.ct, ρ', S') => ∃ m', m' < m ∧ I m' ρ' S'
      | (.bk, ρ', S') => Q (.nx, ρ', S')
      | (.rt d, ρ', S') => Q (.rt d, ρ', S')) ∧ (t.1 = false → Q (.nx, ρ, t.2))) : Wo (whileN c b n ρ S) Q := by
  refine whileN_ok (Pv := I) (Qd := fun x => Wo x Q) (fun m ρ S hI => ?_) m n ρ S hm h0
  obtain ⟨⟨t, S1⟩, e, h1, h2⟩ := turn m ρ S hI
  cases t with
  | false => exact .inl ⟨S1, e, wo_some.mpr (h2 rfl)⟩
  | true =>
    refine .inr ⟨S1, e, ?_⟩
    obtain ⟨⟨o, ρ', S'⟩, e2, h3⟩ := h1 rfl
    cases o with
    | nx =>
      obtain ⟨m', h4, h5⟩ := h3
      exact .inl ⟨m', ρ', S', h4, .inl e2, h5⟩
    | ct =>
      obtain ⟨m', h4, h5⟩ := h3
      exact .inl ⟨m', ρ', S', h4, .inr e2, h5⟩
    | bk => exact .inr (.inl ⟨ρ', S', e2, wo_some.mpr h3⟩)
    | rt d => exact .inr (.inr ⟨d, ρ', S', e2, wo_some.mpr h3⟩)
/-- a for, by what holds after the first i turns -/
theorem wo_for {s : Src} {g : GDen} {b : SDen} {Q : Out × Env × Sto → Prop} {items : List D} (I : Nat → Env → Sto → Prop) {ρ : Env} {S : Sto} (h0 : I 0 ρ S) (hs : ∀ i ρ S, i ≤ items.length → I i ρ S → s.ok S = true)
    (turn : ∀ i d ρ S, items[i]? = some d → I i ρ S → Wo (g d ρ S) fun p => Wo (b p.1 p.2) fun r => match r with
      | (.nx, ρ', S') => I (i + 1) ρ' S'
      | (.ct, ρ', S') => I (i + 1) ρ' S'
      | (.bk, ρ', S') => Q (.nx, ρ', S')
      | (.rt d, ρ', S') => Q (.rt d, ρ', S'))
    (fin : ∀ ρ S, I items.length ρ S → Q (.nx, ρ, S)) : Wo (forL s g b items ρ S) Q := by
  have key : ∀ (ds pre : List D) (ρ : Env) (S : Sto), items = pre ++ ds → I pre.length ρ S → Wo (forL s g b ds ρ S) Q := by
    intro ds
    induction ds with
    | nil =>
      intro pre ρ S e hI
      have ok := hs _ ρ S (by rw [e]; simp) hI
      unfold forL
      rw [if_pos ok, wo_some]
      exact fin ρ S (by rw [e, List.append_nil]; exact hI)
    | cons d ds ih =>
      intro pre ρ S e hI
      have ok := hs _ ρ S (by rw [e]; simp) hI
      obtain ⟨⟨ρ1, S1⟩, e1, ⟨o, ρ2, S2⟩, e2, h⟩ := turn pre.length d ρ S (by rw [e]; simp) hI
      unfold forL
      have e2 : b ρ1 S1 = some (o, ρ2, S2) := e2
      rw [if_pos ok, e1]
      simp only [e2]
      have e3 : items = (pre ++ [d]) ++ ds := by rw [e]; simp
      cases o with
      | nx => exact ih (pre ++ [d]) ρ2 S2 e3 (by rw [List.length_append]; exact h)
      | ct => exact ih (pre ++ [d]) ρ2 S2 e3 (by rw [List.length_append]; exact h)
      | bk => exact wo_some.mpr h
      | rt d => exact wo_some.mpr h
  exact key items [] ρ S rfl h0
/-- a comprehension whose parts change nothing -/
theorem lcL_map {s : Src} {g : NDen} {t : TDen} {b : EDen} {ρ : Env} {S : Sto} (hs : s.ok S = true) {p : D → Bool} {f : D → D} :
    ∀ {ds : List D}, (∀ d ∈ ds, ∃ ρ1, g d ρ = some ρ1 ∧ t ρ1 S = some (p d, S) ∧ (p d = true → b ρ1 S = some (f d, S))) → lcL s g t b ds ρ S = some ((ds.filter p).map f, S)
  | [], _ => by unfold lcL; rw [if_pos hs]; rfl
  | d :: ds, h => by
    obtain ⟨ρ1, e1, e2, e3⟩ := h d List.mem_cons_self
    have ih := lcL_map hs (p := p) (f := f) (fun d' m => h d' (List.mem_cons_of_mem _ m))
    unfold lcL
    rw [if_pos hs, e1]
    simp only [e2, bnd_mk]
    cases q : p d with
    | false =>
      simp only [Bool.false_eq_true, if_false]
      rw [ih, List.filter_cons_of_neg (by rw [q]; decide)]
    | true =>
      simp only [if_true]
      rw [e3 q]
      simp only [bnd_mk]
      rw [ih, List.filter_cons_of_pos q]
      rfl
theorem lcL_all {s : Src} {g : NDen} {b : EDen} {ρ : Env} {S : Sto} (hs : s.ok S = true) {f : D → D} {ds : List D} (h : ∀ d ∈ ds, ∃ ρ1, g d ρ = some ρ1 ∧ b ρ1 S = some (f d, S)) : lcL s g tYesD b ds ρ S = some (ds.map f, S) := by
  rw [lcL_map hs (p := fun _ => true) (f := f) (ds := ds) fun d m => by
    obtain ⟨ρ1, e1, e2⟩ := h d m
    exact ⟨ρ1, e1, rfl, fun _ => e2⟩]
  rw [List.filter_eq_self.mpr (by simp)]
end
/-! ### values -/
theorem mulOk_l {i j : Int} (h : i.natAbs < 2 ^ 64) : mulOk i j = true := by unfold mulOk; rw [decide_eq_true h]; rfl
theorem mulOk_r {i j : Int} (h : j.natAbs < 2 ^ 64) : mulOk i j = true := by unfold mulOk; rw [decide_eq_true h]; simp
theorem divOk_k {j : Int} (k : Nat) (hk : k ≤ 9000) (h : j ≠ 0) (h2 : j.natAbs < 2 ^ k) : divOk j = true := by
  unfold divOk
  rw [decide_eq_true h, Bool.true_and]
  refine decide_eq_true ?_
  have h0 : j.natAbs ≠ 0 := by omega
  have := (Nat.log2_lt h0).mpr h2
  omega
theorem divOk_of {j : Int} (h : j ≠ 0) (h2 : j.natAbs < 2 ^ 64) : divOk j = true := divOk_k 64 (by decide) h h2
theorem log2_of {i : Int} {k : Nat} (hk : 0 < k) (h : i.natAbs < 2 ^ k) : i.natAbs.log2 < k := by
  by_cases h0 : i.natAbs = 0
  · rw [h0]; simpa using hk
  · exact (Nat.log2_lt h0).mpr h
mutual
def D.okS (k : Nat) : D → Bool
  | .non => true
  | .bl _ => true
  | .int i => decide (i.natAbs.log2 < k)
  | .str x => x.cps.toList.all fun c => decide (c < 16 ^ 8)
  | .tup ds => D.okSL k ds
  | .fl ds => D.okSL k ds
  | .rl ds => D.okSL k ds
  | .ref _ => false
def D.okSL (k : Nat) : List D → Bool
  | [] => true
  | d :: ds => D.okS k d && D.okSL k ds
end
mutual
def D.bulk : D → Nat
  | .str x => x.cps.size
  | .tup ds => D.bulkL ds
  | .fl ds => D.bulkL ds
  | .rl ds => D.bulkL ds
  | _ => 0
def D.bulkL : List D → Nat
  | [] => 0
  | d :: ds => D.bulk d + 1 + D.bulkL ds
end
mutual
def D.dep : D → Nat
  | .tup ds => D.depL ds + 1
  | .fl ds => D.depL ds + 1
  | .rl ds => D.depL ds + 1
  | _ => 0
def D.depL : List D → Nat
  | [] => 0
  | d :: ds => max (D.dep d) (D.depL ds)
end
theorem shown_int_len {i : Int} {k : Nat} (hk : 0 < k) (h : i.natAbs.log2 < k) : (PyData.shown (.int i)).length ≤ k + 1 := by
  have := int_text_length_le hk h
  simp only [PyData.shown]
  show (Str.ofString (toString i)).length ≤ k + 1
  rw [PySem.ofString_length]
  exact this
mutual
theorem D.shown_ok {k : Nat} (hk : 0 < k) (hk2 : k ≤ 1920) : ∀ d : D, D.okS k d = true → (D.dat d).leavesShort (k + 1) = true ∧ (D.dat d).showable = true ∧ (D.dat d).hasDict = false ∧ (D.dat d).bulk = D.bulk d ∧ (D.dat d).depth = D.dep d
  | .non, _ => ⟨rfl, rfl, rfl, rfl, rfl⟩
  | .bl _, _ => ⟨rfl, rfl, rfl, rfl, rfl⟩
  | .int i, h => by
    have h : i.natAbs.log2 < k := of_decide_eq_true h
    refine ⟨?_, ?_, rfl, rfl, rfl⟩
    · simp only [D.dat, PyData.leavesShort]
      exact decide_eq_true (shown_int_len hk h)
    · simp only [D.dat, PyData.showable]
      exact decide_eq_true (by omega)
  | .str x, h => ⟨by
    have h : (x.cps.toList.all fun c => decide (c < 16 ^ 8)) = true := h
    simpa only [D.dat, PyData.leavesShort] using h, rfl, rfl, rfl, rfl⟩
  | .tup ds, h => by
    obtain ⟨h1, h2, h3, h4, h5⟩ := D.shownL_ok hk hk2 ds h
    simp only [D.dat, PyData.leavesShort, PyData.showable, PyData.hasDict, PyData.bulk, PyData.depth, D.bulk, D.dep]
    exact ⟨h1, h2, h3, h4, by rw [h5]⟩
  | .fl ds, h => by
    obtain ⟨h1, h2, h3, h4, h5⟩ := D.shownL_ok hk hk2 ds h
    simp only [D.dat, PyData.leavesShort, PyData.showable, PyData.hasDict, PyData.bulk, PyData.depth, D.bulk, D.dep]
    exact ⟨h1, h2, h3, h4, by rw [h5]⟩
  | .rl ds, h => by
    obtain ⟨h1, h2, h3, h4, h5⟩ := D.shownL_ok hk hk2 ds h
    simp only [D.dat, PyData.leavesShort, PyData.showable, PyData.hasDict, PyData.bulk, PyData.depth, D.bulk, D.dep]
    exact ⟨h1, h2, h3, h4, by rw [h5]⟩
  | .ref _, h => by cases h
theorem D.shownL_ok {k : Nat} (hk : 0 < k) (hk2 : k ≤ 1920) : ∀ ds : List D, D.okSL k ds = true → PyData.leavesShortAll (k + 1) (D.datL ds) = true ∧ PyData.showableAll (D.datL ds) = true ∧ PyData.hasDictAll (D.datL ds) = false ∧ PyData.bulkAll (D.datL ds) = D.bulkL ds ∧ PyData.depthAll (D.datL ds) = D.depL ds
  | [], _ => ⟨rfl, rfl, rfl, rfl, rfl⟩
  | d :: ds, h => by
    have h : (D.okS k d && D.okSL k ds) = true := h
    rw [Bool.and_eq_true] at h
    obtain ⟨a1, a2, a3, a4, a5⟩ := D.shown_ok hk hk2 d h.1
    obtain ⟨b1, b2, b3, b4, b5⟩ := D.shownL_ok hk hk2 ds h.2
    simp only [D.datL, PyData.leavesShortAll, PyData.showableAll, PyData.hasDictAll, PyData.bulkAll, PyData.depthAll, D.bulkL, D.depL, a1, a2, a3, a4, a5, b1, b2, b3, b4, b5]
    exact ⟨rfl, rfl, rfl, trivial, trivial⟩
end
mutual
theorem D.okS_pure {k : Nat} : ∀ {d : D}, D.okS k d = true → D.pure d = true
  | .non, _ => rfl
  | .bl _, _ => rfl
  | .int _, _ => rfl
  | .str _, _ => rfl
  | .tup ds, h => D.okSL_pure (ds := ds) h
  | .fl ds, h => D.okSL_pure (ds := ds) h
  | .rl ds, h => D.okSL_pure (ds := ds) h
  | .ref _, h => by cases h
theorem D.okSL_pure {k : Nat} : ∀ {ds : List D}, D.okSL k ds = true → D.pureL ds = true
  | [], _ => rfl
  | d :: ds, h => by
    have h : (D.okS k d && D.okSL k ds) = true := h
    rw [Bool.and_eq_true] at h
    show (D.fit 0 d && D.fitL 0 ds) = true
    exact Bool.and_eq_true_iff.mpr ⟨D.okS_pure h.1, D.okSL_pure h.2⟩
end
theorem datS_pure {S : Sto} {d : D} (h : D.pure d = true) : datS S d = some (D.dat d) := by
  cases d with
  | ref n => cases (show decide (n < 0) = true from h)
  | _ => unfold datS; exact if_pos h
/-- repr of a value that is not too large -/
def shownD (d : D) : Str := (D.dat d).shown
theorem cRepr_ok {S : Sto} {d : D} (k : Nat) (hk : 8 ≤ k) (hk2 : k ≤ 1920) (h : D.okS k d = true) (hb : (k + 3) * D.bulk d + k + 1 ≤ 16777216) (hd : D.dep d ≤ 62) : cRepr [d] S = some (.str (shownD d), S) := by
  obtain ⟨h1, h2, h3, h4, h5⟩ := D.shown_ok (by omega) hk2 d h
  unfold cRepr
  simp only [datS_pure (D.okS_pure h), Option.bind_some]
  refine if_pos ?_
  unfold showOk
  have hlen : (D.dat d).shown.length ≤ sizeLine := by
    rw [sizeLine_eq]
    have := PyData.shown_le_bulk (k + 1) (by omega) (D.dat d) h1
    rw [h4, show k + 1 + 2 = k + 3 by omega] at this
    omega
  rw [h2, h3, decide_eq_true (show (D.dat d).depth ≤ 62 by rw [h5]; exact hd), decide_eq_true hlen]
  rfl
theorem fit_dPair {n : Nat} {p : Int × Int} : D.fit n (dPair p) = true := rfl
theorem fit_ints {n : Nat} {ns : List Int} : D.fitL n (ns.map D.int) = true := D.fitL_all.mpr fun d hd => by
  obtain ⟨i, _, rfl⟩ := List.mem_map.mp hd
  rfl
theorem wo_iff {β : Type} {Q : β → Prop} {c : Prop} [Decidable c] {x : Option β} : Wo (if c then x else none) Q ↔ c ∧ Wo x Q := wo_ifN
theorem nn_iff {c : Prop} : (¬c → False) ↔ c := ⟨fun h => Classical.byContradiction h, fun h n => n h⟩
theorem imp_and' {c a : Prop} : ((c → a) ∧ c) ↔ (c ∧ a) := ⟨fun h => ⟨h.2, h.1 h.2⟩, fun h => ⟨fun _ => h.2, h.1⟩⟩
theorem szOk_0 : szOk ([] : List D) = true := decide_eq_true (by rw [sizeLine_eq]; show 0 ≤ 16777216; decide)
theorem szOk_1 {a : D} : szOk ([a] : List D) = true := decide_eq_true (by rw [sizeLine_eq]; show 1 ≤ 16777216; decide)
theorem szOk_2 {a b : D} : szOk ([a, b] : List D) = true := decide_eq_true (by rw [sizeLine_eq]; show 2 ≤ 16777216; decide)
theorem szOk_3 {a b c : D} : szOk ([a, b, c] : List D) = true := decide_eq_true (by rw [sizeLine_eq]; show 3 ≤ 16777216; decide)
theorem szOk_4 {a b c d : D} : szOk ([a, b, c, d] : List D) = true := decide_eq_true (by rw [sizeLine_eq]; show 4 ≤ 16777216; decide)
theorem szOk_5 {a b c d e : D} : szOk ([a, b, c, d, e] : List D) = true := decide_eq_true (by rw [sizeLine_eq]; show 5 ≤ 16777216; decide)
theorem szOk_6 {a b c d e f : D} : szOk ([a, b, c, d, e, f] : List D) = true := decide_eq_true (by rw [sizeLine_eq]; show 6 ≤ 16777216; decide)
theorem szOk_7 {a b c d e f g : D} : szOk ([a, b, c, d, e, f, g] : List D) = true := decide_eq_true (by rw [sizeLine_eq]; show 7 ≤ 16777216; decide)
theorem szOk_8 {a b c d e f g h : D} : szOk ([a, b, c, d, e, f, g, h] : List D) = true := decide_eq_true (by rw [sizeLine_eq]; show 8 ≤ 16777216; decide)
section
variable {S : Sto}
theorem eqA_int {i j : Int} : gEqA (.int i) (.int j) S = some (.bl (decide (i = j)), S) := rfl
theorem neA_int {i j : Int} : gNeA (.int i) (.int j) S = some (.bl (!decide (i = j)), S) := rfl
theorem eqA_str {i j : Str} : gEqA (.str i) (.str j) S = some (.bl (decide (i = j)), S) := rfl
theorem neA_str {i j : Str} : gNeA (.str i) (.str j) S = some (.bl (!decide (i = j)), S) := rfl
theorem eqA_bl {i j : Bool} : gEqA (.bl i) (.bl j) S = some (.bl (decide (i = j)), S) := rfl
theorem neA_bl {i j : Bool} : gNeA (.bl i) (.bl j) S = some (.bl (!decide (i = j)), S) := rfl
end
theorem okSL_ints {k : Nat} {ns : List Int} (h : ∀ i ∈ ns, i.natAbs.log2 < k) : D.okSL k (ns.map D.int) = true := by
  induction ns with
  | nil => rfl
  | cons i ns ih =>
    show (decide (i.natAbs.log2 < k) && D.okSL k (ns.map D.int)) = true
    rw [ih fun j hj => h j (List.mem_cons_of_mem _ hj), decide_eq_true (h i List.mem_cons_self)]
    rfl
theorem bulkL_ints {ns : List Int} : D.bulkL (ns.map D.int) = ns.length := by
  induction ns with
  | nil => rfl
  | cons i ns ih =>
    show 0 + 1 + D.bulkL (ns.map D.int) = _
    rw [ih, List.length_cons]
    omega
theorem depL_ints {ns : List Int} : D.depL (ns.map D.int) = 0 := by
  induction ns with
  | nil => rfl
  | cons i ns ih =>
    show max 0 (D.depL (ns.map D.int)) = 0
    rw [ih]
    rfl
theorem repr_ints {S : Sto} {ns : List Int} (h : ∀ i ∈ ns, i.natAbs < 2 ^ 64) (hl : ns.length ≤ 100000) : cRepr [.tup (ns.map D.int)] S = some (.str (shownD (.tup (ns.map D.int))), S) :=
  cRepr_ok 64 (by decide) (by decide) (okSL_ints fun i hi => log2_of (by decide) (h i hi)) (by show (64 + 3) * D.bulkL _ + 64 + 1 ≤ _; rw [bulkL_ints]; omega) (by show D.depL _ + 1 ≤ 62; rw [depL_ints]; decide)
theorem repr_pair {S : Sto} {p : Int × Int} (h : p.1.natAbs < 2 ^ 64) (h' : p.2.natAbs < 2 ^ 64) : cRepr [dPair p] S = some (.str (shownD (dPair p)), S) :=
  repr_ints (ns := [p.1, p.2]) (by simp [h, h']) (by show 2 ≤ 100000; decide)
theorem repr_bl {S : Sto} {b : Bool} : cRepr [.bl b] S = some (.str (shownD (.bl b)), S) := cRepr_ok 64 (by decide) (by decide) rfl (by show (64 + 3) * 0 + 64 + 1 ≤ 16777216; decide) (by show 0 ≤ 62; decide)
theorem repr_int {S : Sto} {i : Int} (h : i.natAbs < 2 ^ 64) : cRepr [.int i] S = some (.str (shownD (.int i)), S) := cRepr_ok 64 (by decide) (by decide) (decide_eq_true (log2_of (by decide) h)) (by show (64 + 3) * 0 + 64 + 1 ≤ 16777216; decide) (by show 0 ≤ 62; decide)
theorem repr_pairs2 {S : Sto} {p q : Int × Int} (h : p.1.natAbs < 2 ^ 64) (h' : p.2.natAbs < 2 ^ 64) (k : q.1.natAbs < 2 ^ 64) (k' : q.2.natAbs < 2 ^ 64) : cRepr [.fl [dPair p, dPair q]] S = some (.str (shownD (.fl [dPair p, dPair q])), S) := by
  refine cRepr_ok 64 (by decide) (by decide) ?_ (by show (64 + 3) * 6 + 65 ≤ _; decide) (by show 2 ≤ 62; decide)
  have a1 := log2_of (k := 64) (by decide) h
  have a2 := log2_of (k := 64) (by decide) h'
  have a3 := log2_of (k := 64) (by decide) k
  have a4 := log2_of (k := 64) (by decide) k'
  simp [D.okS, D.okSL, dPair, a1, a2, a3, a4]
/-- a comprehension over what stands, without an if -/
theorem dLc_all {fi : IDen} {g : NDen} {b : EDen} {vs : List Nat} {ρ : Env} {S : Sto} {items : List D} {f : D → D} (hi : fi ρ S = some (.fix items, S)) (hz : items.length ≤ 16777216) (h : ∀ d ∈ items, ∃ ρ1, g d (wipeE ρ vs) = some ρ1 ∧ b ρ1 S = some (f d, S)) : dLc fi g tYesD b vs ρ S = some (.fl (items.map f), S) := by
  unfold dLc
  rw [hi, bnd_mk, show Src.items (.fix items) = items from rfl, lcL_all (s := .fix items) rfl h, bnd_mk]
  exact if_pos (decide_eq_true (by rw [List.length_map, sizeLine_eq]; exact hz))
theorem dLc_map {α : Type} {fi : IDen} {g : NDen} {b : EDen} {vs : List Nat} {ρ : Env} {S : Sto} {items : List α} {e f : α → D} (hi : fi ρ S = some (.fix (items.map e), S)) (hz : items.length ≤ 16777216) (h : ∀ d ∈ items, ∃ ρ1, g (e d) (wipeE ρ vs) = some ρ1 ∧ b ρ1 S = some (f d, S)) : dLc fi g tYesD b vs ρ S = some (.fl (items.map f), S) := by
  unfold dLc
  rw [hi, bnd_mk, show Src.items (.fix (items.map e)) = items.map e from rfl]
  have key : ∀ ds : List α, (∀ d ∈ ds, d ∈ items) → lcL (.fix (items.map e)) g tYesD b (ds.map e) (wipeE ρ vs) S = some (ds.map f, S) := by
    intro ds
    induction ds with
    | nil => intro _; rfl
    | cons d ds ih =>
      intro hm
      obtain ⟨ρ1, e1, e2⟩ := h d (hm d List.mem_cons_self)
      rw [List.map_cons]
      unfold lcL
      rw [if_pos (show Src.ok (.fix (items.map e)) S = true from rfl), e1]
      simp only [tYesD, bnd_mk, if_true, e2, ih fun d' m => hm d' (List.mem_cons_of_mem _ m)]
      rfl
  rw [key items fun _ m => m, bnd_mk]
  exact if_pos (decide_eq_true (by rw [List.length_map, sizeLine_eq]; exact hz))
end MS

/-! the program's defs that several laws reach: what each does -/
namespace PG
open PySem PySem.Spec PyProof.Rows L2 MS
/-! common_divisor -/
def w1c_common_divisor : TDen := asB (dOp gGt (dVar 1) (dC (.int 0)))
def w1b_common_divisor : SDen :=
  sPar [0, 1] (aCons (dVar 1) (aCons (dOp gMod (dVar 0) (dVar 1)) (aNil)))
def b_common_divisor : SDen :=
  sSeq (sPar [0, 1] (aCons (dCB cAbs (aCons (dVar 0) (aNil))) (aCons (dCB cAbs (aCons (dVar 1) (aNil))) (aNil)))) <|
  sSeq (whileN (w1c_common_divisor) (w1b_common_divisor) 1000000000000000000000000000000000000000000000000000000000000) <|
  sRet (dVar 0)
def F_common_divisor : FP := bodyP 2 2 b_common_divisor
/-! whole_root -/
def w1c_whole_root : TDen := asB (dOp gLe (dOp gMul (dVar 2) (dVar 2)) (dVar 0))
def w1b_whole_root : SDen :=
  sAsg (dOp gMul (dC (.int 2)) (dVar 2)) (gN 2)
def w2c_whole_root : TDen := asB (dOp gGt (dOp gSub (dVar 2) (dVar 1)) (dC (.int 1)))
def w2b_whole_root : SDen :=
  sSeq (sAsg (dOp gDiv (dOp gAdd (dVar 1) (dVar 2)) (dC (.int 2))) (gN 3)) <|
  sIf (asB (dOp gLe (dOp gMul (dVar 3) (dVar 3)) (dVar 0))) (sAsg (dVar 3) (gN 1)) (sAsg (dVar 3) (gN 2))
def b_whole_root : SDen :=
  sSeq (sAsg (dTup (aCons (dC (.int 0)) (aCons (dC (.int 1)) (aNil)))) (gOf (nT 2 (nsCons (nN 1) (nsCons (nN 2) (nsNil)))))) <|
  sSeq (whileN (w1c_whole_root) (w1b_whole_root) 1000000000000000000000000000000000000000000000000000000000000) <|
  sSeq (whileN (w2c_whole_root) (w2b_whole_root) 1000000000000000000000000000000000000000000000000000000000000) <|
  sRet (dVar 1)
def F_whole_root : FP := bodyP 1 4 b_whole_root
/-! lowest_of -/
def b_lowest_of : SDen :=
  sSeq (sAsg (dCalP F_common_divisor (aCons (dVar 0) (aCons (dVar 1) (aNil)))) (gN 2)) <|
  sRet (dIf (asB (dOp gGt (dVar 1) (dC (.int 0)))) (dTup (aCons (dOp gDiv (dVar 0) (dVar 2)) (aCons (dOp gDiv (dVar 1) (dVar 2)) (aNil)))) (dTup (aCons (dOp gDiv (dUn gNeg (dVar 0)) (dVar 2)) (aCons (dOp gDiv (dUn gNeg (dVar 1)) (dVar 2)) (aNil)))))
def F_lowest_of : FP := bodyP 2 3 b_lowest_of
/-! floor_of -/
def b_floor_of : SDen :=
  sRet (dOp gDiv (dOp gIx (dVar 0) (dC (.int 0))) (dOp gIx (dVar 0) (dC (.int 1))))
def F_floor_of : FP := bodyP 1 1 b_floor_of
/-! ceiling_of -/
def b_ceiling_of : SDen :=
  sRet (dUn gNeg (dOp gDiv (dUn gNeg (dOp gIx (dVar 0) (dC (.int 0)))) (dOp gIx (dVar 0) (dC (.int 1)))))
def F_ceiling_of : FP := bodyP 1 1 b_ceiling_of
/-! nearest_of -/
def b_nearest_of : SDen :=
  sSeq (sAsg (dVar 0) (gOf (nT 2 (nsCons (nN 1) (nsCons (nN 2) (nsNil)))))) <|
  sRet (dUn gNeg (dOp gDiv (dOp gSub (dVar 2) (dOp gMul (dC (.int 2)) (dVar 1))) (dOp gMul (dC (.int 2)) (dVar 2))))
def F_nearest_of : FP := bodyP 1 3 b_nearest_of
/-! is_at_most -/
def b_is_at_most : SDen :=
  sRet (dOp gLe (dOp gMul (dOp gIx (dVar 0) (dC (.int 0))) (dOp gIx (dVar 1) (dC (.int 1)))) (dOp gMul (dOp gIx (dVar 1) (dC (.int 0))) (dOp gIx (dVar 0) (dC (.int 1)))))
def F_is_at_most : FP := bodyP 2 2 b_is_at_most
/-! fractions_added -/
def b_fractions_added : SDen :=
  sRet (dCalP F_lowest_of (aCons (dOp gAdd (dOp gMul (dOp gIx (dVar 0) (dC (.int 0))) (dOp gIx (dVar 1) (dC (.int 1)))) (dOp gMul (dOp gIx (dVar 1) (dC (.int 0))) (dOp gIx (dVar 0) (dC (.int 1))))) (aCons (dOp gMul (dOp gIx (dVar 0) (dC (.int 1))) (dOp gIx (dVar 1) (dC (.int 1)))) (aNil))))
def F_fractions_added : FP := bodyP 2 2 b_fractions_added
/-! far_of -/
def b_far_of : SDen :=
  sSeq (sAsg (dCalP F_lowest_of (aCons (dOp gSub (dOp gMul (dVar 1) (dOp gIx (dVar 0) (dC (.int 1)))) (dOp gIx (dVar 0) (dC (.int 0)))) (aCons (dOp gIx (dVar 0) (dC (.int 1))) (aNil)))) (gOf (nT 2 (nsCons (nN 2) (nsCons (nN 3) (nsNil)))))) <|
  sRet (dTup (aCons (dCB cAbs (aCons (dVar 2) (aNil))) (aCons (dVar 3) (aNil))))
def F_far_of : FP := bodyP 2 4 b_far_of
/-! outward_numbers -/
def w1c_outward_numbers : TDen := asB (dOp gLt (dCB cLen (aCons (dVar 3) (aNil))) (dVar 1))
def w1b_outward_numbers : SDen :=
  sIf (asB (dCalP F_is_at_most (aCons (dCalP F_far_of (aCons (dVar 0) (aCons (dVar 4) (aNil)))) (aCons (dCalP F_far_of (aCons (dVar 0) (aCons (dVar 5) (aNil)))) (aNil))))) (sSeq (sExpr (dMeth gAppend (dVar 3) (aCons (dVar 4) (aNil)))) <|
  sAsg (dOp gSub (dVar 4) (dC (.int 1))) (gN 4)) (sSeq (sExpr (dMeth gAppend (dVar 3) (aCons (dVar 5) (aNil)))) <|
  sAsg (dOp gAdd (dVar 5) (dC (.int 1))) (gN 5))
def b_outward_numbers : SDen :=
  sSeq (sAsg (dCalP F_nearest_of (aCons (dVar 0) (aNil))) (gN 2)) <|
  sSeq (sPar [3, 4, 5] (aCons (dCell (aCons (dVar 2) (aNil))) (aCons (dOp gSub (dVar 2) (dC (.int 1))) (aCons (dOp gAdd (dVar 2) (dC (.int 1))) (aNil))))) <|
  sSeq (whileN (w1c_outward_numbers) (w1b_outward_numbers) 1000000000000000000000000000000000000000000000000000000000000) <|
  sRet (dCB cTuple (aCons (dSl (dVar 3) pNo (pAt (dVar 1))) (aNil)))
def F_outward_numbers : FP := bodyP 2 6 b_outward_numbers
/-! _law_source -/
def f1b_n_law_source : SDen :=
  sAsg (dOp gMod (dCB cInt (aCons (dOp gAdd (dOp gAdd (dOp gMul (dVar 1) (dC (.int 69069))) (dOp gMul (dVar 2) (dC (.int 31)))) (dC (.int 5))) (aNil))) (dC (.int 2147483629))) (gN 1)
def b_n_law_source : SDen :=
  sSeq (sAsg (dC (.int 11)) (gN 1)) <|
  sSeq (sFor (iSeq (dVar 0)) (gOf (nN 2)) (f1b_n_law_source)) <|
  sSeq (sAsg (dLc (iSeq (dVar 0)) (nN 2) (tYesD) (dCB cAbs (aCons (dVar 2) (aNil))) [2]) (gN 3)) <|
  sRet (dDisp [(.inr "cells", dRevC (dVar 3)), (.inr "left", dC (.int 1)), (.inr "mixed", dVar 1), (.inr "turn", dC (.int 0))])
def F_n_law_source : FM := bodyN 1 4 b_n_law_source
/-! _law_pick -/
def w1c_n_law_pick : TDen := tbAnd (asB (dOp gLt (dOp gItem (dVar 0) (dC (.str "left"))) (dC (.int 2)))) (asB (dOp gGt (dCB cLen (aCons (dVar 2) (aNil))) (dC (.int 0))))
def w1b_n_law_pick : SDen :=
  sSet (dVar 0) (dC (.str "left")) (dMeth0 gPop (dVar 2))
def b_n_law_pick : SDen :=
  sSeq (sIf (asB (dOp gLt (dVar 1) (dC (.int 2)))) (sRet (dC (.int 0))) (sNil)) <|
  sSeq (sAsg (dOp gItem (dVar 0) (dC (.str "cells"))) (gN 2)) <|
  sSeq (whileN (w1c_n_law_pick) (w1b_n_law_pick) 1000000000000000000000000000000000000000000000000000000000000) <|
  sSeq (sAsg (dOp gItem (dVar 0) (dC (.str "left"))) (gN 3)) <|
  sSeq (sIf (asB (dOp gGt (dVar 3) (dC (.int 1)))) (sSeq (sSet (dVar 0) (dC (.str "left")) (dOp gDiv (dVar 3) (dVar 1))) <|
  sRet (dOp gMod (dCB cInt (aCons (dVar 3) (aNil))) (dVar 1))) (sNil)) <|
  sSeq (sSet (dVar 0) (dC (.str "turn")) (dOp gAdd (dOp gItem (dVar 0) (dC (.str "turn"))) (dC (.int 1)))) <|
  sSeq (sAsg (dOp gItem (dVar 0) (dC (.str "turn"))) (gN 4)) <|
  sSeq (sAsg (dOp gMod (dCB cInt (aCons (dOp gAdd (dOp gItem (dVar 0) (dC (.str "mixed"))) (dOp gMul (dVar 4) (dC (.int 104729)))) (aNil))) (dC (.int 998244353))) (gN 5)) <|
  sSeq (sAsg (dOp gMod (dCB cInt (aCons (dOp gAdd (dOp gMul (dVar 5) (dVar 5)) (dOp gMul (dVar 4) (dC (.int 17)))) (aNil))) (dC (.int 2147483647))) (gN 5)) <|
  sRet (dOp gMod (dCB cInt (aCons (dOp gDiv (dVar 5) (dC (.int 16))) (aNil))) (dVar 1))
def F_n_law_pick : FM := bodyM 2 6 b_n_law_pick
/-! _law_divided -/
def w1c_n_law_divided : TDen := asB (dOp gGt (dVar 3) (dC (.int 0)))
def w1b_n_law_divided : SDen :=
  sPar [2, 3] (aCons (dVar 3) (aCons (dOp gMod (dCB cInt (aCons (dVar 2) (aNil))) (dVar 3)) (aNil)))
def b_n_law_divided : SDen :=
  sSeq (sPar [2, 3] (aCons (dCB cMax2 (aCons (dVar 0) (aCons (dOp gSub (dC (.int 0)) (dVar 0)) (aNil)))) (aCons (dCB cMax2 (aCons (dVar 1) (aCons (dOp gSub (dC (.int 0)) (dVar 1)) (aNil)))) (aNil)))) <|
  sSeq (whileN (w1c_n_law_divided) (w1b_n_law_divided) 1000000000000000000000000000000000000000000000000000000000000) <|
  sRet (dIf (asB (dOp gGt (dVar 1) (dC (.int 0)))) (dTup (aCons (dOp gDiv (dVar 0) (dVar 2)) (aCons (dOp gDiv (dVar 1) (dVar 2)) (aNil)))) (dTup (aCons (dOp gDiv (dOp gSub (dC (.int 0)) (dVar 0)) (dVar 2)) (aCons (dOp gDiv (dOp gSub (dC (.int 0)) (dVar 1)) (dVar 2)) (aNil)))))
def F_n_law_divided : FP := bodyP 2 4 b_n_law_divided
end PG

/-! the numbers that a law draws from its script -/
namespace MS
open PySem PySem.Spec PyProof.Rows L2
theorem wo_seqK {f g : SDen} {ρ : Env} {S : Sto} {Q : Out × Env × Sto → Prop} (h : ∀ K : Out × Env × Sto → Prop, (∀ ρ' S', Wo (g ρ' S') Q → K (.nx, ρ', S')) → (∀ d ρ' S', Q (.rt d, ρ', S') → K (.rt d, ρ', S')) → (∀ ρ' S', Q (.bk, ρ', S') → K (.bk, ρ', S')) → (∀ ρ' S', Q (.ct, ρ', S') → K (.ct, ρ', S')) → Wo (f ρ S) K) : Wo (sSeq f g ρ S) Q :=
  wo_seq.mpr (h _ (fun _ _ h => h) (fun _ _ _ h => h) (fun _ _ h => h) (fun _ _ h => h))
/-- the same without a way out but the next -/
theorem wo_seqN {f g : SDen} {ρ : Env} {S : Sto} {Q : Out × Env × Sto → Prop} (h : ∀ K : Out × Env × Sto → Prop, (∀ ρ' S', Wo (g ρ' S') Q → K (.nx, ρ', S')) → Wo (f ρ S) K) : Wo (sSeq f g ρ S) Q :=
  wo_seq.mpr (h _ (fun _ _ h => h))
/-- what holds behind a statement is put down -/
theorem wo_mid {f g : SDen} {ρ : Env} {S : Sto} {Q : Out × Env × Sto → Prop} (R : Env → Sto → Prop) (h : Wo (f ρ S) fun r => r.1 = .nx ∧ R r.2.1 r.2.2) (h2 : ∀ ρ' S', R ρ' S' → Wo (g ρ' S') Q) : Wo (sSeq f g ρ S) Q := by
  obtain ⟨⟨o, ρ', S'⟩, e, rfl, hR⟩ := h
  exact wo_seq.mpr (wo_of e (h2 ρ' S' hR))
/-- cell 0 the script's cells, cell 1 what is left of the present one and so on -/
def srcD (l m t : Int) : List (Key × D) := [(.inr "cells", .ref 0), (.inr "left", .int l), (.inr "mixed", .int m), (.inr "turn", .int t)]
structure SrcAt (S : Sto) (cs : List Int) (l m t : Int) : Prop where
  c : S[0]? = some (.lst (cs.map .int))
  d : S[1]? = some (.dct (srcD l m t))
def Same2 (S S' : Sto) : Prop := S'.length = S.length ∧ ∀ j, 2 ≤ j → S'[j]? = S[j]?
theorem Same2.refl (S : Sto) : Same2 S S := ⟨rfl, fun _ _ => rfl⟩
theorem Same2.trans {S S' S'' : Sto} (h : Same2 S S') (h' : Same2 S' S'') : Same2 S S'' := ⟨h'.1.trans h.1, fun j hj => (h'.2 j hj).trans (h.2 j hj)⟩
def Drawn (S : Sto) : Prop := ∃ cs l m t, SrcAt S cs l m t ∧ cs.length ≤ 63
section
variable {S : Sto} {cs : List Int} {l m t : Int}
theorem SrcAt.len (h : SrcAt S cs l m t) : 2 ≤ S.length := by
  have := (List.getElem?_eq_some_iff.mp h.d).1
  omega
theorem SrcAt.item (h : SrcAt S cs l m t) (x : Str) (d : D) (e : dlook (srcD l m t) (.inr x) = some d := by rfl) : gItem (.ref 1) (.str x) S = some (d, S) := by
  unfold gItem dctAt
  simp only [h.d, keyOf, Option.bind_some, e, Option.map_some]
theorem SrcAt.put (h : SrcAt S cs l m t) (x : Str) (i l' m' t' : Int) (e : dput (srcD l m t) (.inr x) (.int i) = srcD l' m' t' := by rfl) : setItemD (.ref 1) (.str x) (.int i) S = some (S.set 1 (.dct (srcD l' m' t'))) ∧ SrcAt (S.set 1 (.dct (srcD l' m' t'))) cs l' m' t' ∧ Same2 S (S.set 1 (.dct (srcD l' m' t'))) := by
  have hl := h.len
  refine ⟨?_, ⟨?_, ?_⟩, List.length_set, fun j hj => ?_⟩
  · unfold setItemD dctAt
    simp only [h.d, keyOf, Option.bind_some]
    rw [if_pos ⟨by show 4 < sizeLine; rw [sizeLine_eq]; decide, rfl⟩, e]
  · rw [List.getElem?_set_ne (by omega)]
    exact h.c
  · rw [List.getElem?_set_self (by omega)]
  · rw [List.getElem?_set_ne (by omega)]
theorem SrcAt.pop (h : SrcAt S cs l m t) (hc : cs ≠ []) : ∃ i cs', cs = cs' ++ [i] ∧ gPop (.ref 0) [] S = some (.int i, S.set 0 (.lst (cs'.map .int))) ∧ SrcAt (S.set 0 (.lst (cs'.map .int))) cs' l m t ∧ Same2 S (S.set 0 (.lst (cs'.map .int))) := by
  have hl := h.len
  have e := List.dropLast_concat_getLast hc
  refine ⟨cs.getLast hc, cs.dropLast, e.symm, ?_, ⟨?_, ?_⟩, List.length_set, fun j hj => ?_⟩
  · have e2 : (cs.map D.int)[cs.length - 1]? = some (.int (cs.getLast hc)) := by
      rw [List.getElem?_map, ← List.getLast?_eq_getElem?, List.getLast?_eq_some_getLast hc]
      rfl
    unfold gPop
    simp only [h.c, List.length_map, e2, Option.map_some, List.map_dropLast]
  · rw [List.getElem?_set_self (by omega)]
  · rw [List.getElem?_set_ne (by omega)]
    exact h.d
  · rw [List.getElem?_set_ne (by omega)]
end
theorem fmod_lt' {a b : Int} (h : 0 < b) : 0 ≤ a.fmod b ∧ a.fmod b < b := by
  rw [Int.fmod_eq_emod_of_nonneg _ (by omega)]
  exact ⟨Int.emod_nonneg _ (by omega), Int.emod_lt_of_pos _ h⟩
theorem pick_ok {S : Sto} {most : Int} (hS : Drawn S) (h1 : 1 ≤ most) (h2 : most < 2 ^ 64) : Wo (PG.F_n_law_pick [.ref 1, .int most] S) fun p => ∃ r, p.1 = .int r ∧ 0 ≤ r ∧ r < most ∧ Drawn p.2 ∧ Same2 S p.2 := by
  have dv : divOk most = true := divOk_of (by omega) (by omega)
  have fin : Wo (PG.b_n_law_pick [some (.ref 1), some (.int most), none, none, none, none] S) (fun r => ∃ i, r.1 = .rt (.int i) ∧ 0 ≤ i ∧ i < most ∧ Drawn r.2.2 ∧ Same2 S r.2.2) → Wo (PG.F_n_law_pick [.ref 1, .int most] S) fun p => ∃ r, p.1 = .int r ∧ 0 ≤ r ∧ r < most ∧ Drawn p.2 ∧ Same2 S p.2 := by
    rintro ⟨⟨o, ρ', S'⟩, e, i, rfl, a1, a2, a3, a4⟩
    refine ⟨(.int i, S'), ?_, i, rfl, a1, a2, a3, a4⟩
    unfold PG.F_n_law_pick bodyM env0
    simp only [List.length_cons, List.length_nil, List.map_cons, List.map_nil, if_true]
    show (match PG.b_n_law_pick [some (.ref 1), some (.int most), none, none, none, none] S with
      | some (.rt d, _, S') => (D.fin S.length S' d).map fun d => (d, S'.take S.length)
      | some (.nx, _, S') => some (.non, S'.take S.length)
      | _ => none) = _
    rw [e]
    show (D.fin S.length S' (.int i)).map (fun d => (d, S'.take S.length)) = _
    rw [show D.fin S.length S' (.int i) = some (.int i) from rfl, Option.map_some, List.take_of_length_le (by rw [a4.1]; exact Nat.le_refl _)]
  refine fin ?_
  clear fin
  obtain ⟨cs, l, m, t, hA, hz⟩ := hS
  refine wo_seqK fun K k1 k2 _ _ => ?_
  simp only [sAsg, sIf, sRet, sRetN, sNil, sPass, sSet, sExpr, sPar, sBrk, sCnt, dC, dVar, dOp, dUn, dIf, dCB, dCalP, dCalM, dMeth, dMeth0, dAnd, dOr, dNot, dIsi, aNil, aCons, asB, tbAnd, tbOr, tbNot, dChain, gN, gOf, nN, nT, nsCons, nsNil, dTup, dLst, dCell, wo_bnd, wo_some, wo_map, wo_bind, wo_if, bnd_mk, List.getElem?_cons_zero, List.getElem?_cons_succ, List.set_cons_zero, List.set_cons_succ, Option.map_some, Option.bind_some, gAdd, MS.gSub, gMul, gMod, gDiv, gLt, gLe, gGt, gGe, gI, gNeg, cInt, cI, cII, cAbs, cMax2, cMin2, decide_eq_true_eq, if_true, if_false, List.zip_cons_cons, List.zip_nil_right, List.foldl_cons, List.foldl_nil, List.length_cons, List.length_nil, Nat.zero_add, Nat.reduceAdd, Bool.false_eq_true, decide_true, decide_false, true_and, and_true, true_implies, implies_true, false_implies, not_true_eq_false, D.pureL, D.pure, D.fitL, D.fit, fit_dPair, fit_ints, Bool.and_true, Bool.true_and, Bool.and_self, wo_none, nn_iff, imp_and', and_false, false_and, szOk_0, szOk_1, szOk_2, szOk_3, szOk_4, szOk_5, szOk_6, szOk_7, szOk_8, eqA_int, neA_int, eqA_str, neA_str, eqA_bl, neA_bl, Bool.not_eq_true', Bool.not_true, Bool.not_false, not_false_eq_true, tyOf, isT, String.reduceBEq, Bool.or_false, Bool.false_or, Bool.and_false, Bool.or_true, Bool.true_or, Bool.false_and]
  refine ⟨fun h => k2 _ _ _ ⟨0, rfl, by omega, by omega, ⟨cs, l, m, t, hA, hz⟩, .refl S⟩, fun h => k1 _ _ ?_⟩
  clear k1 k2
  refine wo_seqN fun K k1 => ?_
  simp only [sAsg, sIf, sRet, sRetN, sNil, sPass, sSet, sExpr, sPar, sBrk, sCnt, dC, dVar, dOp, dUn, dIf, dCB, dCalP, dCalM, dMeth, dMeth0, dAnd, dOr, dNot, dIsi, aNil, aCons, asB, tbAnd, tbOr, tbNot, dChain, gN, gOf, nN, nT, nsCons, nsNil, dTup, dLst, dCell, wo_bnd, wo_some, wo_map, wo_bind, wo_if, bnd_mk, List.getElem?_cons_zero, List.getElem?_cons_succ, List.set_cons_zero, List.set_cons_succ, Option.map_some, Option.bind_some, gAdd, MS.gSub, gMul, gMod, gDiv, gLt, gLe, gGt, gGe, gI, gNeg, cInt, cI, cII, cAbs, cMax2, cMin2, decide_eq_true_eq, if_true, if_false, List.zip_cons_cons, List.zip_nil_right, List.foldl_cons, List.foldl_nil, List.length_cons, List.length_nil, Nat.zero_add, Nat.reduceAdd, Bool.false_eq_true, decide_true, decide_false, true_and, and_true, true_implies, implies_true, false_implies, not_true_eq_false, D.pureL, D.pure, D.fitL, D.fit, fit_dPair, fit_ints, Bool.and_true, Bool.true_and, Bool.and_self, wo_none, nn_iff, imp_and', and_false, false_and, szOk_0, szOk_1, szOk_2, szOk_3, szOk_4, szOk_5, szOk_6, szOk_7, szOk_8, eqA_int, neA_int, eqA_str, neA_str, eqA_bl, neA_bl, Bool.not_eq_true', Bool.not_true, Bool.not_false, not_false_eq_true, tyOf, isT, String.reduceBEq, Bool.or_false, Bool.false_or, Bool.and_false, Bool.or_true, Bool.true_or, Bool.false_and, hA.item "cells" (.ref 0)]
  refine k1 _ _ ?_
  clear k1
  refine wo_mid (fun ρ' S' => ρ' = [some (.ref 1), some (.int most), some (.ref 0), none, none, none] ∧ ∃ cs l, SrcAt S' cs l m t ∧ cs.length ≤ 63 ∧ Same2 S S') ?_ ?_
  · refine wo_while (fun n ρ' S' => ρ' = [some (.ref 1), some (.int most), some (.ref 0), none, none, none] ∧ ∃ cs l, SrcAt S' cs l m t ∧ cs.length = n ∧ cs.length ≤ 63 ∧ Same2 S S') ⟨rfl, cs, l, hA, rfl, hz, .refl S⟩ (by omega) ?_
    rintro n ρ' S' ⟨rfl, cs, l, hA, rfl, hz, h2⟩
    unfold PG.w1c_n_law_pick
    have hlen : cLen [.ref 0] S' = some (.int cs.length, S') := by
      unfold cLen
      simp only [hA.c, List.length_map]
    simp only [sAsg, sIf, sRet, sRetN, sNil, sPass, sSet, sExpr, sPar, sBrk, sCnt, dC, dVar, dOp, dUn, dIf, dCB, dCalP, dCalM, dMeth, dMeth0, dAnd, dOr, dNot, dIsi, aNil, aCons, asB, tbAnd, tbOr, tbNot, dChain, gN, gOf, nN, nT, nsCons, nsNil, dTup, dLst, dCell, wo_bnd, wo_some, wo_map, wo_bind, wo_if, bnd_mk, List.getElem?_cons_zero, List.getElem?_cons_succ, List.set_cons_zero, List.set_cons_succ, Option.map_some, Option.bind_some, gAdd, MS.gSub, gMul, gMod, gDiv, gLt, gLe, gGt, gGe, gI, gNeg, cInt, cI, cII, cAbs, cMax2, cMin2, decide_eq_true_eq, if_true, if_false, List.zip_cons_cons, List.zip_nil_right, List.foldl_cons, List.foldl_nil, List.length_cons, List.length_nil, Nat.zero_add, Nat.reduceAdd, Bool.false_eq_true, decide_true, decide_false, true_and, and_true, true_implies, implies_true, false_implies, not_true_eq_false, D.pureL, D.pure, D.fitL, D.fit, fit_dPair, fit_ints, Bool.and_true, Bool.true_and, Bool.and_self, wo_none, nn_iff, imp_and', and_false, false_and, szOk_0, szOk_1, szOk_2, szOk_3, szOk_4, szOk_5, szOk_6, szOk_7, szOk_8, eqA_int, neA_int, eqA_str, neA_str, eqA_bl, neA_bl, Bool.not_eq_true', Bool.not_true, Bool.not_false, not_false_eq_true, tyOf, isT, String.reduceBEq, Bool.or_false, Bool.false_or, Bool.and_false, Bool.or_true, Bool.true_or, Bool.false_and, hA.item "left" (.int l), hlen]
    refine ⟨fun hl => ⟨fun hc => ?_, fun hc => ⟨cs, l, hA, hz, h2⟩⟩, fun hl => ⟨cs, l, hA, hz, h2⟩⟩
    have hne : cs ≠ [] := fun z => by rw [z] at hc; simp at hc
    obtain ⟨i, cs', rfl, e, hA', s2⟩ := hA.pop hne
    obtain ⟨e2, hA2, s3⟩ := hA'.put "left" i i m t
    have hL : isL S' (.ref 0) = true := by
      unfold isL listOf
      simp only [hA.c]
      rfl
    unfold PG.w1b_n_law_pick
    simp only [sAsg, sIf, sRet, sRetN, sNil, sPass, sSet, sExpr, sPar, sBrk, sCnt, dC, dVar, dOp, dUn, dIf, dCB, dCalP, dCalM, dMeth, dMeth0, dAnd, dOr, dNot, dIsi, aNil, aCons, asB, tbAnd, tbOr, tbNot, dChain, gN, gOf, nN, nT, nsCons, nsNil, dTup, dLst, dCell, wo_bnd, wo_some, wo_map, wo_bind, wo_if, bnd_mk, List.getElem?_cons_zero, List.getElem?_cons_succ, List.set_cons_zero, List.set_cons_succ, Option.map_some, Option.bind_some, gAdd, MS.gSub, gMul, gMod, gDiv, gLt, gLe, gGt, gGe, gI, gNeg, cInt, cI, cII, cAbs, cMax2, cMin2, decide_eq_true_eq, if_true, if_false, List.zip_cons_cons, List.zip_nil_right, List.foldl_cons, List.foldl_nil, List.length_cons, List.length_nil, Nat.zero_add, Nat.reduceAdd, Bool.false_eq_true, decide_true, decide_false, true_and, and_true, true_implies, implies_true, false_implies, not_true_eq_false, D.pureL, D.pure, D.fitL, D.fit, fit_dPair, fit_ints, Bool.and_true, Bool.true_and, Bool.and_self, wo_none, nn_iff, imp_and', and_false, false_and, szOk_0, szOk_1, szOk_2, szOk_3, szOk_4, szOk_5, szOk_6, szOk_7, szOk_8, eqA_int, neA_int, eqA_str, neA_str, eqA_bl, neA_bl, Bool.not_eq_true', Bool.not_true, Bool.not_false, not_false_eq_true, tyOf, isT, String.reduceBEq, Bool.or_false, Bool.false_or, Bool.and_false, Bool.or_true, Bool.true_or, Bool.false_and, hL, e, e2]
    refine ⟨cs'.length, by simp, cs', i, hA2, rfl, ?_, h2.trans (s2.trans s3)⟩
    rw [List.length_append] at hz
    omega
  · rintro ρ' S' ⟨rfl, cs, l, hA, hz, h2'⟩
    refine wo_seqN fun K k1 => ?_
    simp only [sAsg, sIf, sRet, sRetN, sNil, sPass, sSet, sExpr, sPar, sBrk, sCnt, dC, dVar, dOp, dUn, dIf, dCB, dCalP, dCalM, dMeth, dMeth0, dAnd, dOr, dNot, dIsi, aNil, aCons, asB, tbAnd, tbOr, tbNot, dChain, gN, gOf, nN, nT, nsCons, nsNil, dTup, dLst, dCell, wo_bnd, wo_some, wo_map, wo_bind, wo_if, bnd_mk, List.getElem?_cons_zero, List.getElem?_cons_succ, List.set_cons_zero, List.set_cons_succ, Option.map_some, Option.bind_some, gAdd, MS.gSub, gMul, gMod, gDiv, gLt, gLe, gGt, gGe, gI, gNeg, cInt, cI, cII, cAbs, cMax2, cMin2, decide_eq_true_eq, if_true, if_false, List.zip_cons_cons, List.zip_nil_right, List.foldl_cons, List.foldl_nil, List.length_cons, List.length_nil, Nat.zero_add, Nat.reduceAdd, Bool.false_eq_true, decide_true, decide_false, true_and, and_true, true_implies, implies_true, false_implies, not_true_eq_false, D.pureL, D.pure, D.fitL, D.fit, fit_dPair, fit_ints, Bool.and_true, Bool.true_and, Bool.and_self, wo_none, nn_iff, imp_and', and_false, false_and, szOk_0, szOk_1, szOk_2, szOk_3, szOk_4, szOk_5, szOk_6, szOk_7, szOk_8, eqA_int, neA_int, eqA_str, neA_str, eqA_bl, neA_bl, Bool.not_eq_true', Bool.not_true, Bool.not_false, not_false_eq_true, tyOf, isT, String.reduceBEq, Bool.or_false, Bool.false_or, Bool.and_false, Bool.or_true, Bool.true_or, Bool.false_and, hA.item "left" (.int l)]
    refine k1 _ _ ?_
    clear k1
    refine wo_seqK fun K k1 k2 _ _ => ?_
    obtain ⟨e2, hA2, s3⟩ := hA.put "left" (l.fdiv most) (l.fdiv most) m t
    have hne : most ≠ 0 := by omega
    simp only [sAsg, sIf, sRet, sRetN, sNil, sPass, sSet, sExpr, sPar, sBrk, sCnt, dC, dVar, dOp, dUn, dIf, dCB, dCalP, dCalM, dMeth, dMeth0, dAnd, dOr, dNot, dIsi, aNil, aCons, asB, tbAnd, tbOr, tbNot, dChain, gN, gOf, nN, nT, nsCons, nsNil, dTup, dLst, dCell, wo_bnd, wo_some, wo_map, wo_bind, wo_if, bnd_mk, List.getElem?_cons_zero, List.getElem?_cons_succ, List.set_cons_zero, List.set_cons_succ, Option.map_some, Option.bind_some, gAdd, MS.gSub, gMul, gMod, gDiv, gLt, gLe, gGt, gGe, gI, gNeg, cInt, cI, cII, cAbs, cMax2, cMin2, decide_eq_true_eq, if_true, if_false, List.zip_cons_cons, List.zip_nil_right, List.foldl_cons, List.foldl_nil, List.length_cons, List.length_nil, Nat.zero_add, Nat.reduceAdd, Bool.false_eq_true, decide_true, decide_false, true_and, and_true, true_implies, implies_true, false_implies, not_true_eq_false, D.pureL, D.pure, D.fitL, D.fit, fit_dPair, fit_ints, Bool.and_true, Bool.true_and, Bool.and_self, wo_none, nn_iff, imp_and', and_false, false_and, szOk_0, szOk_1, szOk_2, szOk_3, szOk_4, szOk_5, szOk_6, szOk_7, szOk_8, eqA_int, neA_int, eqA_str, neA_str, eqA_bl, neA_bl, Bool.not_eq_true', Bool.not_true, Bool.not_false, not_false_eq_true, tyOf, isT, String.reduceBEq, Bool.or_false, Bool.false_or, Bool.and_false, Bool.or_true, Bool.true_or, Bool.false_and, wo_seq, dv, e2, hne, ne_eq, not_false_eq_true]
    refine ⟨fun h => k2 _ _ _ ⟨l.fmod most, rfl, (fmod_lt' (by omega)).1, (fmod_lt' (by omega)).2, ⟨cs, _, m, t, hA2, hz⟩, h2'.trans s3⟩, fun h => k1 _ _ ?_⟩
    clear k1 k2
    refine wo_seqN fun K k1 => ?_
    obtain ⟨e2, hA2, s3⟩ := hA.put "turn" (t + 1) l m (t + 1)
    simp only [sAsg, sIf, sRet, sRetN, sNil, sPass, sSet, sExpr, sPar, sBrk, sCnt, dC, dVar, dOp, dUn, dIf, dCB, dCalP, dCalM, dMeth, dMeth0, dAnd, dOr, dNot, dIsi, aNil, aCons, asB, tbAnd, tbOr, tbNot, dChain, gN, gOf, nN, nT, nsCons, nsNil, dTup, dLst, dCell, wo_bnd, wo_some, wo_map, wo_bind, wo_if, bnd_mk, List.getElem?_cons_zero, List.getElem?_cons_succ, List.set_cons_zero, List.set_cons_succ, Option.map_some, Option.bind_some, gAdd, MS.gSub, gMul, gMod, gDiv, gLt, gLe, gGt, gGe, gI, gNeg, cInt, cI, cII, cAbs, cMax2, cMin2, decide_eq_true_eq, if_true, if_false, List.zip_cons_cons, List.zip_nil_right, List.foldl_cons, List.foldl_nil, List.length_cons, List.length_nil, Nat.zero_add, Nat.reduceAdd, Bool.false_eq_true, decide_true, decide_false, true_and, and_true, true_implies, implies_true, false_implies, not_true_eq_false, D.pureL, D.pure, D.fitL, D.fit, fit_dPair, fit_ints, Bool.and_true, Bool.true_and, Bool.and_self, wo_none, nn_iff, imp_and', and_false, false_and, szOk_0, szOk_1, szOk_2, szOk_3, szOk_4, szOk_5, szOk_6, szOk_7, szOk_8, eqA_int, neA_int, eqA_str, neA_str, eqA_bl, neA_bl, Bool.not_eq_true', Bool.not_true, Bool.not_false, not_false_eq_true, tyOf, isT, String.reduceBEq, Bool.or_false, Bool.false_or, Bool.and_false, Bool.or_true, Bool.true_or, Bool.false_and, hA.item "turn" (.int t), e2]
    refine k1 _ _ ?_
    clear k1
    refine wo_seqN fun K k1 => ?_
    simp only [sAsg, sIf, sRet, sRetN, sNil, sPass, sSet, sExpr, sPar, sBrk, sCnt, dC, dVar, dOp, dUn, dIf, dCB, dCalP, dCalM, dMeth, dMeth0, dAnd, dOr, dNot, dIsi, aNil, aCons, asB, tbAnd, tbOr, tbNot, dChain, gN, gOf, nN, nT, nsCons, nsNil, dTup, dLst, dCell, wo_bnd, wo_some, wo_map, wo_bind, wo_if, bnd_mk, List.getElem?_cons_zero, List.getElem?_cons_succ, List.set_cons_zero, List.set_cons_succ, Option.map_some, Option.bind_some, gAdd, MS.gSub, gMul, gMod, gDiv, gLt, gLe, gGt, gGe, gI, gNeg, cInt, cI, cII, cAbs, cMax2, cMin2, decide_eq_true_eq, if_true, if_false, List.zip_cons_cons, List.zip_nil_right, List.foldl_cons, List.foldl_nil, List.length_cons, List.length_nil, Nat.zero_add, Nat.reduceAdd, Bool.false_eq_true, decide_true, decide_false, true_and, and_true, true_implies, implies_true, false_implies, not_true_eq_false, D.pureL, D.pure, D.fitL, D.fit, fit_dPair, fit_ints, Bool.and_true, Bool.true_and, Bool.and_self, wo_none, nn_iff, imp_and', and_false, false_and, szOk_0, szOk_1, szOk_2, szOk_3, szOk_4, szOk_5, szOk_6, szOk_7, szOk_8, eqA_int, neA_int, eqA_str, neA_str, eqA_bl, neA_bl, Bool.not_eq_true', Bool.not_true, Bool.not_false, not_false_eq_true, tyOf, isT, String.reduceBEq, Bool.or_false, Bool.false_or, Bool.and_false, Bool.or_true, Bool.true_or, Bool.false_and, hA2.item "turn" (.int (t + 1))]
    refine k1 _ _ ?_
    clear k1
    refine wo_seqN fun K k1 => ?_
    have mk1 : mulOk (t + 1) 104729 = true := mulOk_r (by decide)
    simp only [sAsg, sIf, sRet, sRetN, sNil, sPass, sSet, sExpr, sPar, sBrk, sCnt, dC, dVar, dOp, dUn, dIf, dCB, dCalP, dCalM, dMeth, dMeth0, dAnd, dOr, dNot, dIsi, aNil, aCons, asB, tbAnd, tbOr, tbNot, dChain, gN, gOf, nN, nT, nsCons, nsNil, dTup, dLst, dCell, wo_bnd, wo_some, wo_map, wo_bind, wo_if, bnd_mk, List.getElem?_cons_zero, List.getElem?_cons_succ, List.set_cons_zero, List.set_cons_succ, Option.map_some, Option.bind_some, gAdd, MS.gSub, gMul, gMod, gDiv, gLt, gLe, gGt, gGe, gI, gNeg, cInt, cI, cII, cAbs, cMax2, cMin2, decide_eq_true_eq, if_true, if_false, List.zip_cons_cons, List.zip_nil_right, List.foldl_cons, List.foldl_nil, List.length_cons, List.length_nil, Nat.zero_add, Nat.reduceAdd, Bool.false_eq_true, decide_true, decide_false, true_and, and_true, true_implies, implies_true, false_implies, not_true_eq_false, D.pureL, D.pure, D.fitL, D.fit, fit_dPair, fit_ints, Bool.and_true, Bool.true_and, Bool.and_self, wo_none, nn_iff, imp_and', and_false, false_and, szOk_0, szOk_1, szOk_2, szOk_3, szOk_4, szOk_5, szOk_6, szOk_7, szOk_8, eqA_int, neA_int, eqA_str, neA_str, eqA_bl, neA_bl, Bool.not_eq_true', Bool.not_true, Bool.not_false, not_false_eq_true, tyOf, isT, String.reduceBEq, Bool.or_false, Bool.false_or, Bool.and_false, Bool.or_true, Bool.true_or, Bool.false_and, hA2.item "mixed" (.int m), mk1, show ((998244353 : Int) ≠ 0) ↔ True from by decide]
    refine k1 _ _ ?_
    clear k1
    refine wo_seqN fun K k1 => ?_
    generalize hq : (m + (t + 1) * 104729).fmod 998244353 = q
    have hb := fmod_lt' (a := m + (t + 1) * 104729) (b := 998244353) (by decide)
    rw [hq] at hb
    have mk2 : mulOk q q = true := mulOk_r (by omega)
    have mk3 : mulOk (t + 1) 17 = true := mulOk_r (by decide)
    simp only [sAsg, sIf, sRet, sRetN, sNil, sPass, sSet, sExpr, sPar, sBrk, sCnt, dC, dVar, dOp, dUn, dIf, dCB, dCalP, dCalM, dMeth, dMeth0, dAnd, dOr, dNot, dIsi, aNil, aCons, asB, tbAnd, tbOr, tbNot, dChain, gN, gOf, nN, nT, nsCons, nsNil, dTup, dLst, dCell, wo_bnd, wo_some, wo_map, wo_bind, wo_if, bnd_mk, List.getElem?_cons_zero, List.getElem?_cons_succ, List.set_cons_zero, List.set_cons_succ, Option.map_some, Option.bind_some, gAdd, MS.gSub, gMul, gMod, gDiv, gLt, gLe, gGt, gGe, gI, gNeg, cInt, cI, cII, cAbs, cMax2, cMin2, decide_eq_true_eq, if_true, if_false, List.zip_cons_cons, List.zip_nil_right, List.foldl_cons, List.foldl_nil, List.length_cons, List.length_nil, Nat.zero_add, Nat.reduceAdd, Bool.false_eq_true, decide_true, decide_false, true_and, and_true, true_implies, implies_true, false_implies, not_true_eq_false, D.pureL, D.pure, D.fitL, D.fit, fit_dPair, fit_ints, Bool.and_true, Bool.true_and, Bool.and_self, wo_none, nn_iff, imp_and', and_false, false_and, szOk_0, szOk_1, szOk_2, szOk_3, szOk_4, szOk_5, szOk_6, szOk_7, szOk_8, eqA_int, neA_int, eqA_str, neA_str, eqA_bl, neA_bl, Bool.not_eq_true', Bool.not_true, Bool.not_false, not_false_eq_true, tyOf, isT, String.reduceBEq, Bool.or_false, Bool.false_or, Bool.and_false, Bool.or_true, Bool.true_or, Bool.false_and, mk2, mk3, show ((2147483647 : Int) ≠ 0) ↔ True from by decide]
    refine k1 _ _ ?_
    clear k1
    have dv2 : divOk 16 = true := divOk_of (by decide) (by decide)
    simp only [sAsg, sIf, sRet, sRetN, sNil, sPass, sSet, sExpr, sPar, sBrk, sCnt, dC, dVar, dOp, dUn, dIf, dCB, dCalP, dCalM, dMeth, dMeth0, dAnd, dOr, dNot, dIsi, aNil, aCons, asB, tbAnd, tbOr, tbNot, dChain, gN, gOf, nN, nT, nsCons, nsNil, dTup, dLst, dCell, wo_bnd, wo_some, wo_map, wo_bind, wo_if, bnd_mk, List.getElem?_cons_zero, List.getElem?_cons_succ, List.set_cons_zero, List.set_cons_succ, Option.map_some, Option.bind_some, gAdd, MS.gSub, gMul, gMod, gDiv, gLt, gLe, gGt, gGe, gI, gNeg, cInt, cI, cII, cAbs, cMax2, cMin2, decide_eq_true_eq, if_true, if_false, List.zip_cons_cons, List.zip_nil_right, List.foldl_cons, List.foldl_nil, List.length_cons, List.length_nil, Nat.zero_add, Nat.reduceAdd, Bool.false_eq_true, decide_true, decide_false, true_and, and_true, true_implies, implies_true, false_implies, not_true_eq_false, D.pureL, D.pure, D.fitL, D.fit, fit_dPair, fit_ints, Bool.and_true, Bool.true_and, Bool.and_self, wo_none, nn_iff, imp_and', and_false, false_and, szOk_0, szOk_1, szOk_2, szOk_3, szOk_4, szOk_5, szOk_6, szOk_7, szOk_8, eqA_int, neA_int, eqA_str, neA_str, eqA_bl, neA_bl, Bool.not_eq_true', Bool.not_true, Bool.not_false, not_false_eq_true, tyOf, isT, String.reduceBEq, Bool.or_false, Bool.false_or, Bool.and_false, Bool.or_true, Bool.true_or, Bool.false_and, dv2, hne, ne_eq, not_false_eq_true]
    exact ⟨_, rfl, (fmod_lt' (by omega)).1, (fmod_lt' (by omega)).2, ⟨cs, l, m, t + 1, hA2, hz⟩, h2'.trans s3⟩
end MS

namespace MS
open PySem PySem.Spec PyProof.Rows L2
def absI (i : Int) : Int := if i < 0 then -i else i
theorem fitL_ints (n : Nat) (ns : List Int) : D.fitL n (ns.map D.int) = true := D.fitL_all.mpr fun d hd => by
  obtain ⟨i, _, rfl⟩ := List.mem_map.mp hd
  rfl
theorem src_ok {ns : List Int} (h : ns.length ≤ 63) : Wo (PG.F_n_law_source [.rl (ns.map D.int)] []) fun p => p.1 = .ref 1 ∧ Drawn p.2 ∧ p.2.length = 2 := by
  suffices core : Wo (PG.b_n_law_source [some (.rl (ns.map D.int)), none, none, none] []) fun r => r.1 = .rt (.ref 1) ∧ Drawn r.2.2 ∧ r.2.2.length = 2 by
    obtain ⟨⟨o, ρ', S'⟩, e, rfl, a1, a2⟩ := core
    refine ⟨(.ref 1, S'), ?_, rfl, a1, a2⟩
    unfold PG.F_n_law_source bodyN env0
    simp only [List.length_cons, List.length_nil, List.map_cons, List.map_nil, if_true]
    show (match PG.b_n_law_source [some (.rl (ns.map D.int)), none, none, none] [] with
      | some (.rt d, _, S') => some (d, S')
      | some (.nx, _, S') => some (.non, S')
      | _ => none) = _
    rw [e]
  refine wo_seqN fun K k1 => ?_
  simp only [sAsg, sIf, sRet, sRetN, sNil, sPass, sSet, sExpr, sPar, sBrk, sCnt, dC, dVar, dOp, dUn, dIf, dCB, dCalP, dCalM, dMeth, dMeth0, dAnd, dOr, dNot, dIsi, aNil, aCons, asB, tbAnd, tbOr, tbNot, dChain, gN, gOf, nN, nT, nsCons, nsNil, dTup, dLst, dCell, wo_bnd, wo_some, wo_map, wo_bind, wo_if, bnd_mk, List.getElem?_cons_zero, List.getElem?_cons_succ, List.set_cons_zero, List.set_cons_succ, Option.map_some, Option.bind_some, gAdd, MS.gSub, gMul, gMod, gDiv, gLt, gLe, gGt, gGe, gI, gNeg, cInt, cI, cII, cAbs, cMax2, cMin2, decide_eq_true_eq, if_true, if_false, List.zip_cons_cons, List.zip_nil_right, List.foldl_cons, List.foldl_nil, List.length_cons, List.length_nil, Nat.zero_add, Nat.reduceAdd, Bool.false_eq_true, decide_true, decide_false, true_and, and_true, true_implies, implies_true, false_implies, not_true_eq_false, D.pureL, D.pure, D.fitL, D.fit, fit_dPair, fit_ints, Bool.and_true, Bool.true_and, Bool.and_self, wo_none, nn_iff, imp_and', and_false, false_and, szOk_0, szOk_1, szOk_2, szOk_3, szOk_4, szOk_5, szOk_6, szOk_7, szOk_8, eqA_int, neA_int, eqA_str, neA_str, eqA_bl, neA_bl, Bool.not_eq_true', Bool.not_true, Bool.not_false, not_false_eq_true, tyOf, isT, String.reduceBEq, Bool.or_false, Bool.false_or, Bool.and_false, Bool.or_true, Bool.true_or, Bool.false_and]
  refine k1 _ _ ?_
  clear k1
  refine wo_mid (fun ρ' S' => S' = [] ∧ ∃ m c, ρ' = [some (.rl (ns.map D.int)), some (.int m), c, none]) ?_ ?_
  · unfold sFor iSeq
    simp only [sAsg, sIf, sRet, sRetN, sNil, sPass, sSet, sExpr, sPar, sBrk, sCnt, dC, dVar, dOp, dUn, dIf, dCB, dCalP, dCalM, dMeth, dMeth0, dAnd, dOr, dNot, dIsi, aNil, aCons, asB, tbAnd, tbOr, tbNot, dChain, gN, gOf, nN, nT, nsCons, nsNil, dTup, dLst, dCell, wo_bnd, wo_some, wo_map, wo_bind, wo_if, bnd_mk, List.getElem?_cons_zero, List.getElem?_cons_succ, List.set_cons_zero, List.set_cons_succ, Option.map_some, Option.bind_some, gAdd, MS.gSub, gMul, gMod, gDiv, gLt, gLe, gGt, gGe, gI, gNeg, cInt, cI, cII, cAbs, cMax2, cMin2, decide_eq_true_eq, if_true, if_false, List.zip_cons_cons, List.zip_nil_right, List.foldl_cons, List.foldl_nil, List.length_cons, List.length_nil, Nat.zero_add, Nat.reduceAdd, Bool.false_eq_true, decide_true, decide_false, true_and, and_true, true_implies, implies_true, false_implies, not_true_eq_false, D.pureL, D.pure, D.fitL, D.fit, fit_dPair, fit_ints, Bool.and_true, Bool.true_and, Bool.and_self, wo_none, nn_iff, imp_and', and_false, false_and, szOk_0, szOk_1, szOk_2, szOk_3, szOk_4, szOk_5, szOk_6, szOk_7, szOk_8, eqA_int, neA_int, eqA_str, neA_str, eqA_bl, neA_bl, Bool.not_eq_true', Bool.not_true, Bool.not_false, not_false_eq_true, tyOf, isT, String.reduceBEq, Bool.or_false, Bool.false_or, Bool.and_false, Bool.or_true, Bool.true_or, Bool.false_and]
    refine wo_for (fun i ρ' S' => S' = [] ∧ ∃ m c, ρ' = [some (.rl (ns.map D.int)), some (.int m), c, none]) ⟨rfl, 11, none, rfl⟩ (fun _ _ _ _ _ => rfl) ?_ ?_
    · rintro i d ρ' S' hd ⟨rfl, m, c, rfl⟩
      have hd : (ns.map D.int)[i]? = some d := hd
      rw [List.getElem?_map, Option.map_eq_some_iff] at hd
      obtain ⟨j, _, rfl⟩ := hd
      unfold PG.f1b_n_law_source
      have m1 : mulOk m 69069 = true := mulOk_r (by decide)
      have m2 : mulOk j 31 = true := mulOk_r (by decide)
      simp only [sAsg, sIf, sRet, sRetN, sNil, sPass, sSet, sExpr, sPar, sBrk, sCnt, dC, dVar, dOp, dUn, dIf, dCB, dCalP, dCalM, dMeth, dMeth0, dAnd, dOr, dNot, dIsi, aNil, aCons, asB, tbAnd, tbOr, tbNot, dChain, gN, gOf, nN, nT, nsCons, nsNil, dTup, dLst, dCell, wo_bnd, wo_some, wo_map, wo_bind, wo_if, bnd_mk, List.getElem?_cons_zero, List.getElem?_cons_succ, List.set_cons_zero, List.set_cons_succ, Option.map_some, Option.bind_some, gAdd, MS.gSub, gMul, gMod, gDiv, gLt, gLe, gGt, gGe, gI, gNeg, cInt, cI, cII, cAbs, cMax2, cMin2, decide_eq_true_eq, if_true, if_false, List.zip_cons_cons, List.zip_nil_right, List.foldl_cons, List.foldl_nil, List.length_cons, List.length_nil, Nat.zero_add, Nat.reduceAdd, Bool.false_eq_true, decide_true, decide_false, true_and, and_true, true_implies, implies_true, false_implies, not_true_eq_false, D.pureL, D.pure, D.fitL, D.fit, fit_dPair, fit_ints, Bool.and_true, Bool.true_and, Bool.and_self, wo_none, nn_iff, imp_and', and_false, false_and, szOk_0, szOk_1, szOk_2, szOk_3, szOk_4, szOk_5, szOk_6, szOk_7, szOk_8, eqA_int, neA_int, eqA_str, neA_str, eqA_bl, neA_bl, Bool.not_eq_true', Bool.not_true, Bool.not_false, not_false_eq_true, tyOf, isT, String.reduceBEq, Bool.or_false, Bool.false_or, Bool.and_false, Bool.or_true, Bool.true_or, Bool.false_and, m1, m2, show ((2147483629 : Int) ≠ 0) ↔ True from by decide]
      exact ⟨_, _, rfl⟩
    · rintro ρ' S' ⟨rfl, m, c, rfl⟩
      exact ⟨rfl, rfl, m, c, rfl⟩
  · rintro ρ' S' ⟨rfl, m, c, rfl⟩
    have lc : lcL (.fix (ns.map D.int)) (nN 2) tYesD (dCB cAbs (aCons (dVar 2) aNil)) (ns.map D.int) [some (.rl (ns.map D.int)), some (.int m), none, none] [] = some (((ns.map absI).map D.int), []) := by
      rw [lcL_all rfl (f := fun d => match d with | .int i => .int (absI i) | d => d)]
      · rw [List.map_map, List.map_map]
        rfl
      · intro d hd
        obtain ⟨i, _, rfl⟩ := List.mem_map.mp hd
        exact ⟨_, rfl, rfl⟩
    have sz : szOk ((ns.map absI).map D.int) = true := decide_eq_true (by rw [List.length_map, List.length_map, sizeLine_eq]; omega)
    have lc2 : dLc (iSeq (dVar 0)) (nN 2) tYesD (dCB cAbs (aCons (dVar 2) aNil)) [2] [some (.rl (ns.map D.int)), some (.int m), c, none] [] = some (.fl ((ns.map absI).map D.int), []) := by
      show bnd (lcL (.fix (ns.map D.int)) (nN 2) tYesD (dCB cAbs (aCons (dVar 2) aNil)) (ns.map D.int) [some (.rl (ns.map D.int)), some (.int m), none, none] []) _ = _
      rw [lc]
      exact if_pos sz
    refine wo_seqN fun K k1 => ?_
    unfold sAsg
    rw [lc2]
    simp only [sAsg, sIf, sRet, sRetN, sNil, sPass, sSet, sExpr, sPar, sBrk, sCnt, dC, dVar, dOp, dUn, dIf, dCB, dCalP, dCalM, dMeth, dMeth0, dAnd, dOr, dNot, dIsi, aNil, aCons, asB, tbAnd, tbOr, tbNot, dChain, gN, gOf, nN, nT, nsCons, nsNil, dTup, dLst, dCell, wo_bnd, wo_some, wo_map, wo_bind, wo_if, bnd_mk, List.getElem?_cons_zero, List.getElem?_cons_succ, List.set_cons_zero, List.set_cons_succ, Option.map_some, Option.bind_some, gAdd, MS.gSub, gMul, gMod, gDiv, gLt, gLe, gGt, gGe, gI, gNeg, cInt, cI, cII, cAbs, cMax2, cMin2, decide_eq_true_eq, if_true, if_false, List.zip_cons_cons, List.zip_nil_right, List.foldl_cons, List.foldl_nil, List.length_cons, List.length_nil, Nat.zero_add, Nat.reduceAdd, Bool.false_eq_true, decide_true, decide_false, true_and, and_true, true_implies, implies_true, false_implies, not_true_eq_false, D.pureL, D.pure, D.fitL, D.fit, fit_dPair, fit_ints, Bool.and_true, Bool.true_and, Bool.and_self, wo_none, nn_iff, imp_and', and_false, false_and, szOk_0, szOk_1, szOk_2, szOk_3, szOk_4, szOk_5, szOk_6, szOk_7, szOk_8, eqA_int, neA_int, eqA_str, neA_str, eqA_bl, neA_bl, Bool.not_eq_true', Bool.not_true, Bool.not_false, not_false_eq_true, tyOf, isT, String.reduceBEq, Bool.or_false, Bool.false_or, Bool.and_false, Bool.or_true, Bool.true_or, Bool.false_and]
    refine k1 _ _ ?_
    clear k1
    have hr : D.fitL 0 ((ns.map absI).map D.int) = true := fitL_ints _ _
    unfold dDisp dRevC
    simp only [dDispL, sAsg, sIf, sRet, sRetN, sNil, sPass, sSet, sExpr, sPar, sBrk, sCnt, dC, dVar, dOp, dUn, dIf, dCB, dCalP, dCalM, dMeth, dMeth0, dAnd, dOr, dNot, dIsi, aNil, aCons, asB, tbAnd, tbOr, tbNot, dChain, gN, gOf, nN, nT, nsCons, nsNil, dTup, dLst, dCell, wo_bnd, wo_some, wo_map, wo_bind, wo_if, bnd_mk, List.getElem?_cons_zero, List.getElem?_cons_succ, List.set_cons_zero, List.set_cons_succ, Option.map_some, Option.bind_some, gAdd, MS.gSub, gMul, gMod, gDiv, gLt, gLe, gGt, gGe, gI, gNeg, cInt, cI, cII, cAbs, cMax2, cMin2, decide_eq_true_eq, if_true, if_false, List.zip_cons_cons, List.zip_nil_right, List.foldl_cons, List.foldl_nil, List.length_cons, List.length_nil, Nat.zero_add, Nat.reduceAdd, Bool.false_eq_true, decide_true, decide_false, true_and, and_true, true_implies, implies_true, false_implies, not_true_eq_false, D.pureL, D.pure, D.fitL, D.fit, fit_dPair, fit_ints, Bool.and_true, Bool.true_and, Bool.and_self, wo_none, nn_iff, imp_and', and_false, false_and, szOk_0, szOk_1, szOk_2, szOk_3, szOk_4, szOk_5, szOk_6, szOk_7, szOk_8, eqA_int, neA_int, eqA_str, neA_str, eqA_bl, neA_bl, Bool.not_eq_true', Bool.not_true, Bool.not_false, not_false_eq_true, tyOf, isT, String.reduceBEq, Bool.or_false, Bool.false_or, Bool.and_false, Bool.or_true, Bool.true_or, Bool.false_and, listOf, hr, List.nil_append, List.map_cons, List.map_nil]
    exact ⟨by decide, ⟨(ns.map absI).reverse, 1, m, 0, ⟨by rw [List.map_reverse]; rfl, rfl⟩, by rw [List.length_reverse, List.length_map]; exact h⟩, rfl⟩
end MS

/-! whole numbers, fractions -/
namespace MS
open PySem PySem.Spec PyProof.Rows L2
theorem D.fin_pure {n : Nat} {S : Sto} {d : D} (h : D.pure d = true) : D.fin n S d = some d := if_pos (D.fit_mono (Nat.zero_le _) h)
/-- a pure def by a run of its body -/
theorem bodyP_run {np nn : Nat} {b : SDen} {ds : List D} {d : D} (hl : ds.length = np) (hp : D.pure d = true) (h : Wo (b (env0 nn ds) []) fun r => r.1 = .rt d) : bodyP np nn b ds = some d := by
  obtain ⟨⟨o, ρ', S'⟩, e, rfl⟩ := h
  unfold bodyP
  rw [if_pos hl, e]
  exact D.fin_pure hp
theorem fdiv_pos {a b : Int} (h : 0 < b) : a.fdiv b = a / b := Int.fdiv_eq_ediv_of_nonneg _ (by omega)
theorem fmod_pos {a b : Int} (h : 0 < b) : a.fmod b = a % b := Int.fmod_eq_emod_of_nonneg _ (by omega)
theorem gcd_step {x y : Int} : Int.gcd y (x % y) = Int.gcd x y := by
  have : x = x % y + y * (x / y) := (Int.emod_add_mul_ediv x y).symm
  rw [Int.gcd_comm x y]
  conv => rhs; rw [this]
  rw [Int.gcd_add_mul_left_right]
theorem gcd_w {c : TDen} {b : SDen} {env : Int → Int → Env} (hc : ∀ x y, c (env x y) [] = some (decide (0 < y), [])) (hb : ∀ x y, 0 < y → b (env x y) [] = some (.nx, env y (x % y), [])) {x y : Int} (hx : 0 ≤ x) (hy : 0 ≤ y) {n : Nat} (hn : y.natAbs < n) {Q : Out × Env × Sto → Prop}
    (h : Q (.nx, env (Int.gcd x y) 0, [])) : Wo (whileN c b n (env x y) []) Q := by
  refine wo_while (fun n ρ' S' => S' = [] ∧ ∃ x' y' : Int, ρ' = env x' y' ∧ 0 ≤ x' ∧ 0 ≤ y' ∧ y'.natAbs = n ∧ Int.gcd x' y' = Int.gcd x y) ⟨rfl, x, y, rfl, hx, hy, rfl, rfl⟩ hn ?_
  rintro m ρ' S' ⟨rfl, x', y', rfl, h1, h2, rfl, h3⟩
  rw [hc, wo_some]
  refine ⟨fun z => ?_, fun z => ?_⟩
  · have z : 0 < y' := of_decide_eq_true z
    rw [hb _ _ z, wo_some]
    have a1 := Int.emod_nonneg x' (show y' ≠ 0 by omega)
    have a2 := Int.emod_lt_of_pos x' z
    exact ⟨(x' % y').natAbs, by omega, rfl, y', x' % y', rfl, by omega, a1, rfl, by rw [gcd_step, h3]⟩
  · have z : ¬ 0 < y' := of_decide_eq_false z
    obtain rfl : y' = 0 := by omega
    have e : x' = (Int.gcd x y : Int) := by
      rw [← h3, Int.gcd_zero]
      omega
    rw [e]
    exact h
theorem absI_eq (i : Int) : absI i = (i.natAbs : Int) := by unfold absI; split <;> omega
theorem common_divisor_ok {a b : Int} (h : b.natAbs < 10 ^ 60) : PG.F_common_divisor [.int a, .int b] = some (.int (Int.gcd a b)) := by
  refine bodyP_run rfl rfl ?_
  show Wo (PG.b_common_divisor [some (.int a), some (.int b)] []) _
  refine wo_seqN fun K k1 => ?_
  simp only [sAsg, sIf, sRet, sRetN, sNil, sPass, sSet, sExpr, sPar, sBrk, sCnt, dC, dVar, dOp, dUn, dIf, dCB, dCalP, dCalM, dMeth, dMeth0, dAnd, dOr, dNot, dIsi, aNil, aCons, asB, tbAnd, tbOr, tbNot, dChain, gN, gOf, nN, nT, nsCons, nsNil, dTup, dLst, dCell, wo_bnd, wo_some, wo_map, wo_bind, wo_if, bnd_mk, List.getElem?_cons_zero, List.getElem?_cons_succ, List.set_cons_zero, List.set_cons_succ, Option.map_some, Option.bind_some, gAdd, MS.gSub, gMul, gMod, gDiv, gLt, gLe, gGt, gGe, gI, gNeg, cInt, cI, cII, cAbs, cMax2, cMin2, decide_eq_true_eq, if_true, if_false, List.zip_cons_cons, List.zip_nil_right, List.foldl_cons, List.foldl_nil, List.length_cons, List.length_nil, Nat.zero_add, Nat.reduceAdd, Bool.false_eq_true, decide_true, decide_false, true_and, and_true, true_implies, implies_true, false_implies, not_true_eq_false, D.pureL, D.pure, D.fitL, D.fit, fit_dPair, fit_ints, Bool.and_true, Bool.true_and, Bool.and_self, wo_none, nn_iff, imp_and', and_false, false_and, szOk_0, szOk_1, szOk_2, szOk_3, szOk_4, szOk_5, szOk_6, szOk_7, szOk_8, eqA_int, neA_int, eqA_str, neA_str, eqA_bl, neA_bl, Bool.not_eq_true', Bool.not_true, Bool.not_false, not_false_eq_true, tyOf, isT, String.reduceBEq, Bool.or_false, Bool.false_or, Bool.and_false, Bool.or_true, Bool.true_or, Bool.false_and]
  refine k1 _ _ ?_
  clear k1
  refine wo_seqN fun K k1 => ?_
  refine gcd_w (env := fun x y => [some (.int x), some (.int y)]) (fun _ _ => rfl) (fun x y hy => ?_) (by split <;> omega) (by split <;> omega) (by split <;> omega) (k1 _ _ ?_)
  · have e : x.fmod y = x % y := fmod_pos hy
    rw [← e]
    have hne : y ≠ 0 := by omega
    unfold PG.w1b_common_divisor sPar aCons aNil dOp dVar gMod gI
    simp only [bnd_mk, List.getElem?_cons_zero, List.getElem?_cons_succ, ne_eq, hne, not_false_eq_true, if_true, Option.map_some]
    rfl
  · clear k1
    simp only [sAsg, sIf, sRet, sRetN, sNil, sPass, sSet, sExpr, sPar, sBrk, sCnt, dC, dVar, dOp, dUn, dIf, dCB, dCalP, dCalM, dMeth, dMeth0, dAnd, dOr, dNot, dIsi, aNil, aCons, asB, tbAnd, tbOr, tbNot, dChain, gN, gOf, nN, nT, nsCons, nsNil, dTup, dLst, dCell, wo_bnd, wo_some, wo_map, wo_bind, wo_if, bnd_mk, List.getElem?_cons_zero, List.getElem?_cons_succ, List.set_cons_zero, List.set_cons_succ, Option.map_some, Option.bind_some, gAdd, MS.gSub, gMul, gMod, gDiv, gLt, gLe, gGt, gGe, gI, gNeg, cInt, cI, cII, cAbs, cMax2, cMin2, decide_eq_true_eq, if_true, if_false, List.zip_cons_cons, List.zip_nil_right, List.foldl_cons, List.foldl_nil, List.length_cons, List.length_nil, Nat.zero_add, Nat.reduceAdd, Bool.false_eq_true, decide_true, decide_false, true_and, and_true, true_implies, implies_true, false_implies, not_true_eq_false, D.pureL, D.pure, D.fitL, D.fit, fit_dPair, fit_ints, Bool.and_true, Bool.true_and, Bool.and_self, wo_none, nn_iff, imp_and', and_false, false_and, szOk_0, szOk_1, szOk_2, szOk_3, szOk_4, szOk_5, szOk_6, szOk_7, szOk_8, eqA_int, neA_int, eqA_str, neA_str, eqA_bl, neA_bl, Bool.not_eq_true', Bool.not_true, Bool.not_false, not_false_eq_true, tyOf, isT, String.reduceBEq, Bool.or_false, Bool.false_or, Bool.and_false, Bool.or_true, Bool.true_or, Bool.false_and]
    have e : Int.gcd (if a < 0 then -a else a) (if b < 0 then -b else b) = Int.gcd a b := by
      split <;> split <;> simp
    rw [e]
/-- a fraction in lowest terms -/
def low (p q : Int) : Int × Int := if 0 < q then (p / (Int.gcd p q : Int), q / (Int.gcd p q : Int)) else (-p / (Int.gcd p q : Int), -q / (Int.gcd p q : Int))
theorem gcd_ok {p q : Int} (hq : q ≠ 0) (h : q.natAbs < 10 ^ 60) : 0 < (Int.gcd p q : Int) ∧ divOk (Int.gcd p q) = true := by
  have h1 := Int.gcd_pos_of_ne_zero_right p hq
  have h2 := Int.gcd_le_natAbs_right p hq
  refine ⟨by omega, divOk_k 200 (by decide) (by omega) ?_⟩
  have : (10 : Nat) ^ 60 < 2 ^ 200 := by decide
  omega
theorem lowest_of_ok {p q : Int} (hq : q ≠ 0) (h : q.natAbs < 10 ^ 60) : PG.F_lowest_of [.int p, .int q] = some (dPair (low p q)) := by
  refine bodyP_run rfl rfl ?_
  obtain ⟨g1, g2⟩ := gcd_ok (p := p) hq h
  show Wo (PG.b_lowest_of [some (.int p), some (.int q), none] []) _
  refine wo_seqN fun K k1 => ?_
  simp only [sAsg, sIf, sRet, sRetN, sNil, sPass, sSet, sExpr, sPar, sBrk, sCnt, dC, dVar, dOp, dUn, dIf, dCB, dCalP, dCalM, dMeth, dMeth0, dAnd, dOr, dNot, dIsi, aNil, aCons, asB, tbAnd, tbOr, tbNot, dChain, gN, gOf, nN, nT, nsCons, nsNil, dTup, dLst, dCell, wo_bnd, wo_some, wo_map, wo_bind, wo_if, bnd_mk, List.getElem?_cons_zero, List.getElem?_cons_succ, List.set_cons_zero, List.set_cons_succ, Option.map_some, Option.bind_some, gAdd, MS.gSub, gMul, gMod, gDiv, gLt, gLe, gGt, gGe, gI, gNeg, cInt, cI, cII, cAbs, cMax2, cMin2, decide_eq_true_eq, if_true, if_false, List.zip_cons_cons, List.zip_nil_right, List.foldl_cons, List.foldl_nil, List.length_cons, List.length_nil, Nat.zero_add, Nat.reduceAdd, Bool.false_eq_true, decide_true, decide_false, true_and, and_true, true_implies, implies_true, false_implies, not_true_eq_false, D.pureL, D.pure, D.fitL, D.fit, fit_dPair, fit_ints, Bool.and_true, Bool.true_and, Bool.and_self, wo_none, nn_iff, imp_and', and_false, false_and, szOk_0, szOk_1, szOk_2, szOk_3, szOk_4, szOk_5, szOk_6, szOk_7, szOk_8, eqA_int, neA_int, eqA_str, neA_str, eqA_bl, neA_bl, Bool.not_eq_true', Bool.not_true, Bool.not_false, not_false_eq_true, tyOf, isT, String.reduceBEq, Bool.or_false, Bool.false_or, Bool.and_false, Bool.or_true, Bool.true_or, Bool.false_and, common_divisor_ok h]
  refine k1 _ _ ?_
  clear k1
  simp only [sAsg, sIf, sRet, sRetN, sNil, sPass, sSet, sExpr, sPar, sBrk, sCnt, dC, dVar, dOp, dUn, dIf, dCB, dCalP, dCalM, dMeth, dMeth0, dAnd, dOr, dNot, dIsi, aNil, aCons, asB, tbAnd, tbOr, tbNot, dChain, gN, gOf, nN, nT, nsCons, nsNil, dTup, dLst, dCell, wo_bnd, wo_some, wo_map, wo_bind, wo_if, bnd_mk, List.getElem?_cons_zero, List.getElem?_cons_succ, List.set_cons_zero, List.set_cons_succ, Option.map_some, Option.bind_some, gAdd, MS.gSub, gMul, gMod, gDiv, gLt, gLe, gGt, gGe, gI, gNeg, cInt, cI, cII, cAbs, cMax2, cMin2, decide_eq_true_eq, if_true, if_false, List.zip_cons_cons, List.zip_nil_right, List.foldl_cons, List.foldl_nil, List.length_cons, List.length_nil, Nat.zero_add, Nat.reduceAdd, Bool.false_eq_true, decide_true, decide_false, true_and, and_true, true_implies, implies_true, false_implies, not_true_eq_false, D.pureL, D.pure, D.fitL, D.fit, fit_dPair, fit_ints, Bool.and_true, Bool.true_and, Bool.and_self, wo_none, nn_iff, imp_and', and_false, false_and, szOk_0, szOk_1, szOk_2, szOk_3, szOk_4, szOk_5, szOk_6, szOk_7, szOk_8, eqA_int, neA_int, eqA_str, neA_str, eqA_bl, neA_bl, Bool.not_eq_true', Bool.not_true, Bool.not_false, not_false_eq_true, tyOf, isT, String.reduceBEq, Bool.or_false, Bool.false_or, Bool.and_false, Bool.or_true, Bool.true_or, Bool.false_and, g2]
  unfold low
  rw [← fdiv_pos g1, ← fdiv_pos g1, ← fdiv_pos g1, ← fdiv_pos g1]
  refine ⟨fun z => ?_, fun z => ?_⟩
  · rw [if_pos z]
    rfl
  · rw [if_neg z]
    rfl
theorem divided_ok {p q : Int} (hq : q ≠ 0) (h : q.natAbs < 10 ^ 60) : PG.F_n_law_divided [.int p, .int q] = some (dPair (low p q)) := by
  refine bodyP_run rfl rfl ?_
  obtain ⟨g1, g2⟩ := gcd_ok (p := p) hq h
  show Wo (PG.b_n_law_divided [some (.int p), some (.int q), none, none] []) _
  refine wo_seqN fun K k1 => ?_
  simp only [sAsg, sIf, sRet, sRetN, sNil, sPass, sSet, sExpr, sPar, sBrk, sCnt, dC, dVar, dOp, dUn, dIf, dCB, dCalP, dCalM, dMeth, dMeth0, dAnd, dOr, dNot, dIsi, aNil, aCons, asB, tbAnd, tbOr, tbNot, dChain, gN, gOf, nN, nT, nsCons, nsNil, dTup, dLst, dCell, wo_bnd, wo_some, wo_map, wo_bind, wo_if, bnd_mk, List.getElem?_cons_zero, List.getElem?_cons_succ, List.set_cons_zero, List.set_cons_succ, Option.map_some, Option.bind_some, gAdd, MS.gSub, gMul, gMod, gDiv, gLt, gLe, gGt, gGe, gI, gNeg, cInt, cI, cII, cAbs, cMax2, cMin2, decide_eq_true_eq, if_true, if_false, List.zip_cons_cons, List.zip_nil_right, List.foldl_cons, List.foldl_nil, List.length_cons, List.length_nil, Nat.zero_add, Nat.reduceAdd, Bool.false_eq_true, decide_true, decide_false, true_and, and_true, true_implies, implies_true, false_implies, not_true_eq_false, D.pureL, D.pure, D.fitL, D.fit, fit_dPair, fit_ints, Bool.and_true, Bool.true_and, Bool.and_self, wo_none, nn_iff, imp_and', and_false, false_and, szOk_0, szOk_1, szOk_2, szOk_3, szOk_4, szOk_5, szOk_6, szOk_7, szOk_8, eqA_int, neA_int, eqA_str, neA_str, eqA_bl, neA_bl, Bool.not_eq_true', Bool.not_true, Bool.not_false, not_false_eq_true, tyOf, isT, String.reduceBEq, Bool.or_false, Bool.false_or, Bool.and_false, Bool.or_true, Bool.true_or, Bool.false_and]
  refine k1 _ _ ?_
  clear k1
  refine wo_seqN fun K k1 => ?_
  refine gcd_w (env := fun x y => [some (.int p), some (.int q), some (.int x), some (.int y)]) (fun _ _ => rfl) (fun x y hy => ?_) (by split <;> omega) (by split <;> omega) (by split <;> omega) (k1 _ _ ?_)
  · have e : x.fmod y = x % y := fmod_pos hy
    rw [← e]
    have hne : y ≠ 0 := by omega
    unfold PG.w1b_n_law_divided sPar
    simp only [sAsg, sIf, sRet, sRetN, sNil, sPass, sSet, sExpr, sPar, sBrk, sCnt, dC, dVar, dOp, dUn, dIf, dCB, dCalP, dCalM, dMeth, dMeth0, dAnd, dOr, dNot, dIsi, aNil, aCons, asB, tbAnd, tbOr, tbNot, dChain, gN, gOf, nN, nT, nsCons, nsNil, dTup, dLst, dCell, wo_bnd, wo_some, wo_map, wo_bind, wo_if, bnd_mk, List.getElem?_cons_zero, List.getElem?_cons_succ, List.set_cons_zero, List.set_cons_succ, Option.map_some, Option.bind_some, gAdd, MS.gSub, gMul, gMod, gDiv, gLt, gLe, gGt, gGe, gI, gNeg, cInt, cI, cII, cAbs, cMax2, cMin2, decide_eq_true_eq, if_true, if_false, List.zip_cons_cons, List.zip_nil_right, List.foldl_cons, List.foldl_nil, List.length_cons, List.length_nil, Nat.zero_add, Nat.reduceAdd, Bool.false_eq_true, decide_true, decide_false, true_and, and_true, true_implies, implies_true, false_implies, not_true_eq_false, D.pureL, D.pure, D.fitL, D.fit, fit_dPair, fit_ints, Bool.and_true, Bool.true_and, Bool.and_self, wo_none, nn_iff, imp_and', and_false, false_and, szOk_0, szOk_1, szOk_2, szOk_3, szOk_4, szOk_5, szOk_6, szOk_7, szOk_8, eqA_int, neA_int, eqA_str, neA_str, eqA_bl, neA_bl, Bool.not_eq_true', Bool.not_true, Bool.not_false, not_false_eq_true, tyOf, isT, String.reduceBEq, Bool.or_false, Bool.false_or, Bool.and_false, Bool.or_true, Bool.true_or, Bool.false_and, ne_eq, hne, not_false_eq_true]
  · clear k1
    have e : Int.gcd (if 0 - p > p then 0 - p else p) (if 0 - q > q then 0 - q else q) = Int.gcd p q := by
      have z : ∀ x : Int, 0 - x = - x := fun x => by omega
      split <;> split <;> simp [z]
    rw [e]
    simp only [sAsg, sIf, sRet, sRetN, sNil, sPass, sSet, sExpr, sPar, sBrk, sCnt, dC, dVar, dOp, dUn, dIf, dCB, dCalP, dCalM, dMeth, dMeth0, dAnd, dOr, dNot, dIsi, aNil, aCons, asB, tbAnd, tbOr, tbNot, dChain, gN, gOf, nN, nT, nsCons, nsNil, dTup, dLst, dCell, wo_bnd, wo_some, wo_map, wo_bind, wo_if, bnd_mk, List.getElem?_cons_zero, List.getElem?_cons_succ, List.set_cons_zero, List.set_cons_succ, Option.map_some, Option.bind_some, gAdd, MS.gSub, gMul, gMod, gDiv, gLt, gLe, gGt, gGe, gI, gNeg, cInt, cI, cII, cAbs, cMax2, cMin2, decide_eq_true_eq, if_true, if_false, List.zip_cons_cons, List.zip_nil_right, List.foldl_cons, List.foldl_nil, List.length_cons, List.length_nil, Nat.zero_add, Nat.reduceAdd, Bool.false_eq_true, decide_true, decide_false, true_and, and_true, true_implies, implies_true, false_implies, not_true_eq_false, D.pureL, D.pure, D.fitL, D.fit, fit_dPair, fit_ints, Bool.and_true, Bool.true_and, Bool.and_self, wo_none, nn_iff, imp_and', and_false, false_and, szOk_0, szOk_1, szOk_2, szOk_3, szOk_4, szOk_5, szOk_6, szOk_7, szOk_8, eqA_int, neA_int, eqA_str, neA_str, eqA_bl, neA_bl, Bool.not_eq_true', Bool.not_true, Bool.not_false, not_false_eq_true, tyOf, isT, String.reduceBEq, Bool.or_false, Bool.false_or, Bool.and_false, Bool.or_true, Bool.true_or, Bool.false_and, g2]
    unfold low
    rw [← fdiv_pos g1, ← fdiv_pos g1, ← fdiv_pos g1, ← fdiv_pos g1, show -p = 0 - p by omega, show -q = 0 - q by omega]
    refine ⟨fun z => ?_, fun z => ?_⟩
    · rw [if_pos z]
      rfl
    · rw [if_neg z]
      rfl

/-! what a fraction in lowest terms is -/
theorem low_ok {p q : Int} (hq : q ≠ 0) : ∃ g : Int, 0 < g ∧ 0 < (low p q).2 ∧ ((0 < q ∧ p = (low p q).1 * g ∧ q = (low p q).2 * g) ∨ (q < 0 ∧ -p = (low p q).1 * g ∧ -q = (low p q).2 * g)) := by
  have h1 := Int.gcd_pos_of_ne_zero_right p hq
  have d1 := Int.gcd_dvd_left p q
  have d2 := Int.gcd_dvd_right p q
  have g0 : 0 < (Int.gcd p q : Int) := by omega
  refine ⟨Int.gcd p q, g0, ?_⟩
  unfold low
  by_cases h : 0 < q
  · rw [if_pos h]
    have e1 := Int.ediv_mul_cancel d1
    have e2 := Int.ediv_mul_cancel d2
    refine ⟨?_, .inl ⟨h, e1.symm, e2.symm⟩⟩
    exact Int.ediv_pos_of_pos_of_dvd h (by omega) d2
  · rw [if_neg h]
    have e1 := Int.ediv_mul_cancel (Int.dvd_neg.mpr d1)
    have e2 := Int.ediv_mul_cancel (Int.dvd_neg.mpr d2)
    refine ⟨?_, .inr ⟨by omega, e1.symm, e2.symm⟩⟩
    exact Int.ediv_pos_of_pos_of_dvd (by omega) (by omega) (Int.dvd_neg.mpr d2)
theorem nlInt {a b c : Int} (h : a ≤ b) (hc : 0 ≤ c) : a * c ≤ b * c := Int.mul_le_mul_of_nonneg_right h hc
/-- .. is not larger -/
theorem low_le {p q : Int} (hq : q ≠ 0) : (low p q).2 ≤ q.natAbs ∧ (low p q).1.natAbs ≤ p.natAbs := by
  obtain ⟨g, h1, h2, h3⟩ := low_ok (p := p) hq
  have k : ∀ {x y : Int}, x = y * g → y.natAbs ≤ x.natAbs := fun {x y} e => by
    rw [e, Int.natAbs_mul]
    exact Nat.le_mul_of_pos_right _ (by omega)
  rcases h3 with ⟨h4, h5, h6⟩ | ⟨h4, h5, h6⟩
  · have := k h5
    have := k h6
    omega
  · have := k h5
    have := k h6
    omega
end MS

/-! whole roots, whole numbers near fractions -/
namespace MS
open PySem PySem.Spec PyProof.Rows L2
theorem mulOk_k {i j : Int} (k : Nat) (hk : k ≤ 500000) (hk0 : 0 < k) (h : i.natAbs < 2 ^ k) (h' : j.natAbs < 2 ^ k) : mulOk i j = true := by
  unfold mulOk
  have h1 := log2_of hk0 h
  have h2 := log2_of hk0 h'
  rw [decide_eq_true (show i.natAbs.log2 + j.natAbs.log2 < 1000000 by omega)]
  simp
theorem whole_root_ok {n : Int} (h0 : 0 ≤ n) (h : n < 10 ^ 50) : ∃ r : Int, PG.F_whole_root [.int n] = some (.int r) ∧ 0 ≤ r ∧ r * r ≤ n ∧ n < (r + 1) * (r + 1) := by
  suffices core : Wo (PG.b_whole_root [some (.int n), none, none, none] []) fun z => ∃ r : Int, z.1 = .rt (.int r) ∧ 0 ≤ r ∧ r * r ≤ n ∧ n < (r + 1) * (r + 1) by
    obtain ⟨⟨o, ρ', S'⟩, e, r, rfl, h1, h2, h3⟩ := core
    exact ⟨r, bodyP_run rfl rfl ⟨_, e, rfl⟩, h1, h2, h3⟩
  have p1 : (10 : Int) ^ 50 < 2 ^ 168 := by decide
  have p2 : (2 : Nat) ^ 200 = 2 ^ 168 * 2 ^ 32 := by decide
  have p4 : (2 : Int) ^ 168 = ((2 ^ 168 : Nat) : Int) := by decide
  have p3 : (10 : Nat) ^ 60 > 2 ^ 180 := by decide
  have p5 : (2 : Nat) ^ 180 = 2 ^ 168 * 2 ^ 12 := by decide
  have big : ∀ x : Int, 0 ≤ x → x ≤ 2 * n + 1 → x.natAbs < 2 ^ 200 := fun x a b => by
    rw [p2]
    generalize (2 : Nat) ^ 168 = t at *
    generalize (10 : Int) ^ 50 = u at *
    omega
  refine wo_seqN fun K k1 => ?_
  simp only [sAsg, sIf, sRet, sRetN, sNil, sPass, sSet, sExpr, sPar, sBrk, sCnt, dC, dVar, dOp, dUn, dIf, dCB, dCalP, dCalM, dMeth, dMeth0, dAnd, dOr, dNot, dIsi, aNil, aCons, asB, tbAnd, tbOr, tbNot, dChain, gN, gOf, nN, nT, nsCons, nsNil, dTup, dLst, dCell, wo_bnd, wo_some, wo_map, wo_bind, wo_if, bnd_mk, List.getElem?_cons_zero, List.getElem?_cons_succ, List.set_cons_zero, List.set_cons_succ, Option.map_some, Option.bind_some, gAdd, MS.gSub, gMul, gMod, gDiv, gLt, gLe, gGt, gGe, gI, gNeg, cInt, cI, cII, cAbs, cMax2, cMin2, decide_eq_true_eq, if_true, if_false, List.zip_cons_cons, List.zip_nil_right, List.foldl_cons, List.foldl_nil, List.length_cons, List.length_nil, Nat.zero_add, Nat.reduceAdd, Bool.false_eq_true, decide_true, decide_false, true_and, and_true, true_implies, implies_true, false_implies, not_true_eq_false, D.pureL, D.pure, D.fitL, D.fit, fit_dPair, fit_ints, Bool.and_true, Bool.true_and, Bool.and_self, wo_none, nn_iff, imp_and', and_false, false_and, szOk_0, szOk_1, szOk_2, szOk_3, szOk_4, szOk_5, szOk_6, szOk_7, szOk_8, eqA_int, neA_int, eqA_str, neA_str, eqA_bl, neA_bl, Bool.not_eq_true', Bool.not_true, Bool.not_false, not_false_eq_true, tyOf, isT, String.reduceBEq, Bool.or_false, Bool.false_or, Bool.and_false, Bool.or_true, Bool.true_or, Bool.false_and]
  refine k1 _ _ ?_
  clear k1
  refine wo_mid (fun ρ' S' => S' = [] ∧ ∃ x : Int, ρ' = [some (.int n), some (.int 0), some (.int x), none] ∧ 1 ≤ x ∧ x ≤ 2 * n + 1 ∧ n < x * x) ?_ ?_
  · refine wo_while (fun m ρ' S' => S' = [] ∧ ∃ x : Int, ρ' = [some (.int n), some (.int 0), some (.int x), none] ∧ 1 ≤ x ∧ x ≤ 2 * n + 1 ∧ m = (2 * n + 1 - x).toNat) (m := (2 * n + 1 - 1).toNat) ⟨rfl, 1, rfl, by omega, by omega, rfl⟩ ?_ ?_
    · show _ < 10 ^ 60
      generalize (2 : Nat) ^ 168 = t at *
      generalize (10 : Int) ^ 50 = u at *
      omega
    · rintro m ρ' S' ⟨rfl, x, rfl, h1, h2, rfl⟩
      have m1 : mulOk x x = true := mulOk_k 200 (by decide) (by decide) (big x (by omega) h2) (big x (by omega) h2)
      have m2 : mulOk 2 x = true := mulOk_l (by decide)
      unfold PG.w1c_whole_root
      simp only [sAsg, sIf, sRet, sRetN, sNil, sPass, sSet, sExpr, sPar, sBrk, sCnt, dC, dVar, dOp, dUn, dIf, dCB, dCalP, dCalM, dMeth, dMeth0, dAnd, dOr, dNot, dIsi, aNil, aCons, asB, tbAnd, tbOr, tbNot, dChain, gN, gOf, nN, nT, nsCons, nsNil, dTup, dLst, dCell, wo_bnd, wo_some, wo_map, wo_bind, wo_if, bnd_mk, List.getElem?_cons_zero, List.getElem?_cons_succ, List.set_cons_zero, List.set_cons_succ, Option.map_some, Option.bind_some, gAdd, MS.gSub, gMul, gMod, gDiv, gLt, gLe, gGt, gGe, gI, gNeg, cInt, cI, cII, cAbs, cMax2, cMin2, decide_eq_true_eq, if_true, if_false, List.zip_cons_cons, List.zip_nil_right, List.foldl_cons, List.foldl_nil, List.length_cons, List.length_nil, Nat.zero_add, Nat.reduceAdd, Bool.false_eq_true, decide_true, decide_false, true_and, and_true, true_implies, implies_true, false_implies, not_true_eq_false, D.pureL, D.pure, D.fitL, D.fit, fit_dPair, fit_ints, Bool.and_true, Bool.true_and, Bool.and_self, wo_none, nn_iff, imp_and', and_false, false_and, szOk_0, szOk_1, szOk_2, szOk_3, szOk_4, szOk_5, szOk_6, szOk_7, szOk_8, eqA_int, neA_int, eqA_str, neA_str, eqA_bl, neA_bl, Bool.not_eq_true', Bool.not_true, Bool.not_false, not_false_eq_true, tyOf, isT, String.reduceBEq, Bool.or_false, Bool.false_or, Bool.and_false, Bool.or_true, Bool.true_or, Bool.false_and, m1]
      refine ⟨fun z => ?_, fun z => ?_⟩
      · have z : x * x ≤ n := z
        have z2 : x * 1 ≤ x * x := Int.mul_le_mul_of_nonneg_left h1 (by omega)
        unfold PG.w1b_whole_root
        simp only [sAsg, sIf, sRet, sRetN, sNil, sPass, sSet, sExpr, sPar, sBrk, sCnt, dC, dVar, dOp, dUn, dIf, dCB, dCalP, dCalM, dMeth, dMeth0, dAnd, dOr, dNot, dIsi, aNil, aCons, asB, tbAnd, tbOr, tbNot, dChain, gN, gOf, nN, nT, nsCons, nsNil, dTup, dLst, dCell, wo_bnd, wo_some, wo_map, wo_bind, wo_if, bnd_mk, List.getElem?_cons_zero, List.getElem?_cons_succ, List.set_cons_zero, List.set_cons_succ, Option.map_some, Option.bind_some, gAdd, MS.gSub, gMul, gMod, gDiv, gLt, gLe, gGt, gGe, gI, gNeg, cInt, cI, cII, cAbs, cMax2, cMin2, decide_eq_true_eq, if_true, if_false, List.zip_cons_cons, List.zip_nil_right, List.foldl_cons, List.foldl_nil, List.length_cons, List.length_nil, Nat.zero_add, Nat.reduceAdd, Bool.false_eq_true, decide_true, decide_false, true_and, and_true, true_implies, implies_true, false_implies, not_true_eq_false, D.pureL, D.pure, D.fitL, D.fit, fit_dPair, fit_ints, Bool.and_true, Bool.true_and, Bool.and_self, wo_none, nn_iff, imp_and', and_false, false_and, szOk_0, szOk_1, szOk_2, szOk_3, szOk_4, szOk_5, szOk_6, szOk_7, szOk_8, eqA_int, neA_int, eqA_str, neA_str, eqA_bl, neA_bl, Bool.not_eq_true', Bool.not_true, Bool.not_false, not_false_eq_true, tyOf, isT, String.reduceBEq, Bool.or_false, Bool.false_or, Bool.and_false, Bool.or_true, Bool.true_or, Bool.false_and, m2]
        exact ⟨_, by omega, 2 * x, rfl, by omega, by omega, rfl⟩
      · have z : ¬ x * x ≤ n := of_decide_eq_false z
        exact ⟨x, rfl, h1, h2, by omega⟩
  · rintro ρ' S' ⟨rfl, x, rfl, h1, h2, h3⟩
    refine wo_mid (fun ρ' S' => S' = [] ∧ ∃ (lo hi : Int) (md : Option D), ρ' = [some (.int n), some (.int lo), some (.int hi), md] ∧ 0 ≤ lo ∧ hi = lo + 1 ∧ lo * lo ≤ n ∧ n < hi * hi) ?_ ?_
    · refine wo_while (fun m ρ' S' => S' = [] ∧ ∃ (lo hi : Int) (md : Option D), ρ' = [some (.int n), some (.int lo), some (.int hi), md] ∧ 0 ≤ lo ∧ lo < hi ∧ hi ≤ 2 * n + 1 ∧ lo * lo ≤ n ∧ n < hi * hi ∧ m = (hi - lo).toNat) (m := (x - 0).toNat) ⟨rfl, 0, x, none, rfl, by omega, by omega, h2, by omega, h3, rfl⟩ ?_ ?_
      · show _ < 10 ^ 60
        generalize (2 : Nat) ^ 168 = t at *
        generalize (10 : Int) ^ 50 = u at *
        omega
      · rintro m ρ' S' ⟨rfl, lo, hi, md, rfl, a1, a2, a3, a4, a5, rfl⟩
        have dv : divOk 2 = true := divOk_of (by decide) (by decide)
        unfold PG.w2c_whole_root
        simp only [sAsg, sIf, sRet, sRetN, sNil, sPass, sSet, sExpr, sPar, sBrk, sCnt, dC, dVar, dOp, dUn, dIf, dCB, dCalP, dCalM, dMeth, dMeth0, dAnd, dOr, dNot, dIsi, aNil, aCons, asB, tbAnd, tbOr, tbNot, dChain, gN, gOf, nN, nT, nsCons, nsNil, dTup, dLst, dCell, wo_bnd, wo_some, wo_map, wo_bind, wo_if, bnd_mk, List.getElem?_cons_zero, List.getElem?_cons_succ, List.set_cons_zero, List.set_cons_succ, Option.map_some, Option.bind_some, gAdd, MS.gSub, gMul, gMod, gDiv, gLt, gLe, gGt, gGe, gI, gNeg, cInt, cI, cII, cAbs, cMax2, cMin2, decide_eq_true_eq, if_true, if_false, List.zip_cons_cons, List.zip_nil_right, List.foldl_cons, List.foldl_nil, List.length_cons, List.length_nil, Nat.zero_add, Nat.reduceAdd, Bool.false_eq_true, decide_true, decide_false, true_and, and_true, true_implies, implies_true, false_implies, not_true_eq_false, D.pureL, D.pure, D.fitL, D.fit, fit_dPair, fit_ints, Bool.and_true, Bool.true_and, Bool.and_self, wo_none, nn_iff, imp_and', and_false, false_and, szOk_0, szOk_1, szOk_2, szOk_3, szOk_4, szOk_5, szOk_6, szOk_7, szOk_8, eqA_int, neA_int, eqA_str, neA_str, eqA_bl, neA_bl, Bool.not_eq_true', Bool.not_true, Bool.not_false, not_false_eq_true, tyOf, isT, String.reduceBEq, Bool.or_false, Bool.false_or, Bool.and_false, Bool.or_true, Bool.true_or, Bool.false_and]
        refine ⟨fun z => ?_, fun z => ?_⟩
        · unfold PG.w2b_whole_root
          refine wo_seqN fun K k1 => ?_
          simp only [sAsg, sIf, sRet, sRetN, sNil, sPass, sSet, sExpr, sPar, sBrk, sCnt, dC, dVar, dOp, dUn, dIf, dCB, dCalP, dCalM, dMeth, dMeth0, dAnd, dOr, dNot, dIsi, aNil, aCons, asB, tbAnd, tbOr, tbNot, dChain, gN, gOf, nN, nT, nsCons, nsNil, dTup, dLst, dCell, wo_bnd, wo_some, wo_map, wo_bind, wo_if, bnd_mk, List.getElem?_cons_zero, List.getElem?_cons_succ, List.set_cons_zero, List.set_cons_succ, Option.map_some, Option.bind_some, gAdd, MS.gSub, gMul, gMod, gDiv, gLt, gLe, gGt, gGe, gI, gNeg, cInt, cI, cII, cAbs, cMax2, cMin2, decide_eq_true_eq, if_true, if_false, List.zip_cons_cons, List.zip_nil_right, List.foldl_cons, List.foldl_nil, List.length_cons, List.length_nil, Nat.zero_add, Nat.reduceAdd, Bool.false_eq_true, decide_true, decide_false, true_and, and_true, true_implies, implies_true, false_implies, not_true_eq_false, D.pureL, D.pure, D.fitL, D.fit, fit_dPair, fit_ints, Bool.and_true, Bool.true_and, Bool.and_self, wo_none, nn_iff, imp_and', and_false, false_and, szOk_0, szOk_1, szOk_2, szOk_3, szOk_4, szOk_5, szOk_6, szOk_7, szOk_8, eqA_int, neA_int, eqA_str, neA_str, eqA_bl, neA_bl, Bool.not_eq_true', Bool.not_true, Bool.not_false, not_false_eq_true, tyOf, isT, String.reduceBEq, Bool.or_false, Bool.false_or, Bool.and_false, Bool.or_true, Bool.true_or, Bool.false_and, dv]
          refine k1 _ _ ?_
          clear k1
          rw [fdiv_pos (by decide)]
          generalize hmd : (lo + hi) / 2 = mi
          have m1 : mulOk mi mi = true := mulOk_k 200 (by decide) (by decide) (big mi (by omega) (by omega)) (big mi (by omega) (by omega))
          simp only [sAsg, sIf, sRet, sRetN, sNil, sPass, sSet, sExpr, sPar, sBrk, sCnt, dC, dVar, dOp, dUn, dIf, dCB, dCalP, dCalM, dMeth, dMeth0, dAnd, dOr, dNot, dIsi, aNil, aCons, asB, tbAnd, tbOr, tbNot, dChain, gN, gOf, nN, nT, nsCons, nsNil, dTup, dLst, dCell, wo_bnd, wo_some, wo_map, wo_bind, wo_if, bnd_mk, List.getElem?_cons_zero, List.getElem?_cons_succ, List.set_cons_zero, List.set_cons_succ, Option.map_some, Option.bind_some, gAdd, MS.gSub, gMul, gMod, gDiv, gLt, gLe, gGt, gGe, gI, gNeg, cInt, cI, cII, cAbs, cMax2, cMin2, decide_eq_true_eq, if_true, if_false, List.zip_cons_cons, List.zip_nil_right, List.foldl_cons, List.foldl_nil, List.length_cons, List.length_nil, Nat.zero_add, Nat.reduceAdd, Bool.false_eq_true, decide_true, decide_false, true_and, and_true, true_implies, implies_true, false_implies, not_true_eq_false, D.pureL, D.pure, D.fitL, D.fit, fit_dPair, fit_ints, Bool.and_true, Bool.true_and, Bool.and_self, wo_none, nn_iff, imp_and', and_false, false_and, szOk_0, szOk_1, szOk_2, szOk_3, szOk_4, szOk_5, szOk_6, szOk_7, szOk_8, eqA_int, neA_int, eqA_str, neA_str, eqA_bl, neA_bl, Bool.not_eq_true', Bool.not_true, Bool.not_false, not_false_eq_true, tyOf, isT, String.reduceBEq, Bool.or_false, Bool.false_or, Bool.and_false, Bool.or_true, Bool.true_or, Bool.false_and, m1]
          refine ⟨fun z => ⟨_, by omega, mi, hi, some (.int mi), rfl, by omega, by omega, by omega, z, a5, rfl⟩, fun z => ⟨_, by omega, lo, mi, some (.int mi), rfl, by omega, by omega, by omega, a4, by omega, rfl⟩⟩
        · have z : ¬ 1 < hi - lo := of_decide_eq_false z
          exact ⟨lo, hi, md, rfl, a1, by omega, a4, a5⟩
    · rintro ρ' S' ⟨rfl, lo, hi, md, rfl, a1, rfl, a3, a4⟩
      simp only [sAsg, sIf, sRet, sRetN, sNil, sPass, sSet, sExpr, sPar, sBrk, sCnt, dC, dVar, dOp, dUn, dIf, dCB, dCalP, dCalM, dMeth, dMeth0, dAnd, dOr, dNot, dIsi, aNil, aCons, asB, tbAnd, tbOr, tbNot, dChain, gN, gOf, nN, nT, nsCons, nsNil, dTup, dLst, dCell, wo_bnd, wo_some, wo_map, wo_bind, wo_if, bnd_mk, List.getElem?_cons_zero, List.getElem?_cons_succ, List.set_cons_zero, List.set_cons_succ, Option.map_some, Option.bind_some, gAdd, MS.gSub, gMul, gMod, gDiv, gLt, gLe, gGt, gGe, gI, gNeg, cInt, cI, cII, cAbs, cMax2, cMin2, decide_eq_true_eq, if_true, if_false, List.zip_cons_cons, List.zip_nil_right, List.foldl_cons, List.foldl_nil, List.length_cons, List.length_nil, Nat.zero_add, Nat.reduceAdd, Bool.false_eq_true, decide_true, decide_false, true_and, and_true, true_implies, implies_true, false_implies, not_true_eq_false, D.pureL, D.pure, D.fitL, D.fit, fit_dPair, fit_ints, Bool.and_true, Bool.true_and, Bool.and_self, wo_none, nn_iff, imp_and', and_false, false_and, szOk_0, szOk_1, szOk_2, szOk_3, szOk_4, szOk_5, szOk_6, szOk_7, szOk_8, eqA_int, neA_int, eqA_str, neA_str, eqA_bl, neA_bl, Bool.not_eq_true', Bool.not_true, Bool.not_false, not_false_eq_true, tyOf, isT, String.reduceBEq, Bool.or_false, Bool.false_or, Bool.and_false, Bool.or_true, Bool.true_or, Bool.false_and]
      exact ⟨lo, rfl, a1, a3, a4⟩
end MS

namespace MS
open PySem PySem.Spec PyProof.Rows L2
theorem ix0 {x y : D} {S : Sto} : gIx (.tup [x, y]) (.int 0) S = some (x, S) := rfl
theorem ix1 {x y : D} {S : Sto} : gIx (.tup [x, y]) (.int 1) S = some (y, S) := rfl
theorem floor_ok {a b : Int} (h : 0 < b) (h2 : b.natAbs < 2 ^ 250) : PG.F_floor_of [dPair (a, b)] = some (.int (a / b)) := by
  refine bodyP_run rfl rfl ?_
  show Wo (PG.b_floor_of [some (dPair (a, b))] []) _
  unfold PG.b_floor_of dPair
  have dv : divOk b = true := divOk_k 250 (by decide) (by omega) h2
  simp only [sAsg, sIf, sRet, sRetN, sNil, sPass, sSet, sExpr, sPar, sBrk, sCnt, dC, dVar, dOp, dUn, dIf, dCB, dCalP, dCalM, dMeth, dMeth0, dAnd, dOr, dNot, dIsi, aNil, aCons, asB, tbAnd, tbOr, tbNot, dChain, gN, gOf, nN, nT, nsCons, nsNil, dTup, dLst, dCell, wo_bnd, wo_some, wo_map, wo_bind, wo_if, bnd_mk, List.getElem?_cons_zero, List.getElem?_cons_succ, List.set_cons_zero, List.set_cons_succ, Option.map_some, Option.bind_some, gAdd, MS.gSub, gMul, gMod, gDiv, gLt, gLe, gGt, gGe, gI, gNeg, cInt, cI, cII, cAbs, cMax2, cMin2, decide_eq_true_eq, if_true, if_false, List.zip_cons_cons, List.zip_nil_right, List.foldl_cons, List.foldl_nil, List.length_cons, List.length_nil, Nat.zero_add, Nat.reduceAdd, Bool.false_eq_true, decide_true, decide_false, true_and, and_true, true_implies, implies_true, false_implies, not_true_eq_false, D.pureL, D.pure, D.fitL, D.fit, fit_dPair, fit_ints, Bool.and_true, Bool.true_and, Bool.and_self, wo_none, nn_iff, imp_and', and_false, false_and, szOk_0, szOk_1, szOk_2, szOk_3, szOk_4, szOk_5, szOk_6, szOk_7, szOk_8, eqA_int, neA_int, eqA_str, neA_str, eqA_bl, neA_bl, Bool.not_eq_true', Bool.not_true, Bool.not_false, not_false_eq_true, tyOf, isT, String.reduceBEq, Bool.or_false, Bool.false_or, Bool.and_false, Bool.or_true, Bool.true_or, Bool.false_and, ix0, ix1, dv, fdiv_pos h]
theorem ceiling_ok {a b : Int} (h : 0 < b) (h2 : b.natAbs < 2 ^ 250) : PG.F_ceiling_of [dPair (a, b)] = some (.int (-(-a / b))) := by
  refine bodyP_run rfl rfl ?_
  show Wo (PG.b_ceiling_of [some (dPair (a, b))] []) _
  unfold PG.b_ceiling_of dPair
  have dv : divOk b = true := divOk_k 250 (by decide) (by omega) h2
  simp only [sAsg, sIf, sRet, sRetN, sNil, sPass, sSet, sExpr, sPar, sBrk, sCnt, dC, dVar, dOp, dUn, dIf, dCB, dCalP, dCalM, dMeth, dMeth0, dAnd, dOr, dNot, dIsi, aNil, aCons, asB, tbAnd, tbOr, tbNot, dChain, gN, gOf, nN, nT, nsCons, nsNil, dTup, dLst, dCell, wo_bnd, wo_some, wo_map, wo_bind, wo_if, bnd_mk, List.getElem?_cons_zero, List.getElem?_cons_succ, List.set_cons_zero, List.set_cons_succ, Option.map_some, Option.bind_some, gAdd, MS.gSub, gMul, gMod, gDiv, gLt, gLe, gGt, gGe, gI, gNeg, cInt, cI, cII, cAbs, cMax2, cMin2, decide_eq_true_eq, if_true, if_false, List.zip_cons_cons, List.zip_nil_right, List.foldl_cons, List.foldl_nil, List.length_cons, List.length_nil, Nat.zero_add, Nat.reduceAdd, Bool.false_eq_true, decide_true, decide_false, true_and, and_true, true_implies, implies_true, false_implies, not_true_eq_false, D.pureL, D.pure, D.fitL, D.fit, fit_dPair, fit_ints, Bool.and_true, Bool.true_and, Bool.and_self, wo_none, nn_iff, imp_and', and_false, false_and, szOk_0, szOk_1, szOk_2, szOk_3, szOk_4, szOk_5, szOk_6, szOk_7, szOk_8, eqA_int, neA_int, eqA_str, neA_str, eqA_bl, neA_bl, Bool.not_eq_true', Bool.not_true, Bool.not_false, not_false_eq_true, tyOf, isT, String.reduceBEq, Bool.or_false, Bool.false_or, Bool.and_false, Bool.or_true, Bool.true_or, Bool.false_and, ix0, ix1, dv, fdiv_pos h]
def near (a b : Int) : Int := -((b - 2 * a) / (2 * b))
theorem nearest_ok {a b : Int} (h : 0 < b) (h2 : b.natAbs < 2 ^ 250) : PG.F_nearest_of [dPair (a, b)] = some (.int (near a b)) := by
  refine bodyP_run rfl rfl ?_
  show Wo (PG.b_nearest_of [some (dPair (a, b)), none, none] []) _
  unfold PG.b_nearest_of dPair near
  have p : (2 : Nat) ^ 251 = 2 ^ 250 * 2 := by decide
  have dv : divOk (2 * b) = true := divOk_k 251 (by decide) (by omega) (by rw [p]; generalize (2 : Nat) ^ 250 = t at *; omega)
  have m1 : mulOk 2 a = true := mulOk_l (by decide)
  have m2 : mulOk 2 b = true := mulOk_l (by decide)
  refine wo_seqN fun K k1 => ?_
  simp only [sAsg, sIf, sRet, sRetN, sNil, sPass, sSet, sExpr, sPar, sBrk, sCnt, dC, dVar, dOp, dUn, dIf, dCB, dCalP, dCalM, dMeth, dMeth0, dAnd, dOr, dNot, dIsi, aNil, aCons, asB, tbAnd, tbOr, tbNot, dChain, gN, gOf, nN, nT, nsCons, nsNil, dTup, dLst, dCell, wo_bnd, wo_some, wo_map, wo_bind, wo_if, bnd_mk, List.getElem?_cons_zero, List.getElem?_cons_succ, List.set_cons_zero, List.set_cons_succ, Option.map_some, Option.bind_some, gAdd, MS.gSub, gMul, gMod, gDiv, gLt, gLe, gGt, gGe, gI, gNeg, cInt, cI, cII, cAbs, cMax2, cMin2, decide_eq_true_eq, if_true, if_false, List.zip_cons_cons, List.zip_nil_right, List.foldl_cons, List.foldl_nil, List.length_cons, List.length_nil, Nat.zero_add, Nat.reduceAdd, Bool.false_eq_true, decide_true, decide_false, true_and, and_true, true_implies, implies_true, false_implies, not_true_eq_false, D.pureL, D.pure, D.fitL, D.fit, fit_dPair, fit_ints, Bool.and_true, Bool.true_and, Bool.and_self, wo_none, nn_iff, imp_and', and_false, false_and, szOk_0, szOk_1, szOk_2, szOk_3, szOk_4, szOk_5, szOk_6, szOk_7, szOk_8, eqA_int, neA_int, eqA_str, neA_str, eqA_bl, neA_bl, Bool.not_eq_true', Bool.not_true, Bool.not_false, not_false_eq_true, tyOf, isT, String.reduceBEq, Bool.or_false, Bool.false_or, Bool.and_false, Bool.or_true, Bool.true_or, Bool.false_and]
  refine k1 _ _ ?_
  simp only [sAsg, sIf, sRet, sRetN, sNil, sPass, sSet, sExpr, sPar, sBrk, sCnt, dC, dVar, dOp, dUn, dIf, dCB, dCalP, dCalM, dMeth, dMeth0, dAnd, dOr, dNot, dIsi, aNil, aCons, asB, tbAnd, tbOr, tbNot, dChain, gN, gOf, nN, nT, nsCons, nsNil, dTup, dLst, dCell, wo_bnd, wo_some, wo_map, wo_bind, wo_if, bnd_mk, List.getElem?_cons_zero, List.getElem?_cons_succ, List.set_cons_zero, List.set_cons_succ, Option.map_some, Option.bind_some, gAdd, MS.gSub, gMul, gMod, gDiv, gLt, gLe, gGt, gGe, gI, gNeg, cInt, cI, cII, cAbs, cMax2, cMin2, decide_eq_true_eq, if_true, if_false, List.zip_cons_cons, List.zip_nil_right, List.foldl_cons, List.foldl_nil, List.length_cons, List.length_nil, Nat.zero_add, Nat.reduceAdd, Bool.false_eq_true, decide_true, decide_false, true_and, and_true, true_implies, implies_true, false_implies, not_true_eq_false, D.pureL, D.pure, D.fitL, D.fit, fit_dPair, fit_ints, Bool.and_true, Bool.true_and, Bool.and_self, wo_none, nn_iff, imp_and', and_false, false_and, szOk_0, szOk_1, szOk_2, szOk_3, szOk_4, szOk_5, szOk_6, szOk_7, szOk_8, eqA_int, neA_int, eqA_str, neA_str, eqA_bl, neA_bl, Bool.not_eq_true', Bool.not_true, Bool.not_false, not_false_eq_true, tyOf, isT, String.reduceBEq, Bool.or_false, Bool.false_or, Bool.and_false, Bool.or_true, Bool.true_or, Bool.false_and, dv, m1, m2, fdiv_pos (show 0 < 2 * b by omega)]
theorem at_most_ok {a b c d : Int} (h1 : mulOk a d = true) (h2 : mulOk c b = true) : PG.F_is_at_most [dPair (a, b), dPair (c, d)] = some (.bl (decide (a * d ≤ c * b))) := by
  refine bodyP_run rfl rfl ?_
  show Wo (PG.b_is_at_most [some (dPair (a, b)), some (dPair (c, d))] []) _
  unfold PG.b_is_at_most dPair
  simp only [sAsg, sIf, sRet, sRetN, sNil, sPass, sSet, sExpr, sPar, sBrk, sCnt, dC, dVar, dOp, dUn, dIf, dCB, dCalP, dCalM, dMeth, dMeth0, dAnd, dOr, dNot, dIsi, aNil, aCons, asB, tbAnd, tbOr, tbNot, dChain, gN, gOf, nN, nT, nsCons, nsNil, dTup, dLst, dCell, wo_bnd, wo_some, wo_map, wo_bind, wo_if, bnd_mk, List.getElem?_cons_zero, List.getElem?_cons_succ, List.set_cons_zero, List.set_cons_succ, Option.map_some, Option.bind_some, gAdd, MS.gSub, gMul, gMod, gDiv, gLt, gLe, gGt, gGe, gI, gNeg, cInt, cI, cII, cAbs, cMax2, cMin2, decide_eq_true_eq, if_true, if_false, List.zip_cons_cons, List.zip_nil_right, List.foldl_cons, List.foldl_nil, List.length_cons, List.length_nil, Nat.zero_add, Nat.reduceAdd, Bool.false_eq_true, decide_true, decide_false, true_and, and_true, true_implies, implies_true, false_implies, not_true_eq_false, D.pureL, D.pure, D.fitL, D.fit, fit_dPair, fit_ints, Bool.and_true, Bool.true_and, Bool.and_self, wo_none, nn_iff, imp_and', and_false, false_and, szOk_0, szOk_1, szOk_2, szOk_3, szOk_4, szOk_5, szOk_6, szOk_7, szOk_8, eqA_int, neA_int, eqA_str, neA_str, eqA_bl, neA_bl, Bool.not_eq_true', Bool.not_true, Bool.not_false, not_false_eq_true, tyOf, isT, String.reduceBEq, Bool.or_false, Bool.false_or, Bool.and_false, Bool.or_true, Bool.true_or, Bool.false_and, ix0, ix1, h1, h2]
theorem added_ok {a b c d : Int} (h1 : mulOk a d = true) (h2 : mulOk c b = true) (h3 : mulOk b d = true) (hq : b * d ≠ 0) (hs : (b * d).natAbs < 10 ^ 60) : PG.F_fractions_added [dPair (a, b), dPair (c, d)] = some (dPair (low (a * d + c * b) (b * d))) := by
  refine bodyP_run rfl rfl ?_
  show Wo (PG.b_fractions_added [some (dPair (a, b)), some (dPair (c, d))] []) _
  unfold PG.b_fractions_added dPair
  simp only [sAsg, sIf, sRet, sRetN, sNil, sPass, sSet, sExpr, sPar, sBrk, sCnt, dC, dVar, dOp, dUn, dIf, dCB, dCalP, dCalM, dMeth, dMeth0, dAnd, dOr, dNot, dIsi, aNil, aCons, asB, tbAnd, tbOr, tbNot, dChain, gN, gOf, nN, nT, nsCons, nsNil, dTup, dLst, dCell, wo_bnd, wo_some, wo_map, wo_bind, wo_if, bnd_mk, List.getElem?_cons_zero, List.getElem?_cons_succ, List.set_cons_zero, List.set_cons_succ, Option.map_some, Option.bind_some, gAdd, MS.gSub, gMul, gMod, gDiv, gLt, gLe, gGt, gGe, gI, gNeg, cInt, cI, cII, cAbs, cMax2, cMin2, decide_eq_true_eq, if_true, if_false, List.zip_cons_cons, List.zip_nil_right, List.foldl_cons, List.foldl_nil, List.length_cons, List.length_nil, Nat.zero_add, Nat.reduceAdd, Bool.false_eq_true, decide_true, decide_false, true_and, and_true, true_implies, implies_true, false_implies, not_true_eq_false, D.pureL, D.pure, D.fitL, D.fit, fit_dPair, fit_ints, Bool.and_true, Bool.true_and, Bool.and_self, wo_none, nn_iff, imp_and', and_false, false_and, szOk_0, szOk_1, szOk_2, szOk_3, szOk_4, szOk_5, szOk_6, szOk_7, szOk_8, eqA_int, neA_int, eqA_str, neA_str, eqA_bl, neA_bl, Bool.not_eq_true', Bool.not_true, Bool.not_false, not_false_eq_true, tyOf, isT, String.reduceBEq, Bool.or_false, Bool.false_or, Bool.and_false, Bool.or_true, Bool.true_or, Bool.false_and, ix0, ix1, h1, h2, h3, lowest_of_ok hq hs]
  try rfl
theorem far_ok {a b x : Int} (hb : b ≠ 0) (hs : b.natAbs < 10 ^ 60) (h1 : mulOk x b = true) : PG.F_far_of [dPair (a, b), .int x] = some (dPair (absI (low (x * b - a) b).1, (low (x * b - a) b).2)) := by
  refine bodyP_run rfl rfl ?_
  show Wo (PG.b_far_of [some (dPair (a, b)), some (.int x), none, none] []) _
  unfold PG.b_far_of
  refine wo_seqN fun K k1 => ?_
  unfold dPair
  simp only [sAsg, sIf, sRet, sRetN, sNil, sPass, sSet, sExpr, sPar, sBrk, sCnt, dC, dVar, dOp, dUn, dIf, dCB, dCalP, dCalM, dMeth, dMeth0, dAnd, dOr, dNot, dIsi, aNil, aCons, asB, tbAnd, tbOr, tbNot, dChain, gN, gOf, nN, nT, nsCons, nsNil, dTup, dLst, dCell, wo_bnd, wo_some, wo_map, wo_bind, wo_if, bnd_mk, List.getElem?_cons_zero, List.getElem?_cons_succ, List.set_cons_zero, List.set_cons_succ, Option.map_some, Option.bind_some, gAdd, MS.gSub, gMul, gMod, gDiv, gLt, gLe, gGt, gGe, gI, gNeg, cInt, cI, cII, cAbs, cMax2, cMin2, decide_eq_true_eq, if_true, if_false, List.zip_cons_cons, List.zip_nil_right, List.foldl_cons, List.foldl_nil, List.length_cons, List.length_nil, Nat.zero_add, Nat.reduceAdd, Bool.false_eq_true, decide_true, decide_false, true_and, and_true, true_implies, implies_true, false_implies, not_true_eq_false, D.pureL, D.pure, D.fitL, D.fit, fit_dPair, fit_ints, Bool.and_true, Bool.true_and, Bool.and_self, wo_none, nn_iff, imp_and', and_false, false_and, szOk_0, szOk_1, szOk_2, szOk_3, szOk_4, szOk_5, szOk_6, szOk_7, szOk_8, eqA_int, neA_int, eqA_str, neA_str, eqA_bl, neA_bl, Bool.not_eq_true', Bool.not_true, Bool.not_false, not_false_eq_true, tyOf, isT, String.reduceBEq, Bool.or_false, Bool.false_or, Bool.and_false, Bool.or_true, Bool.true_or, Bool.false_and, ix0, ix1, h1, lowest_of_ok hb hs]
  unfold dPair
  simp only [sAsg, sIf, sRet, sRetN, sNil, sPass, sSet, sExpr, sPar, sBrk, sCnt, dC, dVar, dOp, dUn, dIf, dCB, dCalP, dCalM, dMeth, dMeth0, dAnd, dOr, dNot, dIsi, aNil, aCons, asB, tbAnd, tbOr, tbNot, dChain, gN, gOf, nN, nT, nsCons, nsNil, dTup, dLst, dCell, wo_bnd, wo_some, wo_map, wo_bind, wo_if, bnd_mk, List.getElem?_cons_zero, List.getElem?_cons_succ, List.set_cons_zero, List.set_cons_succ, Option.map_some, Option.bind_some, gAdd, MS.gSub, gMul, gMod, gDiv, gLt, gLe, gGt, gGe, gI, gNeg, cInt, cI, cII, cAbs, cMax2, cMin2, decide_eq_true_eq, if_true, if_false, List.zip_cons_cons, List.zip_nil_right, List.foldl_cons, List.foldl_nil, List.length_cons, List.length_nil, Nat.zero_add, Nat.reduceAdd, Bool.false_eq_true, decide_true, decide_false, true_and, and_true, true_implies, implies_true, false_implies, not_true_eq_false, D.pureL, D.pure, D.fitL, D.fit, fit_dPair, fit_ints, Bool.and_true, Bool.true_and, Bool.and_self, wo_none, nn_iff, imp_and', and_false, false_and, szOk_0, szOk_1, szOk_2, szOk_3, szOk_4, szOk_5, szOk_6, szOk_7, szOk_8, eqA_int, neA_int, eqA_str, neA_str, eqA_bl, neA_bl, Bool.not_eq_true', Bool.not_true, Bool.not_false, not_false_eq_true, tyOf, isT, String.reduceBEq, Bool.or_false, Bool.false_or, Bool.and_false, Bool.or_true, Bool.true_or, Bool.false_and]
  refine k1 _ _ ?_
  simp only [sAsg, sIf, sRet, sRetN, sNil, sPass, sSet, sExpr, sPar, sBrk, sCnt, dC, dVar, dOp, dUn, dIf, dCB, dCalP, dCalM, dMeth, dMeth0, dAnd, dOr, dNot, dIsi, aNil, aCons, asB, tbAnd, tbOr, tbNot, dChain, gN, gOf, nN, nT, nsCons, nsNil, dTup, dLst, dCell, wo_bnd, wo_some, wo_map, wo_bind, wo_if, bnd_mk, List.getElem?_cons_zero, List.getElem?_cons_succ, List.set_cons_zero, List.set_cons_succ, Option.map_some, Option.bind_some, gAdd, MS.gSub, gMul, gMod, gDiv, gLt, gLe, gGt, gGe, gI, gNeg, cInt, cI, cII, cAbs, cMax2, cMin2, decide_eq_true_eq, if_true, if_false, List.zip_cons_cons, List.zip_nil_right, List.foldl_cons, List.foldl_nil, List.length_cons, List.length_nil, Nat.zero_add, Nat.reduceAdd, Bool.false_eq_true, decide_true, decide_false, true_and, and_true, true_implies, implies_true, false_implies, not_true_eq_false, D.pureL, D.pure, D.fitL, D.fit, fit_dPair, fit_ints, Bool.and_true, Bool.true_and, Bool.and_self, wo_none, nn_iff, imp_and', and_false, false_and, szOk_0, szOk_1, szOk_2, szOk_3, szOk_4, szOk_5, szOk_6, szOk_7, szOk_8, eqA_int, neA_int, eqA_str, neA_str, eqA_bl, neA_bl, Bool.not_eq_true', Bool.not_true, Bool.not_false, not_false_eq_true, tyOf, isT, String.reduceBEq, Bool.or_false, Bool.false_or, Bool.and_false, Bool.or_true, Bool.true_or, Bool.false_and]
  try rfl
end MS

namespace MS
open PySem PySem.Spec PyProof.Rows L2
theorem cut_take {ds : List D} {k : Nat} : cutD ds none (some (k : Int)) = ds.take k := by
  unfold cutD
  rw [HT.sIx_none, HT.sIx_nat, List.drop_zero, Nat.sub_zero]
  rw [Nat.min_def]
  split
  · rfl
  · rw [List.take_length, List.take_of_length_le (by omega)]
/-- how far x is from a/b, times b -/
def dist (a b x : Int) : Int := absI (x * b - a)
def kd (a b x : Int) : Int × Int := (dist a b x, x)
theorem leP_trans {x y z : Int × Int} (h1 : leP x y = true) (h2 : leP y z = true) : leP x z = true := by
  rw [leP_iff] at *
  omega
section
variable {a b : Int}
theorem near_ok (hb : 0 < b) : (2 * near a b - 1) * b < 2 * a ∧ 2 * a ≤ (2 * near a b + 1) * b := by
  have e := Int.emod_add_mul_ediv (b - 2 * a) (2 * b)
  have h1 := Int.emod_nonneg (b - 2 * a) (show 2 * b ≠ 0 by omega)
  have h2 := Int.emod_lt_of_pos (b - 2 * a) (show 0 < 2 * b by omega)
  unfold near
  generalize (b - 2 * a) / (2 * b) = q at *
  generalize (b - 2 * a) % (2 * b) = r at *
  have e1 : 2 * b * q = 2 * (q * b) := by rw [Int.mul_assoc, Int.mul_comm b q]
  have e2 : (2 * -q - 1) * b = - (2 * (q * b)) - b := by rw [Int.sub_mul, Int.mul_assoc, Int.neg_mul, Int.one_mul]; omega
  have e3 : (2 * -q + 1) * b = - (2 * (q * b)) + b := by rw [Int.add_mul, Int.mul_assoc, Int.neg_mul, Int.one_mul]; omega
  rw [e1] at e
  rw [e2, e3]
  generalize q * b = t at *
  omega
/-- below and above the nearest -/
theorem dist_down (hb : 0 < b) {x : Int} (h : x < near a b) : dist a b x = a - x * b ∧ b < 2 * (a - x * b) := by
  obtain ⟨h1, h2⟩ := near_ok (a := a) hb
  have h3 : x * b ≤ (near a b - 1) * b := Int.mul_le_mul_of_nonneg_right (by omega) (by omega)
  have e2 : (2 * near a b - 1) * b = 2 * (near a b * b) - b := by rw [Int.sub_mul, Int.mul_assoc, Int.one_mul]
  have e3 : (near a b - 1) * b = near a b * b - b := by rw [Int.sub_mul, Int.one_mul]
  unfold dist absI
  generalize near a b * b = t at *
  generalize x * b = u at *
  split <;> omega
theorem dist_up (hb : 0 < b) {x : Int} (h : near a b < x) : dist a b x = x * b - a ∧ b ≤ 2 * (x * b - a) := by
  obtain ⟨h1, h2⟩ := near_ok (a := a) hb
  have h3 : (near a b + 1) * b ≤ x * b := Int.mul_le_mul_of_nonneg_right (by omega) (by omega)
  have e2 : (2 * near a b + 1) * b = 2 * (near a b * b) + b := by rw [Int.add_mul, Int.mul_assoc, Int.one_mul]
  have e3 : (near a b + 1) * b = near a b * b + b := by rw [Int.add_mul, Int.one_mul]
  unfold dist absI
  generalize near a b * b = t at *
  generalize x * b = u at *
  split <;> omega
theorem dist_near (hb : 0 < b) : 2 * dist a b (near a b) ≤ b := by
  obtain ⟨h1, h2⟩ := near_ok (a := a) hb
  have e2 : (2 * near a b + 1) * b = 2 * (near a b * b) + b := by rw [Int.add_mul, Int.mul_assoc, Int.one_mul]
  have e3 : (2 * near a b - 1) * b = 2 * (near a b * b) - b := by rw [Int.sub_mul, Int.mul_assoc, Int.one_mul]
  unfold dist absI
  generalize near a b * b = t at *
  split <;> omega
theorem down_le (hb : 0 < b) {x y : Int} (h : x ≤ y) (hy : y < near a b) : leP (kd a b y) (kd a b x) = true := by
  rw [leP_iff]
  show dist a b y < dist a b x ∨ (dist a b y = dist a b x ∧ y ≤ x)
  rw [(dist_down hb hy).1, (dist_down hb (show x < near a b by omega)).1]
  by_cases e : x = y
  · subst e
    exact .inr ⟨rfl, by omega⟩
  · have : x * b ≤ (y - 1) * b := Int.mul_le_mul_of_nonneg_right (by omega) (by omega)
    rw [Int.sub_mul, Int.one_mul] at this
    omega
theorem up_le (hb : 0 < b) {x y : Int} (h : y ≤ x) (hy : near a b < y) : leP (kd a b y) (kd a b x) = true := by
  rw [leP_iff]
  show dist a b y < dist a b x ∨ (dist a b y = dist a b x ∧ y ≤ x)
  rw [(dist_up hb hy).1, (dist_up hb (show near a b < x by omega)).1]
  by_cases e : x = y
  · subst e
    exact .inr ⟨rfl, by omega⟩
  · have : (y + 1) * b ≤ x * b := Int.mul_le_mul_of_nonneg_right (by omega) (by omega)
    rw [Int.add_mul, Int.one_mul] at this
    omega
theorem near_le (hb : 0 < b) {x : Int} : leP (kd a b (near a b)) (kd a b x) = true := by
  rw [leP_iff]
  show dist a b (near a b) < dist a b x ∨ (dist a b (near a b) = dist a b x ∧ near a b ≤ x)
  have h0 := dist_near (a := a) hb
  rcases Int.lt_trichotomy x (near a b) with h | h | h
  · obtain ⟨h1, h2⟩ := dist_down hb h
    omega
  · rw [h]
    exact .inr ⟨rfl, by omega⟩
  · obtain ⟨h1, h2⟩ := dist_up hb h
    omega
/-- the two ways of comparing -/
theorem far_le (hb : 0 < b) {x y : Int} : absI (low x b).1 * (low y b).2 ≤ absI (low y b).1 * (low x b).2 ↔ absI x ≤ absI y := by
  obtain ⟨g, g0, g1, g2⟩ := low_ok (p := x) (q := b) (by omega)
  obtain ⟨k, k0, k1, k2⟩ := low_ok (p := y) (q := b) (by omega)
  obtain ⟨_, g4, g3⟩ := g2.resolve_right (fun z => by omega)
  obtain ⟨_, k4, k3⟩ := k2.resolve_right (fun z => by omega)
  clear g2 k2
  generalize (low x b).1 = p1 at *
  generalize (low x b).2 = q1 at *
  generalize (low y b).1 = p2 at *
  generalize (low y b).2 = q2 at *
  have ax : absI x = absI p1 * g := by rw [absI_eq, absI_eq, g4, Int.natAbs_mul]; rw [Int.natCast_mul]; rw [show ((g.natAbs : Nat) : Int) = g by omega]
  have ay : absI y = absI p2 * k := by rw [absI_eq, absI_eq, k4, Int.natAbs_mul]; rw [Int.natCast_mul]; rw [show ((k.natAbs : Nat) : Int) = k by omega]
  rw [ax, ay]
  generalize absI p1 = u
  generalize absI p2 = v
  have m : 0 < q1 * k := Int.mul_pos g1 k0
  have e : u * q2 * (g * k) = u * g * b := by rw [k3]; grind
  have e' : v * q1 * (g * k) = v * k * b := by rw [g3]; grind
  have gk : 0 < g * k := Int.mul_pos g0 k0
  constructor
  · intro h
    have h2 := Int.mul_le_mul_of_nonneg_right h (Int.le_of_lt gk)
    rw [e, e'] at h2
    exact Int.le_of_mul_le_mul_right h2 hb
  · intro h
    have h2 := Int.mul_le_mul_of_nonneg_right h (Int.le_of_lt hb)
    rw [← e, ← e'] at h2
    exact Int.le_of_mul_le_mul_right h2 gk
end
/-- the first of a sorted window -/
theorem take_isort {f : Int → Int × Int} {W L : List Int} (nW : W.Nodup) (nL : L.Nodup) (sub : ∀ x ∈ L, x ∈ W) (hs : (L.map f).Pairwise fun p q => leP p q = true) (hr : ∀ l ∈ L, ∀ r ∈ W, r ∉ L → leP (f l) (f r) = true) : (isort leP (W.map f)).take L.length = L.map f := by
  have p1 : (W.filter (fun x => decide (x ∈ L)) ++ W.filter (fun x => !decide (x ∈ L))).Perm W := List.filter_append_perm _ _
  have p2 : (W.filter (fun x => decide (x ∈ L))).Perm L := (List.perm_ext_iff_of_nodup (nW.filter _) nL).mpr fun x => by
    rw [List.mem_filter]
    exact ⟨fun h => of_decide_eq_true h.2, fun h => ⟨sub x h, decide_eq_true h⟩⟩
  generalize hR : W.filter (fun x => !decide (x ∈ L)) = R at *
  have p3 : (L ++ R).Perm W := (p2.symm.append_right R).trans p1
  have tot : ∀ p q : Int × Int, leP p q = true ∨ leP q p = true := fun p q => by simp only [leP_iff]; omega
  have tr : ∀ p q r : Int × Int, leP p q = true → leP q r = true → leP p r = true := fun p q r => leP_trans
  have key : L.map f ++ isort leP (R.map f) = isort leP (W.map f) := by
    refine sortP_eq ?_ ?_
    · exact (((isort_perm leP (R.map f)).append_left (L.map f)).trans (by rw [← List.map_append])).trans (p3.map f)
    · refine List.pairwise_append.mpr ⟨hs, isort_pw tot tr _, fun p hp q hq => ?_⟩
      obtain ⟨l, hl, rfl⟩ := List.mem_map.mp hp
      obtain ⟨r, hr', rfl⟩ := List.mem_map.mp ((isort_perm leP (R.map f)).mem_iff.mp hq)
      rw [← hR, List.mem_filter] at hr'
      exact hr l hl r hr'.1 (by simpa using hr'.2)
  rw [← key]
  have : (L.map f).length = L.length := List.length_map ..
  rw [← this, List.take_left]
/-- what outward_numbers has found -/
structure Outw (a b : Int) (L : List Int) (lo hi : Int) : Prop where
  hlo : lo < near a b
  hhi : near a b < hi
  mem : ∀ x, x ∈ L ↔ lo < x ∧ x < hi
  nd : L.Nodup
  srt : (L.map (kd a b)).Pairwise fun p q => leP p q = true
  below : ∀ l ∈ L, leP (kd a b l) (kd a b lo) = true
  above : ∀ l ∈ L, leP (kd a b l) (kd a b hi) = true
  len : hi - lo - 1 = L.length
section
variable {a b lo hi : Int} {L : List Int}
theorem Outw.start (hb : 0 < b) : Outw a b [near a b] (near a b - 1) (near a b + 1) where
  hlo := by omega
  hhi := by omega
  mem x := by rw [List.mem_singleton]; omega
  nd := by simp
  srt := by simp
  below l hl := by rw [List.mem_singleton.mp hl]; exact near_le hb
  above l hl := by rw [List.mem_singleton.mp hl]; exact near_le hb
  len := by simp; omega
theorem pw_snoc {L : List Int} {x : Int} {f : Int → Int × Int} (h : (L.map f).Pairwise fun p q => leP p q = true) (hx : ∀ l ∈ L, leP (f l) (f x) = true) : ((L ++ [x]).map f).Pairwise fun p q => leP p q = true := by
  rw [List.map_append]
  refine List.pairwise_append.mpr ⟨h, List.pairwise_singleton _ _, fun p hp q hq => ?_⟩
  obtain ⟨l, hl, rfl⟩ := List.mem_map.mp hp
  rw [List.map_cons, List.map_nil, List.mem_singleton] at hq
  rw [hq]
  exact hx l hl
theorem nd_snoc {L : List Int} {x : Int} (h : L.Nodup) (hx : x ∉ L) : (L ++ [x]).Nodup := by
  refine List.nodup_append.mpr ⟨h, by simp, fun p hp q hq => ?_⟩
  rw [List.mem_singleton] at hq
  subst hq
  exact fun e => hx (e ▸ hp)
theorem Outw.down (hb : 0 < b) (h : Outw a b L lo hi) (hd : dist a b lo ≤ dist a b hi) : Outw a b (L ++ [lo]) (lo - 1) hi where
  hlo := by have := h.hlo; omega
  hhi := h.hhi
  mem x := by
    have := h.hlo
    have := h.hhi
    rw [List.mem_append, List.mem_singleton, h.mem]
    omega
  nd := nd_snoc h.nd (by rw [h.mem]; omega)
  srt := pw_snoc h.srt h.below
  below l hl := by
    have z : leP (kd a b lo) (kd a b (lo - 1)) = true := down_le hb (by omega) h.hlo
    rcases List.mem_append.mp hl with hl | hl
    · exact leP_trans (h.below l hl) z
    · rw [List.mem_singleton.mp hl]; exact z
  above l hl := by
    rcases List.mem_append.mp hl with hl | hl
    · exact h.above l hl
    · rw [List.mem_singleton.mp hl, leP_iff]
      have := h.hlo
      have := h.hhi
      show dist a b lo < dist a b hi ∨ (dist a b lo = dist a b hi ∧ lo ≤ hi)
      omega
  len := by
    have := h.len
    rw [List.length_append, List.length_singleton]
    omega
theorem Outw.up (hb : 0 < b) (h : Outw a b L lo hi) (hd : ¬ dist a b lo ≤ dist a b hi) : Outw a b (L ++ [hi]) lo (hi + 1) where
  hlo := h.hlo
  hhi := by have := h.hhi; omega
  mem x := by
    have := h.hlo
    have := h.hhi
    rw [List.mem_append, List.mem_singleton, h.mem]
    omega
  nd := nd_snoc h.nd (by rw [h.mem]; omega)
  srt := pw_snoc h.srt h.above
  above l hl := by
    have z : leP (kd a b hi) (kd a b (hi + 1)) = true := up_le hb (by omega) h.hhi
    rcases List.mem_append.mp hl with hl | hl
    · exact leP_trans (h.above l hl) z
    · rw [List.mem_singleton.mp hl]; exact z
  below l hl := by
    rcases List.mem_append.mp hl with hl | hl
    · exact h.below l hl
    · rw [List.mem_singleton.mp hl, leP_iff]
      show dist a b hi < dist a b lo ∨ _
      omega
  len := by
    have := h.len
    rw [List.length_append, List.length_singleton]
    omega
theorem Outw.take (hb : 0 < b) (h : Outw a b L lo hi) {W : List Int} (nW : W.Nodup) (sub : ∀ x, lo < x → x < hi → x ∈ W) : (isort leP (W.map (kd a b))).take L.length = L.map (kd a b) := by
  refine take_isort nW h.nd (fun x hx => ?_) h.srt fun l hl r hr hn => ?_
  · have := (h.mem x).mp hx
    exact sub x this.1 this.2
  · rw [h.mem] at hn
    by_cases e : r ≤ lo
    · exact leP_trans (h.below l hl) (down_le hb e h.hlo)
    · exact leP_trans (h.above l hl) (up_le hb (by omega) h.hhi)
end
theorem outward_ok {a b many : Int} (hb : 0 < b) (hs : b < 2 ^ 60) (hm : 1 ≤ many) (hm2 : many ≤ 1000) : ∃ L lo hi, PG.F_outward_numbers [dPair (a, b), .int many] = some (.tup (L.map D.int)) ∧ Outw a b L lo hi ∧ (L.length : Int) = many := by
  suffices core : Wo (PG.b_outward_numbers [some (dPair (a, b)), some (.int many), none, none, none, none] []) fun z => ∃ L lo hi, z.1 = .rt (.tup (L.map D.int)) ∧ Outw a b L lo hi ∧ (L.length : Int) = many by
    obtain ⟨⟨o, ρ', S'⟩, e, L, lo, hi, rfl, h1, h2⟩ := core
    exact ⟨L, lo, hi, bodyP_run rfl (fitL_ints 0 L) ⟨_, e, rfl⟩, h1, h2⟩
  have hs60 : (2 : Int) ^ 60 < 10 ^ 60 := by decide
  have p60 : (2 : Int) ^ 60 < ((2 ^ 64 : Nat) : Int) := by decide
  have b64 : b.natAbs < 2 ^ 64 := by omega
  have b250 : b.natAbs < 2 ^ 250 := Nat.lt_trans b64 (by decide)
  have b10 : b.natAbs < 10 ^ 60 := Nat.lt_trans b64 (by decide)
  refine wo_seqN fun K k1 => ?_
  simp only [sAsg, sIf, sRet, sRetN, sNil, sPass, sSet, sExpr, sPar, sBrk, sCnt, dC, dVar, dOp, dUn, dIf, dCB, dCalP, dCalM, dMeth, dMeth0, dAnd, dOr, dNot, dIsi, aNil, aCons, asB, tbAnd, tbOr, tbNot, dChain, gN, gOf, nN, nT, nsCons, nsNil, dTup, dLst, dCell, wo_bnd, wo_some, wo_map, wo_bind, wo_if, bnd_mk, List.getElem?_cons_zero, List.getElem?_cons_succ, List.set_cons_zero, List.set_cons_succ, Option.map_some, Option.bind_some, gAdd, MS.gSub, gMul, gMod, gDiv, gLt, gLe, gGt, gGe, gI, gNeg, cInt, cI, cII, cAbs, cMax2, cMin2, decide_eq_true_eq, if_true, if_false, List.zip_cons_cons, List.zip_nil_right, List.foldl_cons, List.foldl_nil, List.length_cons, List.length_nil, Nat.zero_add, Nat.reduceAdd, Bool.false_eq_true, decide_true, decide_false, true_and, and_true, true_implies, implies_true, false_implies, not_true_eq_false, D.pureL, D.pure, D.fitL, D.fit, fit_dPair, fit_ints, Bool.and_true, Bool.true_and, Bool.and_self, wo_none, nn_iff, imp_and', and_false, false_and, szOk_0, szOk_1, szOk_2, szOk_3, szOk_4, szOk_5, szOk_6, szOk_7, szOk_8, eqA_int, neA_int, eqA_str, neA_str, eqA_bl, neA_bl, Bool.not_eq_true', Bool.not_true, Bool.not_false, not_false_eq_true, tyOf, isT, String.reduceBEq, Bool.or_false, Bool.false_or, Bool.and_false, Bool.or_true, Bool.true_or, Bool.false_and, nearest_ok hb b250]
  refine k1 _ _ ?_
  clear k1
  refine wo_seqN fun K k1 => ?_
  simp only [sAsg, sIf, sRet, sRetN, sNil, sPass, sSet, sExpr, sPar, sBrk, sCnt, dC, dVar, dOp, dUn, dIf, dCB, dCalP, dCalM, dMeth, dMeth0, dAnd, dOr, dNot, dIsi, aNil, aCons, asB, tbAnd, tbOr, tbNot, dChain, gN, gOf, nN, nT, nsCons, nsNil, dTup, dLst, dCell, wo_bnd, wo_some, wo_map, wo_bind, wo_if, bnd_mk, List.getElem?_cons_zero, List.getElem?_cons_succ, List.set_cons_zero, List.set_cons_succ, Option.map_some, Option.bind_some, gAdd, MS.gSub, gMul, gMod, gDiv, gLt, gLe, gGt, gGe, gI, gNeg, cInt, cI, cII, cAbs, cMax2, cMin2, decide_eq_true_eq, if_true, if_false, List.zip_cons_cons, List.zip_nil_right, List.foldl_cons, List.foldl_nil, List.length_cons, List.length_nil, Nat.zero_add, Nat.reduceAdd, Bool.false_eq_true, decide_true, decide_false, true_and, and_true, true_implies, implies_true, false_implies, not_true_eq_false, D.pureL, D.pure, D.fitL, D.fit, fit_dPair, fit_ints, Bool.and_true, Bool.true_and, Bool.and_self, wo_none, nn_iff, imp_and', and_false, false_and, szOk_0, szOk_1, szOk_2, szOk_3, szOk_4, szOk_5, szOk_6, szOk_7, szOk_8, eqA_int, neA_int, eqA_str, neA_str, eqA_bl, neA_bl, Bool.not_eq_true', Bool.not_true, Bool.not_false, not_false_eq_true, tyOf, isT, String.reduceBEq, Bool.or_false, Bool.false_or, Bool.and_false, Bool.or_true, Bool.true_or, Bool.false_and]
  refine k1 _ _ ?_
  clear k1
  refine wo_mid (fun ρ' S' => ∃ L lo hi, ρ' = [some (dPair (a, b)), some (.int many), some (.int (near a b)), some (.ref 0), some (.int lo), some (.int hi)] ∧ S' = [.lst (L.map D.int)] ∧ Outw a b L lo hi ∧ (L.length : Int) = many) ?_ ?_
  · refine wo_while (fun m ρ' S' => ∃ L lo hi, ρ' = [some (dPair (a, b)), some (.int many), some (.int (near a b)), some (.ref 0), some (.int lo), some (.int hi)] ∧ S' = [.lst (L.map D.int)] ∧ Outw a b L lo hi ∧ (L.length : Int) ≤ many ∧ m = (many - L.length).toNat) ⟨[near a b], near a b - 1, near a b + 1, rfl, rfl, .start hb, hm, rfl⟩ (by omega) ?_
    rintro m ρ' S' ⟨L, lo, hi, rfl, rfl, hO, hl, rfl⟩
    have hlen : cLen [.ref 0] [.lst (L.map D.int)] = some (.int L.length, [.lst (L.map D.int)]) := by
      unfold cLen
      simp only [List.getElem?_cons_zero, List.length_map]
    have mb : ∀ x : Int, mulOk x b = true := fun x => mulOk_r b64
    have lb := (low_le (p := lo * b - a) (q := b) (by omega)).1
    have lb' := (low_le (p := hi * b - a) (q := b) (by omega)).1
    have at1 := at_most_ok (a := absI (low (lo * b - a) b).1) (b := (low (lo * b - a) b).2) (c := absI (low (hi * b - a) b).1) (d := (low (hi * b - a) b).2) (mulOk_r (by have := (low_ok (p := hi * b - a) (q := b) (by omega)); obtain ⟨g, g0, g1, _⟩ := this; omega)) (mulOk_r (by have := (low_ok (p := lo * b - a) (q := b) (by omega)); obtain ⟨g, g0, g1, _⟩ := this; omega))
    have app : ∀ x : Int, gAppend (.ref 0) [.int x] [.lst (L.map D.int)] = some (.non, [.lst ((L ++ [x]).map D.int)]) := fun x => by
      unfold gAppend
      simp only [List.getElem?_cons_zero]
      rw [if_pos ⟨by rw [List.length_map, sizeLine_eq]; omega, rfl⟩, List.map_append]
      rfl
    have hL : isL [.lst (L.map D.int)] (.ref 0) = true := rfl
    unfold PG.w1c_outward_numbers
    simp only [sAsg, sIf, sRet, sRetN, sNil, sPass, sSet, sExpr, sPar, sBrk, sCnt, dC, dVar, dOp, dUn, dIf, dCB, dCalP, dCalM, dMeth, dMeth0, dAnd, dOr, dNot, dIsi, aNil, aCons, asB, tbAnd, tbOr, tbNot, dChain, gN, gOf, nN, nT, nsCons, nsNil, dTup, dLst, dCell, wo_bnd, wo_some, wo_map, wo_bind, wo_if, bnd_mk, List.getElem?_cons_zero, List.getElem?_cons_succ, List.set_cons_zero, List.set_cons_succ, Option.map_some, Option.bind_some, gAdd, MS.gSub, gMul, gMod, gDiv, gLt, gLe, gGt, gGe, gI, gNeg, cInt, cI, cII, cAbs, cMax2, cMin2, decide_eq_true_eq, if_true, if_false, List.zip_cons_cons, List.zip_nil_right, List.foldl_cons, List.foldl_nil, List.length_cons, List.length_nil, Nat.zero_add, Nat.reduceAdd, Bool.false_eq_true, decide_true, decide_false, true_and, and_true, true_implies, implies_true, false_implies, not_true_eq_false, D.pureL, D.pure, D.fitL, D.fit, fit_dPair, fit_ints, Bool.and_true, Bool.true_and, Bool.and_self, wo_none, nn_iff, imp_and', and_false, false_and, szOk_0, szOk_1, szOk_2, szOk_3, szOk_4, szOk_5, szOk_6, szOk_7, szOk_8, eqA_int, neA_int, eqA_str, neA_str, eqA_bl, neA_bl, Bool.not_eq_true', Bool.not_true, Bool.not_false, not_false_eq_true, tyOf, isT, String.reduceBEq, Bool.or_false, Bool.false_or, Bool.and_false, Bool.or_true, Bool.true_or, Bool.false_and, hlen]
    refine ⟨fun z => ?_, fun z => ?_⟩
    · unfold PG.w1b_outward_numbers
      simp only [sAsg, sIf, sRet, sRetN, sNil, sPass, sSet, sExpr, sPar, sBrk, sCnt, dC, dVar, dOp, dUn, dIf, dCB, dCalP, dCalM, dMeth, dMeth0, dAnd, dOr, dNot, dIsi, aNil, aCons, asB, tbAnd, tbOr, tbNot, dChain, gN, gOf, nN, nT, nsCons, nsNil, dTup, dLst, dCell, wo_bnd, wo_some, wo_map, wo_bind, wo_if, bnd_mk, List.getElem?_cons_zero, List.getElem?_cons_succ, List.set_cons_zero, List.set_cons_succ, Option.map_some, Option.bind_some, gAdd, MS.gSub, gMul, gMod, gDiv, gLt, gLe, gGt, gGe, gI, gNeg, cInt, cI, cII, cAbs, cMax2, cMin2, decide_eq_true_eq, if_true, if_false, List.zip_cons_cons, List.zip_nil_right, List.foldl_cons, List.foldl_nil, List.length_cons, List.length_nil, Nat.zero_add, Nat.reduceAdd, Bool.false_eq_true, decide_true, decide_false, true_and, and_true, true_implies, implies_true, false_implies, not_true_eq_false, D.pureL, D.pure, D.fitL, D.fit, fit_dPair, fit_ints, Bool.and_true, Bool.true_and, Bool.and_self, wo_none, nn_iff, imp_and', and_false, false_and, szOk_0, szOk_1, szOk_2, szOk_3, szOk_4, szOk_5, szOk_6, szOk_7, szOk_8, eqA_int, neA_int, eqA_str, neA_str, eqA_bl, neA_bl, Bool.not_eq_true', Bool.not_true, Bool.not_false, not_false_eq_true, tyOf, isT, String.reduceBEq, Bool.or_false, Bool.false_or, Bool.and_false, Bool.or_true, Bool.true_or, Bool.false_and, wo_seq, far_ok (a := a) (x := lo) (show b ≠ 0 by omega) b10 (mb lo), far_ok (a := a) (x := hi) (show b ≠ 0 by omega) b10 (mb hi), at1, hL, app]
      rw [far_le hb]
      have e1 : ∀ x : Int, ((L ++ [x]).length : Int) = L.length + 1 := fun x => by rw [List.length_append]; rfl
      exact ⟨fun q => ⟨(many - (L.length + 1)).toNat, by omega, L ++ [lo], lo - 1, hi, rfl, rfl, hO.down hb q, by rw [e1]; omega, by rw [e1]⟩, fun q => ⟨(many - (L.length + 1)).toNat, by omega, L ++ [hi], lo, hi + 1, rfl, rfl, hO.up hb q, by rw [e1]; omega, by rw [e1]⟩⟩
    · have z : ¬ (L.length : Int) < many := of_decide_eq_false z
      exact ⟨L, lo, hi, rfl, rfl, hO, by omega⟩
  · rintro ρ' S' ⟨L, lo, hi, rfl, rfl, hO, hl⟩
    have hc : cutD (L.map D.int) none (some many) = L.map D.int := by
      rw [← hl, cut_take, List.take_of_length_le (by rw [List.length_map]; exact Nat.le_refl _)]
    unfold dSl pNo pAt gSl
    simp only [sAsg, sIf, sRet, sRetN, sNil, sPass, sSet, sExpr, sPar, sBrk, sCnt, dC, dVar, dOp, dUn, dIf, dCB, dCalP, dCalM, dMeth, dMeth0, dAnd, dOr, dNot, dIsi, aNil, aCons, asB, tbAnd, tbOr, tbNot, dChain, gN, gOf, nN, nT, nsCons, nsNil, dTup, dLst, dCell, wo_bnd, wo_some, wo_map, wo_bind, wo_if, bnd_mk, List.getElem?_cons_zero, List.getElem?_cons_succ, List.set_cons_zero, List.set_cons_succ, Option.map_some, Option.bind_some, gAdd, MS.gSub, gMul, gMod, gDiv, gLt, gLe, gGt, gGe, gI, gNeg, cInt, cI, cII, cAbs, cMax2, cMin2, decide_eq_true_eq, if_true, if_false, List.zip_cons_cons, List.zip_nil_right, List.foldl_cons, List.foldl_nil, List.length_cons, List.length_nil, Nat.zero_add, Nat.reduceAdd, Bool.false_eq_true, decide_true, decide_false, true_and, and_true, true_implies, implies_true, false_implies, not_true_eq_false, D.pureL, D.pure, D.fitL, D.fit, fit_dPair, fit_ints, Bool.and_true, Bool.true_and, Bool.and_self, wo_none, nn_iff, imp_and', and_false, false_and, szOk_0, szOk_1, szOk_2, szOk_3, szOk_4, szOk_5, szOk_6, szOk_7, szOk_8, eqA_int, neA_int, eqA_str, neA_str, eqA_bl, neA_bl, Bool.not_eq_true', Bool.not_true, Bool.not_false, not_false_eq_true, tyOf, isT, String.reduceBEq, Bool.or_false, Bool.false_or, Bool.and_false, Bool.or_true, Bool.true_or, Bool.false_and, listOf, hc, cTuple]
    exact ⟨L, lo, hi, rfl, hO, hl⟩
end MS

/-! the checks of a law, statement by statement -/
namespace MS
open PySem PySem.Spec PyProof.Rows L2
variable {ρ ρ' : Env} {S S' : Sto}
theorem wo_step {f g : SDen} {Q : Out × Env × Sto → Prop} (h : f ρ S = some (.nx, ρ', S')) (h2 : Wo (g ρ' S') Q) : Wo (sSeq f g ρ S) Q := wo_seq.mpr (wo_of h h2)
theorem call1 {c : CDen} {f : EDen} {d r : D} (h : f ρ S = some (d, S)) (hc : c [d] S = some (r, S)) : dCB c (aCons f (aNil)) ρ S = some (r, S) := by
  unfold dCB aCons aNil
  rw [h]
  simp only [bnd_mk, hc]
theorem cal1 {F : FP} {f : EDen} {d r : D} (h : f ρ S = some (d, S)) (hp : D.pure d = true) (hF : F [d] = some r) : dCalP F (aCons f (aNil)) ρ S = some (r, S) := by
  have hp' : D.pureL [d] = true := by
    show (D.pure d && true) = true
    rw [hp]
    rfl
  unfold dCalP aCons aNil
  rw [h]
  simp only [bnd_mk, hp', if_true, hF, Option.map_some]
theorem cal2 {F : FP} {f g : EDen} {d e r : D} (h : f ρ S = some (d, S)) (h' : g ρ S = some (e, S)) (hp : D.pure d = true) (hp' : D.pure e = true) (hF : F [d, e] = some r) : dCalP F (aCons f (aCons g (aNil))) ρ S = some (r, S) := by
  have q : D.pureL [d, e] = true := by
    show (D.pure d && (D.pure e && true)) = true
    rw [hp, hp']
    rfl
  unfold dCalP aCons aNil
  rw [h]
  simp only [bnd_mk, h', q, if_true, hF, Option.map_some]
theorem cal3 {F : FP} {f g k : EDen} {d e i r : D} (h : f ρ S = some (d, S)) (h' : g ρ S = some (e, S)) (h'' : k ρ S = some (i, S)) (hp : D.pure d = true) (hp' : D.pure e = true) (hp'' : D.pure i = true) (hF : F [d, e, i] = some r) : dCalP F (aCons f (aCons g (aCons k (aNil)))) ρ S = some (r, S) := by
  have q : D.pureL [d, e, i] = true := by
    show (D.pure d && (D.pure e && (D.pure i && true))) = true
    rw [hp, hp', hp'']
    rfl
  unfold dCalP aCons aNil
  rw [h]
  simp only [bnd_mk, h', h'', q, if_true, hF, Option.map_some]
theorem op2 {o : Op2} {f g : EDen} {d e r : D} (h : f ρ S = some (d, S)) (h' : g ρ S = some (e, S)) (ho : o d e S = some (r, S)) : dOp o f g ρ S = some (r, S) := by
  unfold dOp
  rw [h, bnd_mk, h', bnd_mk, ho]
theorem as_b {f : EDen} {b : Bool} (h : f ρ S = some (.bl b, S)) : asB f ρ S = some (b, S) := by
  unfold asB
  rw [h, bnd_mk]
theorem var_at {v : Nat} {d : D} (h : ρ[v]? = some (some d)) : dVar v ρ S = some (d, S) := by
  unfold dVar
  rw [h]
theorem ctup_fl {L : List D} : cTuple [.fl L] S = some (.tup L, S) := rfl
theorem ne_repr {f g : EDen} {d : D} {s : Str} (h : f ρ S = some (d, S)) (h' : g ρ S = some (d, S)) (hr : cRepr [d] S = some (.str s, S)) : asB (dOp gNeA (dCB cRepr (aCons f (aNil))) (dCB cRepr (aCons g (aNil)))) ρ S = some (false, S) := by
  refine as_b (op2 (call1 h hr) (call1 h' hr) ?_)
  rw [neA_str, decide_eq_true rfl]
  rfl
theorem if_no {t : TDen} {a b : SDen} (h : t ρ S = some (false, S)) : sIf t a b ρ S = b ρ S := by
  unfold sIf
  rw [h, bnd_mk]
  rfl
theorem if_yes {t : TDen} {a b : SDen} (h : t ρ S = some (true, S)) : sIf t a b ρ S = a ρ S := by
  unfold sIf
  rw [h, bnd_mk]
  rfl
theorem if_nil {t : TDen} {a : SDen} (h : t ρ S = some (false, S)) : sIf t a (sNil) ρ S = some (.nx, ρ, S) := if_no h
theorem and_no {t u : TDen} (h : t ρ S = some (false, S)) : tbAnd t u ρ S = some (false, S) := by
  unfold tbAnd
  rw [h, bnd_mk]
  rfl
theorem and_go {t u : TDen} (h : t ρ S = some (true, S)) : tbAnd t u ρ S = u ρ S := by
  unfold tbAnd
  rw [h, bnd_mk]
  rfl
theorem or_go {t u : TDen} (h : t ρ S = some (false, S)) : tbOr t u ρ S = u ρ S := by
  unfold tbOr
  rw [h, bnd_mk]
  rfl
theorem asg {f : EDen} {v : Nat} {d : D} (h : f ρ S = some (d, S')) : sAsg f (gN v) ρ S = some (.nx, ρ.set v (some d), S') := by
  unfold sAsg
  rw [h, bnd_mk]
  rfl
end MS

/-! loops told by a fold, comprehensions over any source -/
namespace MS
open PySem PySem.Spec PyProof.Rows L2
theorem wo_fold {α β : Type} {s : Src} {g : GDen} {b : SDen} {e : α → D} (R : β → Env → Sto → Prop) (step : β → α → β) (hs : ∀ x ρ S, R x ρ S → s.ok S = true) :
    ∀ {l : List α} {x : β} {ρ : Env} {S : Sto} (h : ∀ a ∈ l, ∀ x ρ S, R x ρ S → Wo (g (e a) ρ S) fun p => Wo (b p.1 p.2) fun r => r.1 = .nx ∧ R (step x a) r.2.1 r.2.2), R x ρ S → Wo (forL s g b (l.map e) ρ S) fun r => r.1 = .nx ∧ R (l.foldl step x) r.2.1 r.2.2
  | [], x, ρ, S, _, r => by
    show Wo (if s.ok S then some (Out.nx, ρ, S) else none) _
    rw [if_pos (hs _ _ _ r)]
    exact ⟨_, rfl, rfl, r⟩
  | a :: l, x, ρ, S, h, r => by
    obtain ⟨⟨ρ1, S1⟩, e1, ⟨o, ρ2, S2⟩, e2, h3, h4⟩ := h a List.mem_cons_self x ρ S r
    have h3 : o = .nx := h3
    subst h3
    have e2 : b ρ1 S1 = some (.nx, ρ2, S2) := e2
    rw [List.map_cons]
    unfold forL
    rw [if_pos (hs _ _ _ r), e1]
    simp only [e2]
    exact wo_fold R step hs (l := l) (fun a ha => h a (List.mem_cons_of_mem _ ha)) h4
theorem dLc_gen {α : Type} {fi : IDen} {g : NDen} {t : TDen} {b : EDen} {vs : List Nat} {ρ : Env} {S : Sto} {s : Src} {items : List α} {e f : α → D} {p : α → Bool} (hi : fi ρ S = some (s, S)) (hit : s.items = items.map e) (hok : s.ok S = true) (hz : items.length ≤ 16777216)
    (h : ∀ d ∈ items, ∃ ρ1, g (e d) (wipeE ρ vs) = some ρ1 ∧ t ρ1 S = some (p d, S) ∧ (p d = true → b ρ1 S = some (f d, S))) : dLc fi g t b vs ρ S = some (.fl ((items.filter p).map f), S) := by
  unfold dLc
  rw [hi, bnd_mk, hit]
  have key : ∀ ds : List α, (∀ d ∈ ds, d ∈ items) → lcL s g t b (ds.map e) (wipeE ρ vs) S = some ((ds.filter p).map f, S) := by
    intro ds
    induction ds with
    | nil =>
      intro _
      show (if s.ok S then some (([] : List D), S) else none) = _
      rw [if_pos hok]
      rfl
    | cons d ds ih =>
      intro hm
      obtain ⟨ρ1, e1, e2, e3⟩ := h d (hm d List.mem_cons_self)
      have ih := ih fun d' m => hm d' (List.mem_cons_of_mem _ m)
      rw [List.map_cons]
      unfold lcL
      rw [if_pos hok, e1]
      simp only [e2, bnd_mk]
      cases q : p d with
      | false =>
        rw [List.filter_cons_of_neg (by rw [q]; decide)]
        simp only [Bool.false_eq_true, if_false]
        exact ih
      | true =>
        rw [List.filter_cons_of_pos q]
        simp only [if_true, e3 q, bnd_mk, ih]
        rfl
  rw [key items fun _ m => m, bnd_mk]
  refine if_pos (decide_eq_true ?_)
  rw [List.length_map, sizeLine_eq]
  exact Nat.le_trans (List.length_filter_le _ _) hz
theorem dLc_yes {α : Type} {fi : IDen} {g : NDen} {b : EDen} {vs : List Nat} {ρ : Env} {S : Sto} {s : Src} {items : List α} {e f : α → D} (hi : fi ρ S = some (s, S)) (hit : s.items = items.map e) (hok : s.ok S = true) (hz : items.length ≤ 16777216)
    (h : ∀ d ∈ items, ∃ ρ1, g (e d) (wipeE ρ vs) = some ρ1 ∧ b ρ1 S = some (f d, S)) : dLc fi g tYesD b vs ρ S = some (.fl (items.map f), S) := by
  have := dLc_gen (t := tYesD) (p := fun _ => true) hi hit hok hz fun d hd => by
    obtain ⟨ρ1, e1, e2⟩ := h d hd
    exact ⟨ρ1, e1, rfl, fun _ => e2⟩
  rwa [List.filter_eq_self.mpr (fun _ _ => rfl)] at this
theorem zipD_map {α β : Type} (f : α → D) (g : β → D) (xs : List α) (ys : List β) : zipD (xs.map f) (ys.map g) = (xs.zip ys).map fun p => D.tup [f p.1, g p.2] := by
  unfold zipD
  rw [List.zip_map, List.map_map]
  rfl
theorem enumD_map {α : Type} (f : α → D) (xs : List α) : enumD (xs.map f) = xs.zipIdx.map fun p => D.tup [.int (p.2 : Nat), f p.1] := by
  unfold enumD
  rw [List.zipIdx_map, List.map_map]
  rfl
theorem rng1_eq {j : Int} {n : Nat} {fa : ADen} {ρ : Env} {S S' : Sto} (e : fa ρ S = some ([.int j], S')) (h1 : -(2 ^ 62) ≤ j) (h2 : j < 2 ^ 62) (h3 : j.toNat = n) : iRange1 fa ρ S = some (.fix (upto 0 n), S') := by
  unfold iRange1
  rw [e, bnd_mk, ← h3]
  exact if_pos ⟨h1, h2⟩
theorem rng2_eq {i j : Int} {n : Nat} {fa : ADen} {ρ : Env} {S S' : Sto} (e : fa ρ S = some ([.int i, .int j], S')) (h1 : -(2 ^ 62) ≤ i ∧ i < 2 ^ 62 ∧ -(2 ^ 62) ≤ j ∧ j < 2 ^ 62) (h3 : (j - i).toNat = n) : iRange2 fa ρ S = some (.fix (upto i n), S') := by
  unfold iRange2
  rw [e, bnd_mk, ← h3]
  exact if_pos h1
end MS

namespace k53
open PySem PySem.Spec PyProof.Rows L2 MS
def top (i : Nat) : Stmt := PySem.Challenge.pw_leastwholes_k53_whole_polynomials_and_ro.main.body.getD i (.Pass ⟨0, 0, 0, 0⟩)
abbrev FnP (K : PySem.W.Frag) (x : Str) (st : Stmt) (f : Addr) (fd : FuncData) : Prop := FunD K x x (defArgs st) (defBody st) (defScope st) [] [] f fd
/-! ### _law_open_cells -/
abbrev S_n_law_open_cells : Stmt := top 12
abbrev N_n_law_open_cells : List Str := ["script", "stirred", "cell", "cells"]
theorem sc_n_law_open_cells : FnScope N_n_law_open_cells ["script"] (defScope S_n_law_open_cells) := ⟨rfl, rfl, rfl, by decide +kernel, rfl, by decide +kernel, by decide +kernel⟩
def f1b_n_law_open_cells : SDen :=
  sAsg (dOp gMod (dCB cInt (aCons (dOp gAdd (dOp gAdd (dOp gMul (dVar 1) (dC (.int 69069))) (dOp gMul (dVar 2) (dC (.int 31)))) (dC (.int 5))) (aNil))) (dC (.int 2147483629))) (gN 1)
def b_n_law_open_cells : SDen :=
  sSeq (sAsg (dC (.int 11)) (gN 1)) <|
  sSeq (sFor (iSeq (dVar 0)) (gOf (nN 2)) (f1b_n_law_open_cells)) <|
  sSeq (sAsg (dLc (iSeq (dVar 0)) (nN 2) (tYesD) (dCB cAbs (aCons (dVar 2) (aNil))) [2]) (gN 3)) <|
  sRet (dDisp [(.inr "cells", dRevC (dVar 3)), (.inr "left", dC (.int 1)), (.inr "mixed", dVar 1), (.inr "turn", dC (.int 0))])
def F_n_law_open_cells : FM := bodyN 1 4 b_n_law_open_cells
theorem ok_n_law_open_cells {P : Program} {w : World} {K : PySem.W.Frag} {mg : Str → Option Value} {base : Heap} {f : Addr} {fd : FuncData} (FD : FnP K "_law_open_cells" S_n_law_open_cells f fd) (g_int : mg "int" = none) (g_abs : mg "abs" = none) :
    FnG P w K mg base CX0 1 f fd ["script"] (spM K F_n_law_open_cells) := by
  have sc := sc_n_law_open_cells
  refine fnN_of (N := N_n_law_open_cells) FD sc_n_law_open_cells fun cdv A outer s H E hr => ?_
  exact mss_cons (ms_set (i := 1) sc.nd rfl (me_int)) <|
  mss_cons (ms_for PassesOwn.never rfl (mi_seq (me_var 0)) (mg_of (mn_name sc.nd rfl)) (mss_one (ms_set (i := 1) sc.nd rfl (me_op o_mod m_mod (me_ct call_int1 mc_int rfl g_int (by decide +kernel) (ma_cons (me_op (o_add op_add_str) m_add (me_op (o_add op_add_str) m_add (me_op o_mul m_mul (me_var 1) (me_int)) (me_op o_mul m_mul (me_var 2) (me_int))) (me_int)) (ma_nil))) (me_int))))) <|
  mss_cons (ms_setLc (i := 3) rfl sc.nd rfl rfl (sw_true rfl rfl rfl rfl) (own := [("cell", 2)]) (by decide) (mi_seq (me_var 0)) (blk_mk N_n_law_open_cells (defScope S_n_law_open_cells) rfl rfl rfl (by decide +kernel) (by decide +kernel) (by decide +kernel) (by decide +kernel)) (fun _ _ _ _ _ => mn_name sc.nd rfl) (fun _ _ _ _ _ => mts_nil) (fun _ _ _ _ _ => me_cb call_abs mc_abs rfl g_abs (by decide +kernel) (ma_cons (me_var 2) (ma_nil)))) <|
  mss_one (ms_ret (me_disp (mps_cons pe_str (me_revC (me_var 3)) (mps_cons pe_str (me_int) (mps_cons pe_str (me_var 1) (mps_cons pe_str (me_int) (mps_nil))))) (by decide +kernel)))
theorem cal_n_law_open_cells {P : Program} {w : World} {K : PySem.W.Frag} {mg : Str → Option Value} {base : Heap} {f : Addr} {fd : FuncData} (FD : FnP K "_law_open_cells" S_n_law_open_cells f fd) (hm : mg "_law_open_cells" = some (.ref f)) (g_int : mg "int" = none) (g_abs : mg "abs" = none) :
    Cal P w K mg base 1 "_law_open_cells" (spM K F_n_law_open_cells) := ⟨f, fd, _, ok_n_law_open_cells FD g_int g_abs, hm, FD.kp, FD.bindsN fun _ _ _ _ _ _ us hl => match us, hl with | [_], _ => rfl⟩
/-! ### without_noughts -/
abbrev S_without_noughts : Stmt := top 5
abbrev N_without_noughts : List Str := ["poly", "many"]
theorem sc_without_noughts : FnScope N_without_noughts ["poly"] (defScope S_without_noughts) := ⟨rfl, rfl, rfl, by decide +kernel, rfl, by decide +kernel, by decide +kernel⟩
def w1c_without_noughts : TDen := tbAnd (asB (dOp gGt (dVar 1) (dC (.int 0)))) (asB (dOp gEqA (dOp gIx (dVar 0) (dOp gSub (dVar 1) (dC (.int 1)))) (dC (.int 0))))
def w1b_without_noughts : SDen :=
  sAsg (dOp gSub (dVar 1) (dC (.int 1))) (gN 1)
def b_without_noughts : SDen :=
  sSeq (sAsg (dCB cLen (aCons (dVar 0) (aNil))) (gN 1)) <|
  sSeq (whileN (w1c_without_noughts) (w1b_without_noughts) 1000000000000000000000000000000000000000000000000000000000000) <|
  sRet (dSl (dVar 0) pNo (pAt (dVar 1)))
def F_without_noughts : FP := bodyP 1 2 b_without_noughts
theorem ok_without_noughts {P : Program} {w : World} {K : PySem.W.Frag} {mg : Str → Option Value} {base : Heap} {f : Addr} {fd : FuncData} (FD : FnP K "without_noughts" S_without_noughts f fd) (g_len : mg "len" = none) :
    FnG P w K mg base CX0 1 f fd ["poly"] (spP K F_without_noughts) := by
  have sc := sc_without_noughts
  refine fnP_of (N := N_without_noughts) FD sc_without_noughts fun cdv A outer s H E hr => ?_
  exact mss_cons (ms_set (i := 1) sc.nd rfl (me_cb c_len mc_len rfl g_len (by decide +kernel) (ma_cons (me_var 0) (ma_nil)))) <|
  mss_cons (ms_while 1000000000000000000000000000000000000000000000000000000000000 PassesOwn.never (MW.pt (mw_and (mt_cmp op_gt m_gt (me_var 1) (me_int) (nomark _)) (mw_and1 (mt_cmp (o_eqA hr.u64) m_eqA (me_ix (me_var 0) (me_op o_sub m_sub (me_var 1) (me_int))) (me_int) (nomark _))))) (mss_one (ms_set (i := 1) sc.nd rfl (me_op o_sub m_sub (me_var 1) (me_int))))) <|
  mss_one (ms_ret (me_sl (me_var 0) mp_none (mp_some (me_var 1))))
theorem cal_without_noughts {P : Program} {w : World} {K : PySem.W.Frag} {mg : Str → Option Value} {base : Heap} {f : Addr} {fd : FuncData} (FD : FnP K "without_noughts" S_without_noughts f fd) (hm : mg "without_noughts" = some (.ref f)) (g_len : mg "len" = none) :
    Cal P w K mg base 1 "without_noughts" (spP K F_without_noughts) := ⟨f, fd, _, ok_without_noughts FD g_len, hm, FD.kp, FD.bindsN fun _ _ _ _ _ _ us hl => match us, hl with | [_], _ => rfl⟩
/-! ### poly_sum -/
abbrev S_poly_sum : Stmt := top 2
abbrev N_poly_sum : List Str := ["one", "other", "many", "a", "b"]
theorem sc_poly_sum : FnScope N_poly_sum ["one", "other"] (defScope S_poly_sum) := ⟨rfl, rfl, rfl, by decide +kernel, rfl, by decide +kernel, by decide +kernel⟩
def b_poly_sum : SDen :=
  sSeq (sAsg (dCB cMax2 (aCons (dCB cLen (aCons (dVar 0) (aNil))) (aCons (dCB cLen (aCons (dVar 1) (aNil))) (aNil)))) (gN 2)) <|
  sSeq (sPar [0, 1] (aCons (dTup (aStar (dVar 0) (aStar (dOp gMul (dLst (aCons (dC (.int 0)) (aNil))) (dOp gSub (dVar 2) (dCB cLen (aCons (dVar 0) (aNil))))) (aNil)))) (aCons (dTup (aStar (dVar 1) (aStar (dOp gMul (dLst (aCons (dC (.int 0)) (aNil))) (dOp gSub (dVar 2) (dCB cLen (aCons (dVar 1) (aNil))))) (aNil)))) (aNil)))) <|
  sRet (dCB cTuple (aCons (dLc (iZipD (aCons (dVar 0) (aCons (dVar 1) (aNil)))) (nT 2 (nsCons (nN 3) (nsCons (nN 4) (nsNil)))) (tYesD) (dOp gAdd (dVar 3) (dVar 4)) [3, 4]) (aNil)))
def F_poly_sum : FP := bodyP 2 5 b_poly_sum
theorem ok_poly_sum {P : Program} {w : World} {K : PySem.W.Frag} {mg : Str → Option Value} {base : Heap} {f : Addr} {fd : FuncData} (FD : FnP K "poly_sum" S_poly_sum f fd) (g_len : mg "len" = none) (g_max : mg "max" = none) (g_zip : mg "zip" = none) (g_tuple : mg "tuple" = none) :
    FnG P w K mg base CX0 1 f fd ["one", "other"] (spP K F_poly_sum) := by
  have sc := sc_poly_sum
  refine fnP_of (N := N_poly_sum) FD sc_poly_sum fun cdv A outer s H E hr => ?_
  exact mss_cons (ms_set (i := 2) sc.nd rfl (me_cb (call_max2 rfl) mc_max2 rfl g_max (by decide +kernel) (ma_cons (me_cb c_len mc_len rfl g_len (by decide +kernel) (ma_cons (me_var 0) (ma_nil))) (ma_cons (me_cb c_len mc_len rfl g_len (by decide +kernel) (ma_cons (me_var 1) (ma_nil))) (ma_nil))))) <|
  mss_cons (ms_par (i := 0) (j := 1) rfl sc.nd rfl rfl (ma_cons (me_tup (ma_star (me_var 0) (ma_star (me_op o_mul m_mul (me_lst (ma_cons (me_int) (ma_nil))) (me_op o_sub m_sub (me_var 2) (me_cb c_len mc_len rfl g_len (by decide +kernel) (ma_cons (me_var 0) (ma_nil))))) (ma_nil)))) (ma_cons (me_tup (ma_star (me_var 1) (ma_star (me_op o_mul m_mul (me_lst (ma_cons (me_int) (ma_nil))) (me_op o_sub m_sub (me_var 2) (me_cb c_len mc_len rfl g_len (by decide +kernel) (ma_cons (me_var 1) (ma_nil))))) (ma_nil)))) (ma_nil)))) <|
  mss_one (ms_ret (me_ct call_tuple_of mc_tuple rfl g_tuple (by decide +kernel) (ma_cons (me_lc rfl sc.nd (own := [("a", 3), ("b", 4)]) (by decide) (mi_zip rfl g_zip (ma_cons (me_var 0) (ma_cons (me_var 1) (ma_nil)))) (blk_mk N_poly_sum (defScope S_poly_sum) rfl rfl rfl (by decide +kernel) (by decide +kernel) (by decide +kernel) (by decide +kernel)) (fun _ _ _ _ _ => mn_tup rfl (mns_cons (mn_name sc.nd rfl) (mns_cons (mn_name sc.nd rfl) (mns_nil)))) (fun _ _ _ _ _ => mts_nil) (fun _ _ _ _ _ => me_op (o_add op_add_str) m_add (me_var 3) (me_var 4))) (ma_nil))))
theorem cal_poly_sum {P : Program} {w : World} {K : PySem.W.Frag} {mg : Str → Option Value} {base : Heap} {f : Addr} {fd : FuncData} (FD : FnP K "poly_sum" S_poly_sum f fd) (hm : mg "poly_sum" = some (.ref f)) (g_len : mg "len" = none) (g_max : mg "max" = none) (g_zip : mg "zip" = none) (g_tuple : mg "tuple" = none) :
    Cal P w K mg base 1 "poly_sum" (spP K F_poly_sum) := ⟨f, fd, _, ok_poly_sum FD g_len g_max g_zip g_tuple, hm, FD.kp, FD.bindsN fun _ _ _ _ _ _ us hl => match us, hl with | [_, _], _ => rfl⟩
/-! ### poly_product -/
abbrev S_poly_product : Stmt := top 3
abbrev N_poly_product : List Str := ["one", "other", "found", "i", "a", "j", "b"]
theorem sc_poly_product : FnScope N_poly_product ["one", "other"] (defScope S_poly_product) := ⟨rfl, rfl, rfl, by decide +kernel, rfl, by decide +kernel, by decide +kernel⟩
def f1b_poly_product : SDen :=
  sSet (dVar 2) (dOp gAdd (dVar 3) (dVar 5)) (dOp gAdd (dOp gIx (dVar 2) (dOp gAdd (dVar 3) (dVar 5))) (dOp gMul (dVar 4) (dVar 6)))
def f2b_poly_product : SDen :=
  sFor (iEnumD (aCons (dVar 1) (aNil))) (gOf (nT 2 (nsCons (nN 5) (nsCons (nN 6) (nsNil))))) (f1b_poly_product)
def b_poly_product : SDen :=
  sSeq (sAsg (dOp gMulC (dLst (aCons (dC (.int 0)) (aNil))) (dOp gSub (dOp gAdd (dCB cLen (aCons (dVar 0) (aNil))) (dCB cLen (aCons (dVar 1) (aNil)))) (dC (.int 1)))) (gN 2)) <|
  sSeq (sFor (iEnumD (aCons (dVar 0) (aNil))) (gOf (nT 2 (nsCons (nN 3) (nsCons (nN 4) (nsNil))))) (f2b_poly_product)) <|
  sRet (dCB cTuple (aCons (dVar 2) (aNil)))
def F_poly_product : FP := bodyP 2 7 b_poly_product
theorem ok_poly_product {P : Program} {w : World} {K : PySem.W.Frag} {mg : Str → Option Value} {base : Heap} {f : Addr} {fd : FuncData} (FD : FnP K "poly_product" S_poly_product f fd) (g_len : mg "len" = none) (g_enumerate : mg "enumerate" = none) (g_tuple : mg "tuple" = none) :
    FnG P w K mg base CX0 1 f fd ["one", "other"] (spP K F_poly_product) := by
  have sc := sc_poly_product
  refine fnP_of (N := N_poly_product) FD sc_poly_product fun cdv A outer s H E hr => ?_
  exact mss_cons (ms_set (i := 2) sc.nd rfl (me_op o_mul m_mulC (me_lst (ma_cons (me_int) (ma_nil))) (me_op o_sub m_sub (me_op (o_add op_add_str) m_add (me_cb c_len mc_len rfl g_len (by decide +kernel) (ma_cons (me_var 0) (ma_nil))) (me_cb c_len mc_len rfl g_len (by decide +kernel) (ma_cons (me_var 1) (ma_nil)))) (me_int)))) <|
  mss_cons (ms_for PassesOwn.never rfl (mi_enum rfl g_enumerate (ma_cons (me_var 0) (ma_nil))) (mg_of (mn_tup rfl (mns_cons (mn_name sc.nd rfl) (mns_cons (mn_name sc.nd rfl) (mns_nil))))) (mss_one (ms_for PassesOwn.never rfl (mi_enum rfl g_enumerate (ma_cons (me_var 1) (ma_nil))) (mg_of (mn_tup rfl (mns_cons (mn_name sc.nd rfl) (mns_cons (mn_name sc.nd rfl) (mns_nil))))) (mss_one (ms_setItem hr.u1 (me_var 2) (me_op (o_add op_add_str) m_add (me_var 3) (me_var 5)) (me_op (o_add op_add_str) m_add (me_ix (me_var 2) (me_op (o_add op_add_str) m_add (me_var 3) (me_var 5))) (me_op o_mul m_mul (me_var 4) (me_var 6)))))))) <|
  mss_one (ms_ret (me_ct call_tuple_of mc_tuple rfl g_tuple (by decide +kernel) (ma_cons (me_var 2) (ma_nil))))
theorem cal_poly_product {P : Program} {w : World} {K : PySem.W.Frag} {mg : Str → Option Value} {base : Heap} {f : Addr} {fd : FuncData} (FD : FnP K "poly_product" S_poly_product f fd) (hm : mg "poly_product" = some (.ref f)) (g_len : mg "len" = none) (g_enumerate : mg "enumerate" = none) (g_tuple : mg "tuple" = none) :
    Cal P w K mg base 1 "poly_product" (spP K F_poly_product) := ⟨f, fd, _, ok_poly_product FD g_len g_enumerate g_tuple, hm, FD.kp, FD.bindsN fun _ _ _ _ _ _ us hl => match us, hl with | [_, _], _ => rfl⟩
/-! ### poly_times -/
abbrev S_poly_times : Stmt := top 4
abbrev N_poly_times : List Str := ["poly", "k", "a"]
theorem sc_poly_times : FnScope N_poly_times ["poly", "k"] (defScope S_poly_times) := ⟨rfl, rfl, rfl, by decide +kernel, rfl, by decide +kernel, by decide +kernel⟩
def b_poly_times : SDen :=
  sRet (dCB cTuple (aCons (dLc (iSeq (dVar 0)) (nN 2) (tYesD) (dOp gMul (dVar 1) (dVar 2)) [2]) (aNil)))
def F_poly_times : FP := bodyP 2 3 b_poly_times
theorem ok_poly_times {P : Program} {w : World} {K : PySem.W.Frag} {mg : Str → Option Value} {base : Heap} {f : Addr} {fd : FuncData} (FD : FnP K "poly_times" S_poly_times f fd) (g_tuple : mg "tuple" = none) :
    FnG P w K mg base CX0 1 f fd ["poly", "k"] (spP K F_poly_times) := by
  have sc := sc_poly_times
  refine fnP_of (N := N_poly_times) FD sc_poly_times fun cdv A outer s H E hr => ?_
  exact mss_one (ms_ret (me_ct call_tuple_of mc_tuple rfl g_tuple (by decide +kernel) (ma_cons (me_lc rfl sc.nd (own := [("a", 2)]) (by decide) (mi_seq (me_var 0)) (blk_mk N_poly_times (defScope S_poly_times) rfl rfl rfl (by decide +kernel) (by decide +kernel) (by decide +kernel) (by decide +kernel)) (fun _ _ _ _ _ => mn_name sc.nd rfl) (fun _ _ _ _ _ => mts_nil) (fun _ _ _ _ _ => me_op o_mul m_mul (me_var 1) (me_var 2))) (ma_nil))))
theorem cal_poly_times {P : Program} {w : World} {K : PySem.W.Frag} {mg : Str → Option Value} {base : Heap} {f : Addr} {fd : FuncData} (FD : FnP K "poly_times" S_poly_times f fd) (hm : mg "poly_times" = some (.ref f)) (g_tuple : mg "tuple" = none) :
    Cal P w K mg base 1 "poly_times" (spP K F_poly_times) := ⟨f, fd, _, ok_poly_times FD g_tuple, hm, FD.kp, FD.bindsN fun _ _ _ _ _ _ us hl => match us, hl with | [_, _], _ => rfl⟩
/-! ### difference_of -/
abbrev S_difference_of : Stmt := top 6
abbrev N_difference_of : List Str := ["poly", "late", "a"]
theorem sc_difference_of : FnScope N_difference_of ["poly"] (defScope S_difference_of) := ⟨rfl, rfl, rfl, by decide +kernel, rfl, by decide +kernel, by decide +kernel⟩
def f1b_difference_of : SDen :=
  sAsg (dCalP F_poly_sum (aCons (dCalP F_poly_product (aCons (dVar 1) (aCons (dTup (aCons (dC (.int 1)) (aCons (dC (.int 1)) (aNil)))) (aNil)))) (aCons (dTup (aCons (dVar 2) (aNil))) (aNil)))) (gN 1)
def b_difference_of : SDen :=
  sSeq (sAsg (dTup (aCons (dC (.int 0)) (aNil))) (gN 1)) <|
  sSeq (sFor (iSeq (dRevT (dVar 0))) (gOf (nN 2)) (f1b_difference_of)) <|
  sRet (dCalP F_without_noughts (aCons (dCalP F_poly_sum (aCons (dVar 1) (aCons (dCalP F_poly_times (aCons (dVar 0) (aCons (dUn gNeg (dC (.int 1))) (aNil)))) (aNil)))) (aNil)))
def F_difference_of : FP := bodyP 1 3 b_difference_of
theorem ok_difference_of {P : Program} {w : World} {K : PySem.W.Frag} {mg : Str → Option Value} {base : Heap} {f : Addr} {fd : FuncData} (FD : FnP K "difference_of" S_difference_of f fd) (c_poly_sum : Cal P w K mg base 1 "poly_sum" (spP K F_poly_sum)) (c_poly_product : Cal P w K mg base 1 "poly_product" (spP K F_poly_product)) (c_without_noughts : Cal P w K mg base 1 "without_noughts" (spP K F_without_noughts)) (c_poly_times : Cal P w K mg base 1 "poly_times" (spP K F_poly_times)) :
    FnG P w K mg base CX0 2 f fd ["poly"] (spP K F_difference_of) := by
  have sc := sc_difference_of
  refine fnP_of (N := N_difference_of) FD sc_difference_of fun cdv A outer s H E hr => ?_
  exact mss_cons (ms_set (i := 1) sc.nd rfl (me_tup (ma_cons (me_int) (ma_nil)))) <|
  mss_cons (ms_for PassesOwn.never rfl (mi_seq (me_revT (me_var 0))) (mg_of (mn_name sc.nd rfl)) (mss_one (ms_set (i := 1) sc.nd rfl (me_calP c_poly_sum hr (by decide) rfl (ma_cons (me_calP c_poly_product hr (by decide) rfl (ma_cons (me_var 1) (ma_cons (me_tup (ma_cons (me_int) (ma_cons (me_int) (ma_nil)))) (ma_nil)))) (ma_cons (me_tup (ma_cons (me_var 2) (ma_nil))) (ma_nil))))))) <|
  mss_one (ms_ret (me_calP c_without_noughts hr (by decide) rfl (ma_cons (me_calP c_poly_sum hr (by decide) rfl (ma_cons (me_var 1) (ma_cons (me_calP c_poly_times hr (by decide) rfl (ma_cons (me_var 0) (ma_cons (me_un un_neg m_neg (me_int)) (ma_nil)))) (ma_nil)))) (ma_nil))))
theorem cal_difference_of {P : Program} {w : World} {K : PySem.W.Frag} {mg : Str → Option Value} {base : Heap} {f : Addr} {fd : FuncData} (FD : FnP K "difference_of" S_difference_of f fd) (hm : mg "difference_of" = some (.ref f)) (c_poly_sum : Cal P w K mg base 1 "poly_sum" (spP K F_poly_sum)) (c_poly_product : Cal P w K mg base 1 "poly_product" (spP K F_poly_product)) (c_without_noughts : Cal P w K mg base 1 "without_noughts" (spP K F_without_noughts)) (c_poly_times : Cal P w K mg base 1 "poly_times" (spP K F_poly_times)) :
    Cal P w K mg base 2 "difference_of" (spP K F_difference_of) := ⟨f, fd, _, ok_difference_of FD c_poly_sum c_poly_product c_without_noughts c_poly_times, hm, FD.kp, FD.bindsN fun _ _ _ _ _ _ us hl => match us, hl with | [_], _ => rfl⟩
/-! ### _law_pick -/
abbrev S_n_law_pick : Stmt := top 13
abbrev N_n_law_pick : List Str := ["source", "most", "cells", "others", "lap", "stirred"]
theorem sc_n_law_pick : FnScope N_n_law_pick ["source", "most"] (defScope S_n_law_pick) := ⟨rfl, rfl, rfl, by decide +kernel, rfl, by decide +kernel, by decide +kernel⟩
theorem ok_n_law_pick {P : Program} {w : World} {K : PySem.W.Frag} {mg : Str → Option Value} {base : Heap} {f : Addr} {fd : FuncData} (FD : FnP K "_law_pick" S_n_law_pick f fd) (g_len : mg "len" = none) (g_int : mg "int" = none) :
    FnG P w K mg base CX0 1 f fd ["source", "most"] (spM K PG.F_n_law_pick) := by
  have sc := sc_n_law_pick
  refine fnM_of (N := N_n_law_pick) FD sc_n_law_pick fun cdv A outer s H E hr => ?_
  exact mss_cons (ms_if (mt_cmp op_lt m_lt (me_var 1) (me_int) (nomark _)) (mss_one (ms_ret (me_int))) (mss_nil)) <|
  mss_cons (ms_set (i := 2) sc.nd rfl (me_item hr.u1 (me_var 0) (me_str))) <|
  mss_cons (ms_while 1000000000000000000000000000000000000000000000000000000000000 PassesOwn.never (MW.pt (mw_and (mt_cmp op_lt m_lt (me_item hr.u1 (me_var 0) (me_str)) (me_int) (nomark _)) (mw_and1 (mt_cmp op_gt m_gt (me_cb c_len mc_len rfl g_len (by decide +kernel) (ma_cons (me_var 2) (ma_nil))) (me_int) (nomark _))))) (mss_one (ms_setItem hr.u1 (me_var 0) (me_str) (me_meth0 F.slot_list_pop rfl mt_pop mm_pop (me_var 2))))) <|
  mss_cons (ms_set (i := 3) sc.nd rfl (me_item hr.u1 (me_var 0) (me_str))) <|
  mss_cons (ms_if (mt_cmp op_gt m_gt (me_var 3) (me_int) (nomark _)) (mss_cons (ms_setItem hr.u1 (me_var 0) (me_str) (me_op o_div m_div (me_var 3) (me_var 1))) <|
  mss_one (ms_ret (me_op o_mod m_mod (me_ct call_int1 mc_int rfl g_int (by decide +kernel) (ma_cons (me_var 3) (ma_nil))) (me_var 1)))) (mss_nil)) <|
  mss_cons (ms_setItem hr.u1 (me_var 0) (me_str) (me_op (o_add op_add_str) m_add (me_item hr.u1 (me_var 0) (me_str)) (me_int))) <|
  mss_cons (ms_set (i := 4) sc.nd rfl (me_item hr.u1 (me_var 0) (me_str))) <|
  mss_cons (ms_set (i := 5) sc.nd rfl (me_op o_mod m_mod (me_ct call_int1 mc_int rfl g_int (by decide +kernel) (ma_cons (me_op (o_add op_add_str) m_add (me_item hr.u1 (me_var 0) (me_str)) (me_op o_mul m_mul (me_var 4) (me_int))) (ma_nil))) (me_int))) <|
  mss_cons (ms_set (i := 5) sc.nd rfl (me_op o_mod m_mod (me_ct call_int1 mc_int rfl g_int (by decide +kernel) (ma_cons (me_op (o_add op_add_str) m_add (me_op o_mul m_mul (me_var 5) (me_var 5)) (me_op o_mul m_mul (me_var 4) (me_int))) (ma_nil))) (me_int))) <|
  mss_one (ms_ret (me_op o_mod m_mod (me_ct call_int1 mc_int rfl g_int (by decide +kernel) (ma_cons (me_op o_div m_div (me_var 5) (me_int)) (ma_nil))) (me_var 1)))
theorem cal_n_law_pick {P : Program} {w : World} {K : PySem.W.Frag} {mg : Str → Option Value} {base : Heap} {f : Addr} {fd : FuncData} (FD : FnP K "_law_pick" S_n_law_pick f fd) (hm : mg "_law_pick" = some (.ref f)) (g_len : mg "len" = none) (g_int : mg "int" = none) :
    Cal P w K mg base 1 "_law_pick" (spM K PG.F_n_law_pick) := ⟨f, fd, _, ok_n_law_pick FD g_len g_int, hm, FD.kp, FD.bindsN fun _ _ _ _ _ _ us hl => match us, hl with | [_, _], _ => rfl⟩
/-! ### _law_draw_poly -/
abbrev S_n_law_draw_poly : Stmt := top 15
abbrev N_n_law_draw_poly : List Str := ["source", "poly", "k", "sign", "r", "late", "a", "b"]
theorem sc_n_law_draw_poly : FnScope N_n_law_draw_poly ["source"] (defScope S_n_law_draw_poly) := ⟨rfl, rfl, rfl, by decide +kernel, rfl, by decide +kernel, by decide +kernel⟩
def f1b_n_law_draw_poly : SDen :=
  sSeq (sAsg (dTup (aCons (dOp gSub (dCalM PG.F_n_law_pick (aCons (dVar 0) (aCons (dC (.int 13)) (aNil)))) (dC (.int 6))) (aCons (dOp gAdd (dLst (aCons (dC (.int 0)) (aNil))) (dVar 1)) (aNil)))) (gOf (nT 2 (nsCons (nN 4) (nsCons (nN 5) (nsNil)))))) <|
  sAsg (dLc (iZipD (aCons (dVar 5) (aCons (dOp gAdd (dVar 1) (dLst (aCons (dC (.int 0)) (aNil)))) (aNil)))) (nT 2 (nsCons (nN 6) (nsCons (nN 7) (nsNil)))) (tYesD) (dOp gSub (dVar 6) (dOp gMul (dVar 4) (dVar 7))) [6, 7]) (gN 1)
def b_n_law_draw_poly : SDen :=
  sSeq (sAsg (dLst (aCons (dOp gAdd (dC (.int 1)) (dCalM PG.F_n_law_pick (aCons (dVar 0) (aCons (dC (.int 4)) (aNil))))) (aNil))) (gN 1)) <|
  sSeq (sFor (iRange1 (aCons (dCalM PG.F_n_law_pick (aCons (dVar 0) (aCons (dC (.int 6)) (aNil)))) (aNil))) (gOf (nN 2)) (f1b_n_law_draw_poly)) <|
  sSeq (sIf (asB (dOp gEqA (dCalM PG.F_n_law_pick (aCons (dVar 0) (aCons (dC (.int 3)) (aNil)))) (dC (.int 0)))) (sAsg (dLc (iSeq (dVar 1)) (nN 6) (tYesD) (dOp gSub (dOp gAdd (dVar 6) (dCalM PG.F_n_law_pick (aCons (dVar 0) (aCons (dC (.int 5)) (aNil))))) (dC (.int 2))) [6]) (gN 1)) (sNil)) <|
  sSeq (sAsg (dOp gSub (dC (.int 1)) (dOp gMul (dC (.int 2)) (dCalM PG.F_n_law_pick (aCons (dVar 0) (aCons (dC (.int 2)) (aNil)))))) (gN 3)) <|
  sRet (dCB cTuple (aCons (dOp gAdd (dLc (iSeq (dVar 1)) (nN 6) (tYesD) (dOp gMul (dVar 3) (dVar 6)) [6]) (dOp gMul (dLst (aCons (dC (.int 0)) (aNil))) (dCalM PG.F_n_law_pick (aCons (dVar 0) (aCons (dC (.int 2)) (aNil)))))) (aNil)))
def F_n_law_draw_poly : FM := bodyM 1 8 b_n_law_draw_poly
theorem ok_n_law_draw_poly {P : Program} {w : World} {K : PySem.W.Frag} {mg : Str → Option Value} {base : Heap} {f : Addr} {fd : FuncData} (FD : FnP K "_law_draw_poly" S_n_law_draw_poly f fd) (c_n_law_pick : Cal P w K mg base 1 "_law_pick" (spM K PG.F_n_law_pick)) (g_range : mg "range" = none) (g_zip : mg "zip" = none) (g_tuple : mg "tuple" = none) :
    FnG P w K mg base CX0 2 f fd ["source"] (spM K F_n_law_draw_poly) := by
  have sc := sc_n_law_draw_poly
  refine fnM_of (N := N_n_law_draw_poly) FD sc_n_law_draw_poly fun cdv A outer s H E hr => ?_
  exact mss_cons (ms_set (i := 1) sc.nd rfl (me_lst (ma_cons (me_op (o_add op_add_str) m_add (me_int) (me_calM c_n_law_pick hr (by decide) rfl (ma_cons (me_var 0) (ma_cons (me_int) (ma_nil))))) (ma_nil)))) <|
  mss_cons (ms_for PassesOwn.never rfl (mi_range1 rfl g_range (ma_cons (me_calM c_n_law_pick hr (by decide) rfl (ma_cons (me_var 0) (ma_cons (me_int) (ma_nil)))) (ma_nil))) (mg_of (mn_name sc.nd rfl)) (mss_cons (ms_asg (me_tup (ma_cons (me_op o_sub m_sub (me_calM c_n_law_pick hr (by decide) rfl (ma_cons (me_var 0) (ma_cons (me_int) (ma_nil)))) (me_int)) (ma_cons (me_op (o_add op_add_str) m_add (me_lst (ma_cons (me_int) (ma_nil))) (me_var 1)) (ma_nil)))) (mg_of (mn_tup rfl (mns_cons (mn_name sc.nd rfl) (mns_cons (mn_name sc.nd rfl) (mns_nil)))))) <|
  mss_one (ms_setLc (i := 1) rfl sc.nd rfl rfl (sw_true rfl rfl rfl rfl) (own := [("a", 6), ("b", 7)]) (by decide) (mi_zip rfl g_zip (ma_cons (me_var 5) (ma_cons (me_op (o_add op_add_str) m_add (me_var 1) (me_lst (ma_cons (me_int) (ma_nil)))) (ma_nil)))) (blk_mk N_n_law_draw_poly (defScope S_n_law_draw_poly) rfl rfl rfl (by decide +kernel) (by decide +kernel) (by decide +kernel) (by decide +kernel)) (fun _ _ _ _ _ => mn_tup rfl (mns_cons (mn_name sc.nd rfl) (mns_cons (mn_name sc.nd rfl) (mns_nil)))) (fun _ _ _ _ _ => mts_nil) (fun _ _ _ _ _ => me_op o_sub m_sub (me_var 6) (me_op o_mul m_mul (me_var 4) (me_var 7)))))) <|
  mss_cons (ms_if (mt_cmp (o_eqA hr.u64) m_eqA (me_calM c_n_law_pick hr (by decide) rfl (ma_cons (me_var 0) (ma_cons (me_int) (ma_nil)))) (me_int) (nomark _)) (mss_one (ms_setLc (i := 1) rfl sc.nd rfl rfl (sw_true rfl rfl rfl rfl) (own := [("a", 6)]) (by decide) (mi_seq (me_var 1)) (blk_mk N_n_law_draw_poly (defScope S_n_law_draw_poly) rfl rfl rfl (by decide +kernel) (by decide +kernel) (by decide +kernel) (by decide +kernel)) (fun _ _ _ _ _ => mn_name sc.nd rfl) (fun _ _ _ _ _ => mts_nil) (fun _ _ _ _ _ => me_op o_sub m_sub (me_op (o_add op_add_str) m_add (me_var 6) (me_calM c_n_law_pick hr (by decide) rfl (ma_cons (me_var 0) (ma_cons (me_int) (ma_nil))))) (me_int)))) (mss_nil)) <|
  mss_cons (ms_set (i := 3) sc.nd rfl (me_op o_sub m_sub (me_int) (me_op o_mul m_mul (me_int) (me_calM c_n_law_pick hr (by decide) rfl (ma_cons (me_var 0) (ma_cons (me_int) (ma_nil))))))) <|
  mss_one (ms_ret (me_ct call_tuple_of mc_tuple rfl g_tuple (by decide +kernel) (ma_cons (me_op (o_add op_add_str) m_add (me_lc rfl sc.nd (own := [("a", 6)]) (by decide) (mi_seq (me_var 1)) (blk_mk N_n_law_draw_poly (defScope S_n_law_draw_poly) rfl rfl rfl (by decide +kernel) (by decide +kernel) (by decide +kernel) (by decide +kernel)) (fun _ _ _ _ _ => mn_name sc.nd rfl) (fun _ _ _ _ _ => mts_nil) (fun _ _ _ _ _ => me_op o_mul m_mul (me_var 3) (me_var 6))) (me_op o_mul m_mul (me_lst (ma_cons (me_int) (ma_nil))) (me_calM c_n_law_pick hr (by decide) rfl (ma_cons (me_var 0) (ma_cons (me_int) (ma_nil)))))) (ma_nil))))
theorem cal_n_law_draw_poly {P : Program} {w : World} {K : PySem.W.Frag} {mg : Str → Option Value} {base : Heap} {f : Addr} {fd : FuncData} (FD : FnP K "_law_draw_poly" S_n_law_draw_poly f fd) (hm : mg "_law_draw_poly" = some (.ref f)) (c_n_law_pick : Cal P w K mg base 1 "_law_pick" (spM K PG.F_n_law_pick)) (g_range : mg "range" = none) (g_zip : mg "zip" = none) (g_tuple : mg "tuple" = none) :
    Cal P w K mg base 2 "_law_draw_poly" (spM K F_n_law_draw_poly) := ⟨f, fd, _, ok_n_law_draw_poly FD c_n_law_pick g_range g_zip g_tuple, hm, FD.kp, FD.bindsN fun _ _ _ _ _ _ us hl => match us, hl with | [_], _ => rfl⟩
/-! ### poly_at -/
abbrev S_poly_at : Stmt := top 1
abbrev N_poly_at : List Str := ["poly", "x", "found", "a"]
theorem sc_poly_at : FnScope N_poly_at ["poly", "x"] (defScope S_poly_at) := ⟨rfl, rfl, rfl, by decide +kernel, rfl, by decide +kernel, by decide +kernel⟩
def f1b_poly_at : SDen :=
  sAsg (dOp gAdd (dOp gMul (dVar 2) (dVar 1)) (dVar 3)) (gN 2)
def b_poly_at : SDen :=
  sSeq (sAsg (dC (.int 0)) (gN 2)) <|
  sSeq (sFor (iSeq (dRevT (dVar 0))) (gOf (nN 3)) (f1b_poly_at)) <|
  sRet (dVar 2)
def F_poly_at : FP := bodyP 2 4 b_poly_at
theorem ok_poly_at {P : Program} {w : World} {K : PySem.W.Frag} {mg : Str → Option Value} {base : Heap} {f : Addr} {fd : FuncData} (FD : FnP K "poly_at" S_poly_at f fd) :
    FnG P w K mg base CX0 1 f fd ["poly", "x"] (spP K F_poly_at) := by
  have sc := sc_poly_at
  refine fnP_of (N := N_poly_at) FD sc_poly_at fun cdv A outer s H E hr => ?_
  exact mss_cons (ms_set (i := 2) sc.nd rfl (me_int)) <|
  mss_cons (ms_for PassesOwn.never rfl (mi_seq (me_revT (me_var 0))) (mg_of (mn_name sc.nd rfl)) (mss_one (ms_set (i := 2) sc.nd rfl (me_op (o_add op_add_str) m_add (me_op o_mul m_mul (me_var 2) (me_var 1)) (me_var 3))))) <|
  mss_one (ms_ret (me_var 2))
theorem cal_poly_at {P : Program} {w : World} {K : PySem.W.Frag} {mg : Str → Option Value} {base : Heap} {f : Addr} {fd : FuncData} (FD : FnP K "poly_at" S_poly_at f fd) (hm : mg "poly_at" = some (.ref f)) :
    Cal P w K mg base 1 "poly_at" (spP K F_poly_at) := ⟨f, fd, _, ok_poly_at FD, hm, FD.kp, FD.bindsN fun _ _ _ _ _ _ us hl => match us, hl with | [_, _], _ => rfl⟩
/-! ### is_below -/
abbrev S_is_below : Stmt := top 7
abbrev N_is_below : List Str := ["poly", "x"]
theorem sc_is_below : FnScope N_is_below ["poly", "x"] (defScope S_is_below) := ⟨rfl, rfl, rfl, by decide +kernel, rfl, by decide +kernel, by decide +kernel⟩
def b_is_below : SDen :=
  sRet (dOp gLt (dCalP F_poly_at (aCons (dVar 0) (aCons (dVar 1) (aNil)))) (dC (.int 0)))
def F_is_below : FP := bodyP 2 2 b_is_below
theorem ok_is_below {P : Program} {w : World} {K : PySem.W.Frag} {mg : Str → Option Value} {base : Heap} {f : Addr} {fd : FuncData} (FD : FnP K "is_below" S_is_below f fd) (c_poly_at : Cal P w K mg base 1 "poly_at" (spP K F_poly_at)) :
    FnG P w K mg base CX0 2 f fd ["poly", "x"] (spP K F_is_below) := by
  have sc := sc_is_below
  refine fnP_of (N := N_is_below) FD sc_is_below fun cdv A outer s H E hr => ?_
  exact mss_one (ms_ret (me_cmp op_lt m_lt (me_calP c_poly_at hr (by decide) rfl (ma_cons (me_var 0) (ma_cons (me_var 1) (ma_nil)))) (me_int) (nomark _)))
theorem cal_is_below {P : Program} {w : World} {K : PySem.W.Frag} {mg : Str → Option Value} {base : Heap} {f : Addr} {fd : FuncData} (FD : FnP K "is_below" S_is_below f fd) (hm : mg "is_below" = some (.ref f)) (c_poly_at : Cal P w K mg base 1 "poly_at" (spP K F_poly_at)) :
    Cal P w K mg base 2 "is_below" (spP K F_is_below) := ⟨f, fd, _, ok_is_below FD c_poly_at, hm, FD.kp, FD.bindsN fun _ _ _ _ _ _ us hl => match us, hl with | [_, _], _ => rfl⟩
/-! ### first_turned -/
abbrev S_first_turned : Stmt := top 8
abbrev N_first_turned : List Str := ["poly", "low", "high", "side", "middle"]
theorem sc_first_turned : FnScope N_first_turned ["poly", "low", "high"] (defScope S_first_turned) := ⟨rfl, rfl, rfl, by decide +kernel, rfl, by decide +kernel, by decide +kernel⟩
def w1c_first_turned : TDen := asB (dOp gGt (dOp gSub (dVar 2) (dVar 1)) (dC (.int 1)))
def w1b_first_turned : SDen :=
  sSeq (sAsg (dOp gDiv (dOp gAdd (dVar 1) (dVar 2)) (dC (.int 2))) (gN 4)) <|
  sIf (asB (dOp gEqA (dCalP F_is_below (aCons (dVar 0) (aCons (dVar 4) (aNil)))) (dVar 3))) (sAsg (dVar 4) (gN 2)) (sAsg (dVar 4) (gN 1))
def b_first_turned : SDen :=
  sSeq (sAsg (dCalP F_is_below (aCons (dVar 0) (aCons (dVar 2) (aNil)))) (gN 3)) <|
  sSeq (whileN (w1c_first_turned) (w1b_first_turned) 1000000000000000000000000000000000000000000000000000000000000) <|
  sRet (dVar 2)
def F_first_turned : FP := bodyP 3 5 b_first_turned
theorem ok_first_turned {P : Program} {w : World} {K : PySem.W.Frag} {mg : Str → Option Value} {base : Heap} {f : Addr} {fd : FuncData} (FD : FnP K "first_turned" S_first_turned f fd) (c_is_below : Cal P w K mg base 2 "is_below" (spP K F_is_below)) :
    FnG P w K mg base CX0 3 f fd ["poly", "low", "high"] (spP K F_first_turned) := by
  have sc := sc_first_turned
  refine fnP_of (N := N_first_turned) FD sc_first_turned fun cdv A outer s H E hr => ?_
  exact mss_cons (ms_set (i := 3) sc.nd rfl (me_calP c_is_below hr (by decide) rfl (ma_cons (me_var 0) (ma_cons (me_var 2) (ma_nil))))) <|
  mss_cons (ms_while 1000000000000000000000000000000000000000000000000000000000000 PassesOwn.never (mt_cmp op_gt m_gt (me_op o_sub m_sub (me_var 2) (me_var 1)) (me_int) (nomark _)) (mss_cons (ms_set (i := 4) sc.nd rfl (me_op o_div m_div (me_op (o_add op_add_str) m_add (me_var 1) (me_var 2)) (me_int))) <|
  mss_one (ms_if (mt_cmp (o_eqA hr.u64) m_eqA (me_calP c_is_below hr (by decide) rfl (ma_cons (me_var 0) (ma_cons (me_var 4) (ma_nil)))) (me_var 3) (nomark _)) (mss_one (ms_set (i := 2) sc.nd rfl (me_var 4))) (mss_one (ms_set (i := 1) sc.nd rfl (me_var 4)))))) <|
  mss_one (ms_ret (me_var 2))
theorem cal_first_turned {P : Program} {w : World} {K : PySem.W.Frag} {mg : Str → Option Value} {base : Heap} {f : Addr} {fd : FuncData} (FD : FnP K "first_turned" S_first_turned f fd) (hm : mg "first_turned" = some (.ref f)) (c_is_below : Cal P w K mg base 2 "is_below" (spP K F_is_below)) :
    Cal P w K mg base 3 "first_turned" (spP K F_first_turned) := ⟨f, fd, _, ok_first_turned FD c_is_below, hm, FD.kp, FD.bindsN fun _ _ _ _ _ _ us hl => match us, hl with | [_, _, _], _ => rfl⟩
/-! ### sign_turns -/
abbrev S_sign_turns : Stmt := top 9
abbrev N_sign_turns : List Str := ["poly", "low", "high", "chain", "turns", "one", "ends", "late", "left", "right"]
theorem sc_sign_turns : FnScope N_sign_turns ["poly", "low", "high"] (defScope S_sign_turns) := ⟨rfl, rfl, rfl, by decide +kernel, rfl, by decide +kernel, by decide +kernel⟩
def w1c_sign_turns : TDen := asB (dOp gGt (dCB cLen (aCons (dOp gIx (dVar 3) (dUn gNeg (dC (.int 1)))) (aNil))) (dC (.int 1)))
def w1b_sign_turns : SDen :=
  sExpr (dMeth gAppend (dVar 3) (aCons (dCalP F_difference_of (aCons (dOp gIx (dVar 3) (dUn gNeg (dC (.int 1)))) (aNil))) (aNil)))
def f1b_sign_turns : SDen :=
  sIf (tbAnd (asB (dOp gLt (dVar 8) (dVar 9))) (asB (dOp gNeA (dCalP F_is_below (aCons (dVar 5) (aCons (dVar 8) (aNil)))) (dCalP F_is_below (aCons (dVar 5) (aCons (dVar 9) (aNil))))))) (sExpr (dMeth gAppend (dVar 7) (aCons (dCalP F_first_turned (aCons (dVar 5) (aCons (dVar 8) (aCons (dVar 9) (aNil))))) (aNil)))) (sNil)
def f2b_sign_turns : SDen :=
  sSeq (sPar [6, 7] (aCons (dLst (aCons (dVar 1) (aStar (dVar 4) (aCons (dVar 2) (aNil))))) (aCons (dCell (aNil)) (aNil)))) <|
  sSeq (sFor (iZipD (aCons (dVar 6) (aCons (dSl (dVar 6) (pAt (dC (.int 1))) pNo) (aNil)))) (gOf (nT 2 (nsCons (nN 8) (nsCons (nN 9) (nsNil))))) (f1b_sign_turns)) <|
  sAsg (dCB cList (aCons (dVar 7) (aNil))) (gN 4)
def b_sign_turns : SDen :=
  sSeq (sAsg (dCell (aCons (dCalP F_without_noughts (aCons (dVar 0) (aNil))) (aNil))) (gN 3)) <|
  sSeq (whileN (w1c_sign_turns) (w1b_sign_turns) 1000000000000000000000000000000000000000000000000000000000000) <|
  sSeq (sAsg (dLst (aNil)) (gN 4)) <|
  sSeq (sFor (iSeq (dRev (dVar 3))) (gOf (nN 5)) (f2b_sign_turns)) <|
  sRet (dCB cTuple (aCons (dVar 4) (aNil)))
def F_sign_turns : FP := bodyP 3 10 b_sign_turns
theorem ok_sign_turns {P : Program} {w : World} {K : PySem.W.Frag} {mg : Str → Option Value} {base : Heap} {f : Addr} {fd : FuncData} (FD : FnP K "sign_turns" S_sign_turns f fd) (c_without_noughts : Cal P w K mg base 1 "without_noughts" (spP K F_without_noughts)) (c_difference_of : Cal P w K mg base 2 "difference_of" (spP K F_difference_of)) (c_is_below : Cal P w K mg base 2 "is_below" (spP K F_is_below)) (c_first_turned : Cal P w K mg base 3 "first_turned" (spP K F_first_turned)) (g_len : mg "len" = none) (g_zip : mg "zip" = none) (g_list : mg "list" = none) (g_tuple : mg "tuple" = none) :
    FnG P w K mg base CX0 4 f fd ["poly", "low", "high"] (spP K F_sign_turns) := by
  have sc := sc_sign_turns
  refine fnP_of (N := N_sign_turns) FD sc_sign_turns fun cdv A outer s H E hr => ?_
  exact mss_cons (ms_set (i := 3) sc.nd rfl (me_cell (ma_cons (me_calP c_without_noughts hr (by decide) rfl (ma_cons (me_var 0) (ma_nil))) (ma_nil)))) <|
  mss_cons (ms_while 1000000000000000000000000000000000000000000000000000000000000 PassesOwn.never (mt_cmp op_gt m_gt (me_cb c_len mc_len rfl g_len (by decide +kernel) (ma_cons (me_ix (me_var 3) (me_un un_neg m_neg (me_int))) (ma_nil))) (me_int) (nomark _)) (mss_one (ms_expr (me_meth F.slot_list_append rfl mt_append mm_append (me_var 3) (ma_cons (me_calP c_difference_of hr (by decide) rfl (ma_cons (me_ix (me_var 3) (me_un un_neg m_neg (me_int))) (ma_nil))) (ma_nil)))))) <|
  mss_cons (ms_set (i := 4) sc.nd rfl (me_lst (ma_nil))) <|
  mss_cons (ms_for PassesOwn.never rfl (mi_seq (me_rev (me_var 3))) (mg_of (mn_name sc.nd rfl)) (mss_cons (ms_par (i := 6) (j := 7) rfl sc.nd rfl rfl (ma_cons (me_lst (ma_cons (me_var 1) (ma_star (me_var 4) (ma_cons (me_var 2) (ma_nil))))) (ma_cons (me_cell (ma_nil)) (ma_nil)))) <|
  mss_cons (ms_for PassesOwn.never rfl (mi_zip rfl g_zip (ma_cons (me_var 6) (ma_cons (me_sl (me_var 6) (mp_some (me_int)) mp_none) (ma_nil)))) (mg_of (mn_tup rfl (mns_cons (mn_name sc.nd rfl) (mns_cons (mn_name sc.nd rfl) (mns_nil))))) (mss_one (ms_if (MW.pt (mw_and (mt_cmp op_lt m_lt (me_var 8) (me_var 9) (nomark _)) (mw_and1 (mt_cmp (o_neA hr.u64) m_neA (me_calP c_is_below hr (by decide) rfl (ma_cons (me_var 5) (ma_cons (me_var 8) (ma_nil)))) (me_calP c_is_below hr (by decide) rfl (ma_cons (me_var 5) (ma_cons (me_var 9) (ma_nil)))) (nomark _))))) (mss_one (ms_expr (me_meth F.slot_list_append rfl mt_append mm_append (me_var 7) (ma_cons (me_calP c_first_turned hr (by decide) rfl (ma_cons (me_var 5) (ma_cons (me_var 8) (ma_cons (me_var 9) (ma_nil))))) (ma_nil))))) (mss_nil)))) <|
  mss_one (ms_set (i := 4) sc.nd rfl (me_ct call_list_of mc_list rfl g_list (by decide +kernel) (ma_cons (me_var 7) (ma_nil)))))) <|
  mss_one (ms_ret (me_ct call_tuple_of mc_tuple rfl g_tuple (by decide +kernel) (ma_cons (me_var 4) (ma_nil))))
theorem cal_sign_turns {P : Program} {w : World} {K : PySem.W.Frag} {mg : Str → Option Value} {base : Heap} {f : Addr} {fd : FuncData} (FD : FnP K "sign_turns" S_sign_turns f fd) (hm : mg "sign_turns" = some (.ref f)) (c_without_noughts : Cal P w K mg base 1 "without_noughts" (spP K F_without_noughts)) (c_difference_of : Cal P w K mg base 2 "difference_of" (spP K F_difference_of)) (c_is_below : Cal P w K mg base 2 "is_below" (spP K F_is_below)) (c_first_turned : Cal P w K mg base 3 "first_turned" (spP K F_first_turned)) (g_len : mg "len" = none) (g_zip : mg "zip" = none) (g_list : mg "list" = none) (g_tuple : mg "tuple" = none) :
    Cal P w K mg base 4 "sign_turns" (spP K F_sign_turns) := ⟨f, fd, _, ok_sign_turns FD c_without_noughts c_difference_of c_is_below c_first_turned g_len g_zip g_list g_tuple, hm, FD.kp, FD.bindsN fun _ _ _ _ _ _ us hl => match us, hl with | [_, _, _], _ => rfl⟩
/-! ### whole_roots -/
abbrev S_whole_roots : Stmt := top 10
abbrev N_whole_roots : List Str := ["poly", "most", "some", "places", "low", "high", "found", "left", "right", "x"]
theorem sc_whole_roots : FnScope N_whole_roots ["poly", "most"] (defScope S_whole_roots) := ⟨rfl, rfl, rfl, by decide +kernel, rfl, by decide +kernel, by decide +kernel⟩
def f1b_whole_roots : SDen :=
  sIf (asB (dOp gEqA (dCalP F_poly_at (aCons (dVar 0) (aCons (dVar 7) (aNil)))) (dC (.int 0)))) (sExpr (dMeth gExtend (dVar 6) (aCons (dLstRg (rg2 (dVar 7) (dVar 8))) (aNil)))) (sNil)
def b_whole_roots : SDen :=
  sSeq (sPar [4, 5, 6] (aCons (dOp gSub (dUn gNeg (dVar 1)) (dC (.int 1))) (aCons (dOp gAdd (dVar 1) (dC (.int 1))) (aCons (dCell (aNil)) (aNil))))) <|
  sSeq (sAsg (dDc (iSeq (dTup (aStar (dCalP F_sign_turns (aCons (dVar 0) (aCons (dVar 4) (aCons (dVar 5) (aNil))))) (aStar (dCalP F_sign_turns (aCons (dCalP F_poly_times (aCons (dVar 0) (aCons (dUn gNeg (dC (.int 1))) (aNil)))) (aCons (dVar 4) (aCons (dVar 5) (aNil))))) (aNil))))) (nN 9) (tYesD) (dVar 9) (dC (.bl true)) [9]) (gN 2)) <|
  sSeq (sAsg (dLst (aCons (dVar 4) (aStar (dCB cSortedH (aCons (dVar 2) (aNil))) (aCons (dOp gAdd (dVar 5) (dC (.int 1))) (aNil))))) (gN 3)) <|
  sSeq (sFor (iZipD (aCons (dVar 3) (aCons (dSl (dVar 3) (pAt (dC (.int 1))) pNo) (aNil)))) (gOf (nT 2 (nsCons (nN 7) (nsCons (nN 8) (nsNil))))) (f1b_whole_roots)) <|
  sRet (dCB cTuple (aCons (dLc (iSeq (dVar 6)) (nN 9) (asB (dChain gLe gLe (dUn gNeg (dVar 1)) (dVar 9) (dVar 1))) (dVar 9) [9]) (aNil)))
def F_whole_roots : FP := bodyP 2 10 b_whole_roots
theorem ok_whole_roots {P : Program} {w : World} {K : PySem.W.Frag} {mg : Str → Option Value} {base : Heap} {f : Addr} {fd : FuncData} (FD : FnP K "whole_roots" S_whole_roots f fd) (c_sign_turns : Cal P w K mg base 4 "sign_turns" (spP K F_sign_turns)) (c_poly_times : Cal P w K mg base 1 "poly_times" (spP K F_poly_times)) (c_poly_at : Cal P w K mg base 1 "poly_at" (spP K F_poly_at)) (g_sorted : mg "sorted" = none) (g_zip : mg "zip" = none) (g_range : mg "range" = none) (g_list : mg "list" = none) (g_tuple : mg "tuple" = none) :
    FnG P w K mg base CX0 5 f fd ["poly", "most"] (spP K F_whole_roots) := by
  have sc := sc_whole_roots
  refine fnP_of (N := N_whole_roots) FD sc_whole_roots fun cdv A outer s H E hr => ?_
  exact mss_cons (ms_par3 (i := 4) (j := 5) (l := 6) rfl sc.nd rfl rfl rfl (ma_cons (me_op o_sub m_sub (me_un un_neg m_neg (me_var 1)) (me_int)) (ma_cons (me_op (o_add op_add_str) m_add (me_var 1) (me_int)) (ma_cons (me_cell (ma_nil)) (ma_nil))))) <|
  mss_cons (ms_setDc (i := 2) rfl sc.nd rfl rfl (sw_dict rfl rfl rfl rfl) (own := [("x", 9)]) (by decide) (mi_seq (me_tup (ma_star (me_calP c_sign_turns hr (by decide) rfl (ma_cons (me_var 0) (ma_cons (me_var 4) (ma_cons (me_var 5) (ma_nil))))) (ma_star (me_calP c_sign_turns hr (by decide) rfl (ma_cons (me_calP c_poly_times hr (by decide) rfl (ma_cons (me_var 0) (ma_cons (me_un un_neg m_neg (me_int)) (ma_nil)))) (ma_cons (me_var 4) (ma_cons (me_var 5) (ma_nil))))) (ma_nil))))) (blk_mk N_whole_roots (defScope S_whole_roots) rfl rfl rfl (by decide +kernel) (by decide +kernel) (by decide +kernel) (by decide +kernel)) (fun _ _ _ _ _ => mn_name sc.nd rfl) (fun _ _ _ _ _ => mts_nil) (fun _ _ _ _ _ => me_var 9) (fun _ _ _ _ _ => me_bl)) <|
  mss_cons (ms_set (i := 3) sc.nd rfl (me_lst (ma_cons (me_var 4) (ma_star (me_cb (c_sortedH rfl hr.u64) mc_sortedH rfl g_sorted (by decide +kernel) (ma_cons (me_var 2) (ma_nil))) (ma_cons (me_op (o_add op_add_str) m_add (me_var 5) (me_int)) (ma_nil)))))) <|
  mss_cons (ms_for PassesOwn.never rfl (mi_zip rfl g_zip (ma_cons (me_var 3) (ma_cons (me_sl (me_var 3) (mp_some (me_int)) mp_none) (ma_nil)))) (mg_of (mn_tup rfl (mns_cons (mn_name sc.nd rfl) (mns_cons (mn_name sc.nd rfl) (mns_nil))))) (mss_one (ms_if (mt_cmp (o_eqA hr.u64) m_eqA (me_calP c_poly_at hr (by decide) rfl (ma_cons (me_var 0) (ma_cons (me_var 7) (ma_nil)))) (me_int) (nomark _)) (mss_one (ms_expr (me_meth F.slot_list_extend rfl mt_extend mm_extend (me_var 6) (ma_cons (me_listRg rfl rfl g_list (mrg_2 rfl g_range (me_var 7) (me_var 8))) (ma_nil))))) (mss_nil)))) <|
  mss_one (ms_ret (me_ct call_tuple_of mc_tuple rfl g_tuple (by decide +kernel) (ma_cons (me_lc rfl sc.nd (own := [("x", 9)]) (by decide) (mi_seq (me_var 6)) (blk_mk N_whole_roots (defScope S_whole_roots) rfl rfl rfl (by decide +kernel) (by decide +kernel) (by decide +kernel) (by decide +kernel)) (fun _ _ _ _ _ => mn_name sc.nd rfl) (fun _ _ _ _ _ => mts_one (mt_chain op_le m_le op_le m_le (me_un un_neg m_neg (me_var 1)) (me_var 9) (me_var 1))) (fun _ _ _ _ _ => me_var 9)) (ma_nil))))
theorem cal_whole_roots {P : Program} {w : World} {K : PySem.W.Frag} {mg : Str → Option Value} {base : Heap} {f : Addr} {fd : FuncData} (FD : FnP K "whole_roots" S_whole_roots f fd) (hm : mg "whole_roots" = some (.ref f)) (c_sign_turns : Cal P w K mg base 4 "sign_turns" (spP K F_sign_turns)) (c_poly_times : Cal P w K mg base 1 "poly_times" (spP K F_poly_times)) (c_poly_at : Cal P w K mg base 1 "poly_at" (spP K F_poly_at)) (g_sorted : mg "sorted" = none) (g_zip : mg "zip" = none) (g_range : mg "range" = none) (g_list : mg "list" = none) (g_tuple : mg "tuple" = none) :
    Cal P w K mg base 5 "whole_roots" (spP K F_whole_roots) := ⟨f, fd, _, ok_whole_roots FD c_sign_turns c_poly_times c_poly_at g_sorted g_zip g_range g_list g_tuple, hm, FD.kp, FD.bindsN fun _ _ _ _ _ _ us hl => match us, hl with | [_, _], _ => rfl⟩
/-! ### _law_at -/
abbrev S_n_law_at : Stmt := top 14
abbrev N_n_law_at : List Str := ["poly", "x", "a", "found", "power"]
theorem sc_n_law_at : FnScope N_n_law_at ["poly", "x"] (defScope S_n_law_at) := ⟨rfl, rfl, rfl, by decide +kernel, rfl, by decide +kernel, by decide +kernel⟩
def f1b_n_law_at : SDen :=
  sPar [3, 4] (aCons (dOp gAdd (dVar 3) (dOp gMul (dVar 2) (dVar 4))) (aCons (dOp gMul (dVar 4) (dVar 1)) (aNil)))
def b_n_law_at : SDen :=
  sSeq (sAsg (dTup (aCons (dC (.int 0)) (aCons (dC (.int 1)) (aNil)))) (gOf (nT 2 (nsCons (nN 3) (nsCons (nN 4) (nsNil)))))) <|
  sSeq (sFor (iSeq (dVar 0)) (gOf (nN 2)) (f1b_n_law_at)) <|
  sRet (dVar 3)
def F_n_law_at : FP := bodyP 2 5 b_n_law_at
theorem ok_n_law_at {P : Program} {w : World} {K : PySem.W.Frag} {mg : Str → Option Value} {base : Heap} {f : Addr} {fd : FuncData} (FD : FnP K "_law_at" S_n_law_at f fd) :
    FnG P w K mg base CX0 1 f fd ["poly", "x"] (spP K F_n_law_at) := by
  have sc := sc_n_law_at
  refine fnP_of (N := N_n_law_at) FD sc_n_law_at fun cdv A outer s H E hr => ?_
  exact mss_cons (ms_asg (me_tup (ma_cons (me_int) (ma_cons (me_int) (ma_nil)))) (mg_of (mn_tup rfl (mns_cons (mn_name sc.nd rfl) (mns_cons (mn_name sc.nd rfl) (mns_nil)))))) <|
  mss_cons (ms_for PassesOwn.never rfl (mi_seq (me_var 0)) (mg_of (mn_name sc.nd rfl)) (mss_one (ms_par (i := 3) (j := 4) rfl sc.nd rfl rfl (ma_cons (me_op (o_add op_add_str) m_add (me_var 3) (me_op o_mul m_mul (me_var 2) (me_var 4))) (ma_cons (me_op o_mul m_mul (me_var 4) (me_var 1)) (ma_nil)))))) <|
  mss_one (ms_ret (me_var 3))
theorem cal_n_law_at {P : Program} {w : World} {K : PySem.W.Frag} {mg : Str → Option Value} {base : Heap} {f : Addr} {fd : FuncData} (FD : FnP K "_law_at" S_n_law_at f fd) (hm : mg "_law_at" = some (.ref f)) :
    Cal P w K mg base 1 "_law_at" (spP K F_n_law_at) := ⟨f, fd, _, ok_n_law_at FD, hm, FD.kp, FD.bindsN fun _ _ _ _ _ _ us hl => match us, hl with | [_, _], _ => rfl⟩
/-! ### _law_short -/
abbrev S_n_law_short : Stmt := top 16
abbrev N_n_law_short : List Str := ["poly"]
theorem sc_n_law_short : FnScope N_n_law_short ["poly"] (defScope S_n_law_short) := ⟨rfl, rfl, rfl, by decide +kernel, rfl, by decide +kernel, by decide +kernel⟩
def w1c_n_law_short : TDen := tbAnd (asB (dOp gNeA (dVar 0) (dTup (aNil)))) (asB (dOp gEqA (dOp gIx (dVar 0) (dUn gNeg (dC (.int 1)))) (dC (.int 0))))
def w1b_n_law_short : SDen :=
  sAsg (dSl (dVar 0) pNo (pAt (dUn gNeg (dC (.int 1))))) (gN 0)
def b_n_law_short : SDen :=
  sSeq (whileN (w1c_n_law_short) (w1b_n_law_short) 1000000000000000000000000000000000000000000000000000000000000) <|
  sRet (dVar 0)
def F_n_law_short : FP := bodyP 1 1 b_n_law_short
theorem ok_n_law_short {P : Program} {w : World} {K : PySem.W.Frag} {mg : Str → Option Value} {base : Heap} {f : Addr} {fd : FuncData} (FD : FnP K "_law_short" S_n_law_short f fd) :
    FnG P w K mg base CX0 1 f fd ["poly"] (spP K F_n_law_short) := by
  have sc := sc_n_law_short
  refine fnP_of (N := N_n_law_short) FD sc_n_law_short fun cdv A outer s H E hr => ?_
  exact mss_cons (ms_while 1000000000000000000000000000000000000000000000000000000000000 PassesOwn.never (MW.pt (mw_and (mt_cmp (o_neA hr.u64) m_neA (me_var 0) (me_tup (ma_nil)) (nomark _)) (mw_and1 (mt_cmp (o_eqA hr.u64) m_eqA (me_ix (me_var 0) (me_un un_neg m_neg (me_int))) (me_int) (nomark _))))) (mss_one (ms_set (i := 0) sc.nd rfl (me_sl (me_var 0) mp_none (mp_some (me_un un_neg m_neg (me_int))))))) <|
  mss_one (ms_ret (me_var 0))
theorem cal_n_law_short {P : Program} {w : World} {K : PySem.W.Frag} {mg : Str → Option Value} {base : Heap} {f : Addr} {fd : FuncData} (FD : FnP K "_law_short" S_n_law_short f fd) (hm : mg "_law_short" = some (.ref f)) :
    Cal P w K mg base 1 "_law_short" (spP K F_n_law_short) := ⟨f, fd, _, ok_n_law_short FD, hm, FD.kp, FD.bindsN fun _ _ _ _ _ _ us hl => match us, hl with | [_], _ => rfl⟩
/-! ### law -/
abbrev S_law : Stmt := top 17
abbrev N_law : List Str := ["script", "source", "lap", "x", "step", "due", "roots", "one", "other", "low", "most", "high", "k", "sums", "product", "values", "a"]
theorem sc_law : FnScope N_law ["script"] (defScope S_law) := ⟨rfl, rfl, rfl, by decide +kernel, rfl, by decide +kernel, by decide +kernel⟩
def f1b_law : SDen :=
  sSeq (sAsg (dLst (aCons (dCalP F_n_law_at (aCons (dVar 7) (aCons (dVar 3) (aNil)))) (aCons (dOp gAdd (dCalP F_n_law_at (aCons (dVar 7) (aCons (dVar 3) (aNil)))) (dCalP F_n_law_at (aCons (dVar 8) (aCons (dVar 3) (aNil))))) (aCons (dOp gMul (dCalP F_n_law_at (aCons (dVar 7) (aCons (dVar 3) (aNil)))) (dCalP F_n_law_at (aCons (dVar 8) (aCons (dVar 3) (aNil))))) (aNil))))) (gN 15)) <|
  sSeq (sIf (asB (dOp gNeA (dLst (aCons (dCalP F_poly_at (aCons (dVar 7) (aCons (dVar 3) (aNil)))) (aCons (dCalP F_n_law_at (aCons (dVar 13) (aCons (dVar 3) (aNil)))) (aCons (dCalP F_n_law_at (aCons (dVar 14) (aCons (dVar 3) (aNil)))) (aNil))))) (dVar 15))) (sRet (dC (.bl false))) (sNil)) <|
  sIf (asB (dOp gNeA (dCalP F_n_law_at (aCons (dCalP F_difference_of (aCons (dVar 7) (aNil))) (aCons (dVar 3) (aNil)))) (dOp gSub (dCalP F_n_law_at (aCons (dVar 7) (aCons (dOp gAdd (dVar 3) (dC (.int 1))) (aNil)))) (dCalP F_n_law_at (aCons (dVar 7) (aCons (dVar 3) (aNil))))))) (sRet (dC (.bl false))) (sNil)
def f2b_law : SDen :=
  sSeq (sAsg (dTup (aCons (dCalM F_n_law_draw_poly (aCons (dVar 1) (aNil))) (aCons (dCalM F_n_law_draw_poly (aCons (dVar 1) (aNil))) (aNil)))) (gOf (nT 2 (nsCons (nN 7) (nsCons (nN 8) (nsNil)))))) <|
  sSeq (sPar [9, 10] (aCons (dOp gSub (dOp gSub (dC (.int 0)) (dC (.int 1))) (dCalM PG.F_n_law_pick (aCons (dVar 1) (aCons (dC (.int 20)) (aNil))))) (aCons (dCalM PG.F_n_law_pick (aCons (dVar 1) (aCons (dC (.int 15)) (aNil)))) (aNil)))) <|
  sSeq (sAsg (dTup (aCons (dOp gAdd (dOp gAdd (dVar 9) (dC (.int 1))) (dCalM PG.F_n_law_pick (aCons (dVar 1) (aCons (dC (.int 40)) (aNil))))) (aCons (dOp gSub (dCalM PG.F_n_law_pick (aCons (dVar 1) (aCons (dC (.int 9)) (aNil)))) (dC (.int 4))) (aNil)))) (gOf (nT 2 (nsCons (nN 11) (nsCons (nN 12) (nsNil)))))) <|
  sSeq (sPar [13, 14] (aCons (dCalP F_poly_sum (aCons (dVar 7) (aCons (dVar 8) (aNil)))) (aCons (dCalP F_poly_product (aCons (dVar 7) (aCons (dVar 8) (aNil)))) (aNil)))) <|
  sSeq (sIf (tbOr (asB (dOp gNeA (dCB cLen (aCons (dVar 13) (aNil))) (dCB cMax2 (aCons (dCB cLen (aCons (dVar 7) (aNil))) (aCons (dCB cLen (aCons (dVar 8) (aNil))) (aNil)))))) (asB (dOp gNeA (dCB cLen (aCons (dVar 14) (aNil))) (dOp gSub (dOp gAdd (dCB cLen (aCons (dVar 7) (aNil))) (dCB cLen (aCons (dVar 8) (aNil)))) (dC (.int 1)))))) (sRet (dC (.bl false))) (sNil)) <|
  sSeq (sIf (tbOr (asB (dOp gNeA (dCB cRepr (aCons (dCalP F_without_noughts (aCons (dVar 7) (aNil))) (aNil))) (dCB cRepr (aCons (dCalP F_n_law_short (aCons (dVar 7) (aNil))) (aNil))))) (asB (dOp gNeA (dCB cRepr (aCons (dCalP F_poly_times (aCons (dVar 7) (aCons (dVar 12) (aNil)))) (aNil))) (dCB cRepr (aCons (dCB cTuple (aCons (dLc (iSeq (dVar 7)) (nN 16) (tYesD) (dOp gMul (dVar 12) (dVar 16)) [16]) (aNil))) (aNil)))))) (sRet (dC (.bl false))) (sNil)) <|
  sSeq (sFor (iRange2 (aCons (dOp gSub (dC (.int 0)) (dC (.int 9))) (aCons (dC (.int 10)) (aNil)))) (gOf (nN 3)) (f1b_law)) <|
  sSeq (sAsg (dCalP F_difference_of (aCons (dVar 7) (aNil))) (gN 4)) <|
  sSeq (sIf (tbOr (asB (dOp gNeA (dVar 4) (dCalP F_n_law_short (aCons (dVar 4) (aNil))))) (asB (dOp gNeA (dCB cLen (aCons (dVar 4) (aNil))) (dCB cMax2 (aCons (dC (.int 0)) (aCons (dOp gSub (dCB cLen (aCons (dCalP F_n_law_short (aCons (dVar 7) (aNil))) (aNil))) (dC (.int 1))) (aNil))))))) (sRet (dC (.bl false))) (sNil)) <|
  sSeq (sAsg (dLc (iRange2 (aCons (dOp gAdd (dVar 9) (dC (.int 1))) (aCons (dOp gAdd (dVar 11) (dC (.int 1))) (aNil)))) (nN 3) (asB (dOp gNeA (dOp gLt (dCalP F_n_law_at (aCons (dVar 7) (aCons (dVar 3) (aNil)))) (dC (.int 0))) (dOp gLt (dCalP F_n_law_at (aCons (dVar 7) (aCons (dOp gSub (dVar 3) (dC (.int 1))) (aNil)))) (dC (.int 0))))) (dVar 3) [3]) (gN 5)) <|
  sSeq (sIf (asB (dOp gNeA (dCB cRepr (aCons (dCalP F_sign_turns (aCons (dVar 7) (aCons (dVar 9) (aCons (dVar 11) (aNil))))) (aNil))) (dCB cRepr (aCons (dCB cTuple (aCons (dVar 5) (aNil))) (aNil))))) (sRet (dC (.bl false))) (sNil)) <|
  sSeq (sAsg (dLc (iRange2 (aCons (dOp gSub (dC (.int 0)) (dVar 10)) (aCons (dOp gAdd (dVar 10) (dC (.int 1))) (aNil)))) (nN 3) (asB (dOp gEqA (dCalP F_n_law_at (aCons (dVar 7) (aCons (dVar 3) (aNil)))) (dC (.int 0)))) (dVar 3) [3]) (gN 6)) <|
  sIf (tbAnd (asB (dOp gNeA (dCalP F_n_law_short (aCons (dVar 7) (aNil))) (dTup (aNil)))) (asB (dOp gNeA (dCB cRepr (aCons (dCalP F_whole_roots (aCons (dVar 7) (aCons (dVar 10) (aNil)))) (aNil))) (dCB cRepr (aCons (dCB cTuple (aCons (dVar 6) (aNil))) (aNil)))))) (sRet (dC (.bl false))) (sNil)
def b_law : SDen :=
  sSeq (sAsg (dCalM F_n_law_open_cells (aCons (dVar 0) (aNil))) (gN 1)) <|
  sSeq (sFor (iRange1 (aCons (dC (.int 4)) (aNil))) (gOf (nN 2)) (f2b_law)) <|
  sRet (dAnd (dOp gEqA (dCalP F_sign_turns (aCons (dTup (aCons (dC (.int 0)) (aCons (dC (.int 0)) (aNil)))) (aCons (dOp gSub (dC (.int 0)) (dC (.int 3))) (aCons (dC (.int 3)) (aNil))))) (dTup (aNil))) (dAnd (dOp gEqA (dCalP F_difference_of (aCons (dTup (aCons (dC (.int 7)) (aNil))) (aNil))) (dTup (aNil))) (dOp gEqA (dCalP F_whole_roots (aCons (dTup (aCons (dC (.int 0)) (aCons (dC (.int 1)) (aNil)))) (aCons (dC (.int 0)) (aNil)))) (dTup (aCons (dC (.int 0)) (aNil))))))
def F_law : FP := bodyP 1 17 b_law
theorem ok_law {P : Program} {w : World} {K : PySem.W.Frag} {mg : Str → Option Value} {base : Heap} {f : Addr} {fd : FuncData} (FD : FnP K "law" S_law f fd) (c_n_law_open_cells : Cal P w K mg base 1 "_law_open_cells" (spM K F_n_law_open_cells)) (c_n_law_draw_poly : Cal P w K mg base 2 "_law_draw_poly" (spM K F_n_law_draw_poly)) (c_n_law_pick : Cal P w K mg base 1 "_law_pick" (spM K PG.F_n_law_pick)) (c_poly_product : Cal P w K mg base 1 "poly_product" (spP K F_poly_product)) (c_poly_sum : Cal P w K mg base 1 "poly_sum" (spP K F_poly_sum)) (c_without_noughts : Cal P w K mg base 1 "without_noughts" (spP K F_without_noughts)) (c_n_law_short : Cal P w K mg base 1 "_law_short" (spP K F_n_law_short)) (c_poly_times : Cal P w K mg base 1 "poly_times" (spP K F_poly_times)) (c_n_law_at : Cal P w K mg base 1 "_law_at" (spP K F_n_law_at)) (c_poly_at : Cal P w K mg base 1 "poly_at" (spP K F_poly_at)) (c_difference_of : Cal P w K mg base 2 "difference_of" (spP K F_difference_of)) (c_sign_turns : Cal P w K mg base 4 "sign_turns" (spP K F_sign_turns)) (c_whole_roots : Cal P w K mg base 5 "whole_roots" (spP K F_whole_roots)) (g_range : mg "range" = none) (g_len : mg "len" = none) (g_max : mg "max" = none) (g_repr : mg "repr" = none) (g_tuple : mg "tuple" = none) :
    FnG P w K mg base CX0 6 f fd ["script"] (spP K F_law) := by
  have sc := sc_law
  refine fnP_of (N := N_law) FD sc_law fun cdv A outer s H E hr => ?_
  exact mss_cons (ms_set (i := 1) sc.nd rfl (me_calM c_n_law_open_cells hr (by decide) rfl (ma_cons (me_var 0) (ma_nil)))) <|
  mss_cons (ms_for PassesOwn.never rfl (mi_range1 rfl g_range (ma_cons (me_int) (ma_nil))) (mg_of (mn_name sc.nd rfl)) (mss_cons (ms_asg (me_tup (ma_cons (me_calM c_n_law_draw_poly hr (by decide) rfl (ma_cons (me_var 1) (ma_nil))) (ma_cons (me_calM c_n_law_draw_poly hr (by decide) rfl (ma_cons (me_var 1) (ma_nil))) (ma_nil)))) (mg_of (mn_tup rfl (mns_cons (mn_name sc.nd rfl) (mns_cons (mn_name sc.nd rfl) (mns_nil)))))) <|
  mss_cons (ms_par (i := 9) (j := 10) rfl sc.nd rfl rfl (ma_cons (me_op o_sub m_sub (me_op o_sub m_sub (me_int) (me_int)) (me_calM c_n_law_pick hr (by decide) rfl (ma_cons (me_var 1) (ma_cons (me_int) (ma_nil))))) (ma_cons (me_calM c_n_law_pick hr (by decide) rfl (ma_cons (me_var 1) (ma_cons (me_int) (ma_nil)))) (ma_nil)))) <|
  mss_cons (ms_asg (me_tup (ma_cons (me_op (o_add op_add_str) m_add (me_op (o_add op_add_str) m_add (me_var 9) (me_int)) (me_calM c_n_law_pick hr (by decide) rfl (ma_cons (me_var 1) (ma_cons (me_int) (ma_nil))))) (ma_cons (me_op o_sub m_sub (me_calM c_n_law_pick hr (by decide) rfl (ma_cons (me_var 1) (ma_cons (me_int) (ma_nil)))) (me_int)) (ma_nil)))) (mg_of (mn_tup rfl (mns_cons (mn_name sc.nd rfl) (mns_cons (mn_name sc.nd rfl) (mns_nil)))))) <|
  mss_cons (ms_par (i := 13) (j := 14) rfl sc.nd rfl rfl (ma_cons (me_calP c_poly_sum hr (by decide) rfl (ma_cons (me_var 7) (ma_cons (me_var 8) (ma_nil)))) (ma_cons (me_calP c_poly_product hr (by decide) rfl (ma_cons (me_var 7) (ma_cons (me_var 8) (ma_nil)))) (ma_nil)))) <|
  mss_cons (ms_if (MW.pt (mw_or (mt_cmp (o_neA hr.u64) m_neA (me_cb c_len mc_len rfl g_len (by decide +kernel) (ma_cons (me_var 13) (ma_nil))) (me_cb (call_max2 rfl) mc_max2 rfl g_max (by decide +kernel) (ma_cons (me_cb c_len mc_len rfl g_len (by decide +kernel) (ma_cons (me_var 7) (ma_nil))) (ma_cons (me_cb c_len mc_len rfl g_len (by decide +kernel) (ma_cons (me_var 8) (ma_nil))) (ma_nil)))) (nomark _)) (mw_or1 (mt_cmp (o_neA hr.u64) m_neA (me_cb c_len mc_len rfl g_len (by decide +kernel) (ma_cons (me_var 14) (ma_nil))) (me_op o_sub m_sub (me_op (o_add op_add_str) m_add (me_cb c_len mc_len rfl g_len (by decide +kernel) (ma_cons (me_var 7) (ma_nil))) (me_cb c_len mc_len rfl g_len (by decide +kernel) (ma_cons (me_var 8) (ma_nil)))) (me_int)) (nomark _))))) (mss_one (ms_ret (me_bl))) (mss_nil)) <|
  mss_cons (ms_if (MW.pt (mw_or (mt_cmp (o_neA hr.u64) m_neA (me_cb (c_repr hr.gd hr.u64) mc_repr rfl g_repr (by decide +kernel) (ma_cons (me_calP c_without_noughts hr (by decide) rfl (ma_cons (me_var 7) (ma_nil))) (ma_nil))) (me_cb (c_repr hr.gd hr.u64) mc_repr rfl g_repr (by decide +kernel) (ma_cons (me_calP c_n_law_short hr (by decide) rfl (ma_cons (me_var 7) (ma_nil))) (ma_nil))) (nomark _)) (mw_or1 (mt_cmp (o_neA hr.u64) m_neA (me_cb (c_repr hr.gd hr.u64) mc_repr rfl g_repr (by decide +kernel) (ma_cons (me_calP c_poly_times hr (by decide) rfl (ma_cons (me_var 7) (ma_cons (me_var 12) (ma_nil)))) (ma_nil))) (me_cb (c_repr hr.gd hr.u64) mc_repr rfl g_repr (by decide +kernel) (ma_cons (me_ct call_tuple_of mc_tuple rfl g_tuple (by decide +kernel) (ma_cons (me_lc rfl sc.nd (own := [("a", 16)]) (by decide) (mi_seq (me_var 7)) (blk_mk N_law (defScope S_law) rfl rfl rfl (by decide +kernel) (by decide +kernel) (by decide +kernel) (by decide +kernel)) (fun _ _ _ _ _ => mn_name sc.nd rfl) (fun _ _ _ _ _ => mts_nil) (fun _ _ _ _ _ => me_op o_mul m_mul (me_var 12) (me_var 16))) (ma_nil))) (ma_nil))) (nomark _))))) (mss_one (ms_ret (me_bl))) (mss_nil)) <|
  mss_cons (ms_for PassesOwn.never rfl (mi_range2 rfl g_range (ma_cons (me_op o_sub m_sub (me_int) (me_int)) (ma_cons (me_int) (ma_nil)))) (mg_of (mn_name sc.nd rfl)) (mss_cons (ms_set (i := 15) sc.nd rfl (me_lst (ma_cons (me_calP c_n_law_at hr (by decide) rfl (ma_cons (me_var 7) (ma_cons (me_var 3) (ma_nil)))) (ma_cons (me_op (o_add op_add_str) m_add (me_calP c_n_law_at hr (by decide) rfl (ma_cons (me_var 7) (ma_cons (me_var 3) (ma_nil)))) (me_calP c_n_law_at hr (by decide) rfl (ma_cons (me_var 8) (ma_cons (me_var 3) (ma_nil))))) (ma_cons (me_op o_mul m_mul (me_calP c_n_law_at hr (by decide) rfl (ma_cons (me_var 7) (ma_cons (me_var 3) (ma_nil)))) (me_calP c_n_law_at hr (by decide) rfl (ma_cons (me_var 8) (ma_cons (me_var 3) (ma_nil))))) (ma_nil)))))) <|
  mss_cons (ms_if (mt_cmp (o_neA hr.u64) m_neA (me_lst (ma_cons (me_calP c_poly_at hr (by decide) rfl (ma_cons (me_var 7) (ma_cons (me_var 3) (ma_nil)))) (ma_cons (me_calP c_n_law_at hr (by decide) rfl (ma_cons (me_var 13) (ma_cons (me_var 3) (ma_nil)))) (ma_cons (me_calP c_n_law_at hr (by decide) rfl (ma_cons (me_var 14) (ma_cons (me_var 3) (ma_nil)))) (ma_nil))))) (me_var 15) (nomark _)) (mss_one (ms_ret (me_bl))) (mss_nil)) <|
  mss_one (ms_if (mt_cmp (o_neA hr.u64) m_neA (me_calP c_n_law_at hr (by decide) rfl (ma_cons (me_calP c_difference_of hr (by decide) rfl (ma_cons (me_var 7) (ma_nil))) (ma_cons (me_var 3) (ma_nil)))) (me_op o_sub m_sub (me_calP c_n_law_at hr (by decide) rfl (ma_cons (me_var 7) (ma_cons (me_op (o_add op_add_str) m_add (me_var 3) (me_int)) (ma_nil)))) (me_calP c_n_law_at hr (by decide) rfl (ma_cons (me_var 7) (ma_cons (me_var 3) (ma_nil))))) (nomark _)) (mss_one (ms_ret (me_bl))) (mss_nil)))) <|
  mss_cons (ms_set (i := 4) sc.nd rfl (me_calP c_difference_of hr (by decide) rfl (ma_cons (me_var 7) (ma_nil)))) <|
  mss_cons (ms_if (MW.pt (mw_or (mt_cmp (o_neA hr.u64) m_neA (me_var 4) (me_calP c_n_law_short hr (by decide) rfl (ma_cons (me_var 4) (ma_nil))) (nomark _)) (mw_or1 (mt_cmp (o_neA hr.u64) m_neA (me_cb c_len mc_len rfl g_len (by decide +kernel) (ma_cons (me_var 4) (ma_nil))) (me_cb (call_max2 rfl) mc_max2 rfl g_max (by decide +kernel) (ma_cons (me_int) (ma_cons (me_op o_sub m_sub (me_cb c_len mc_len rfl g_len (by decide +kernel) (ma_cons (me_calP c_n_law_short hr (by decide) rfl (ma_cons (me_var 7) (ma_nil))) (ma_nil))) (me_int)) (ma_nil)))) (nomark _))))) (mss_one (ms_ret (me_bl))) (mss_nil)) <|
  mss_cons (ms_setLc (i := 5) rfl sc.nd rfl rfl (sw_true rfl rfl rfl rfl) (own := [("x", 3)]) (by decide) (mi_range2 rfl g_range (ma_cons (me_op (o_add op_add_str) m_add (me_var 9) (me_int)) (ma_cons (me_op (o_add op_add_str) m_add (me_var 11) (me_int)) (ma_nil)))) (blk_mk N_law (defScope S_law) rfl rfl rfl (by decide +kernel) (by decide +kernel) (by decide +kernel) (by decide +kernel)) (fun _ _ _ _ _ => mn_name sc.nd rfl) (fun _ _ _ _ _ => mts_one (mt_cmp (o_neA hr.u64) m_neA (me_cmp op_lt m_lt (me_calP c_n_law_at hr (by decide) rfl (ma_cons (me_var 7) (ma_cons (me_var 3) (ma_nil)))) (me_int) (nomark _)) (me_cmp op_lt m_lt (me_calP c_n_law_at hr (by decide) rfl (ma_cons (me_var 7) (ma_cons (me_op o_sub m_sub (me_var 3) (me_int)) (ma_nil)))) (me_int) (nomark _)) (nomark _))) (fun _ _ _ _ _ => me_var 3)) <|
  mss_cons (ms_if (mt_cmp (o_neA hr.u64) m_neA (me_cb (c_repr hr.gd hr.u64) mc_repr rfl g_repr (by decide +kernel) (ma_cons (me_calP c_sign_turns hr (by decide) rfl (ma_cons (me_var 7) (ma_cons (me_var 9) (ma_cons (me_var 11) (ma_nil))))) (ma_nil))) (me_cb (c_repr hr.gd hr.u64) mc_repr rfl g_repr (by decide +kernel) (ma_cons (me_ct call_tuple_of mc_tuple rfl g_tuple (by decide +kernel) (ma_cons (me_var 5) (ma_nil))) (ma_nil))) (nomark _)) (mss_one (ms_ret (me_bl))) (mss_nil)) <|
  mss_cons (ms_setLc (i := 6) rfl sc.nd rfl rfl (sw_true rfl rfl rfl rfl) (own := [("x", 3)]) (by decide) (mi_range2 rfl g_range (ma_cons (me_op o_sub m_sub (me_int) (me_var 10)) (ma_cons (me_op (o_add op_add_str) m_add (me_var 10) (me_int)) (ma_nil)))) (blk_mk N_law (defScope S_law) rfl rfl rfl (by decide +kernel) (by decide +kernel) (by decide +kernel) (by decide +kernel)) (fun _ _ _ _ _ => mn_name sc.nd rfl) (fun _ _ _ _ _ => mts_one (mt_cmp (o_eqA hr.u64) m_eqA (me_calP c_n_law_at hr (by decide) rfl (ma_cons (me_var 7) (ma_cons (me_var 3) (ma_nil)))) (me_int) (nomark _))) (fun _ _ _ _ _ => me_var 3)) <|
  mss_one (ms_if (MW.pt (mw_and (mt_cmp (o_neA hr.u64) m_neA (me_calP c_n_law_short hr (by decide) rfl (ma_cons (me_var 7) (ma_nil))) (me_tup (ma_nil)) (nomark _)) (mw_and1 (mt_cmp (o_neA hr.u64) m_neA (me_cb (c_repr hr.gd hr.u64) mc_repr rfl g_repr (by decide +kernel) (ma_cons (me_calP c_whole_roots hr (by decide) rfl (ma_cons (me_var 7) (ma_cons (me_var 10) (ma_nil)))) (ma_nil))) (me_cb (c_repr hr.gd hr.u64) mc_repr rfl g_repr (by decide +kernel) (ma_cons (me_ct call_tuple_of mc_tuple rfl g_tuple (by decide +kernel) (ma_cons (me_var 6) (ma_nil))) (ma_nil))) (nomark _))))) (mss_one (ms_ret (me_bl))) (mss_nil)))) <|
  mss_one (ms_ret (me_and (me_cmp (o_eqA hr.u64) m_eqA (me_calP c_sign_turns hr (by decide) rfl (ma_cons (me_tup (ma_cons (me_int) (ma_cons (me_int) (ma_nil)))) (ma_cons (me_op o_sub m_sub (me_int) (me_int)) (ma_cons (me_int) (ma_nil))))) (me_tup (ma_nil)) (nomark _)) (me_and (me_cmp (o_eqA hr.u64) m_eqA (me_calP c_difference_of hr (by decide) rfl (ma_cons (me_tup (ma_cons (me_int) (ma_nil))) (ma_nil))) (me_tup (ma_nil)) (nomark _)) (me_one (me_cmp (o_eqA hr.u64) m_eqA (me_calP c_whole_roots hr (by decide) rfl (ma_cons (me_tup (ma_cons (me_int) (ma_cons (me_int) (ma_nil)))) (ma_cons (me_int) (ma_nil)))) (me_tup (ma_cons (me_int) (ma_nil))) (nomark _))))))
theorem cal_law {P : Program} {w : World} {K : PySem.W.Frag} {mg : Str → Option Value} {base : Heap} {f : Addr} {fd : FuncData} (FD : FnP K "law" S_law f fd) (hm : mg "law" = some (.ref f)) (c_n_law_open_cells : Cal P w K mg base 1 "_law_open_cells" (spM K F_n_law_open_cells)) (c_n_law_draw_poly : Cal P w K mg base 2 "_law_draw_poly" (spM K F_n_law_draw_poly)) (c_n_law_pick : Cal P w K mg base 1 "_law_pick" (spM K PG.F_n_law_pick)) (c_poly_product : Cal P w K mg base 1 "poly_product" (spP K F_poly_product)) (c_poly_sum : Cal P w K mg base 1 "poly_sum" (spP K F_poly_sum)) (c_without_noughts : Cal P w K mg base 1 "without_noughts" (spP K F_without_noughts)) (c_n_law_short : Cal P w K mg base 1 "_law_short" (spP K F_n_law_short)) (c_poly_times : Cal P w K mg base 1 "poly_times" (spP K F_poly_times)) (c_n_law_at : Cal P w K mg base 1 "_law_at" (spP K F_n_law_at)) (c_poly_at : Cal P w K mg base 1 "poly_at" (spP K F_poly_at)) (c_difference_of : Cal P w K mg base 2 "difference_of" (spP K F_difference_of)) (c_sign_turns : Cal P w K mg base 4 "sign_turns" (spP K F_sign_turns)) (c_whole_roots : Cal P w K mg base 5 "whole_roots" (spP K F_whole_roots)) (g_range : mg "range" = none) (g_len : mg "len" = none) (g_max : mg "max" = none) (g_repr : mg "repr" = none) (g_tuple : mg "tuple" = none) :
    Cal P w K mg base 6 "law" (spP K F_law) := ⟨f, fd, _, ok_law FD c_n_law_open_cells c_n_law_draw_poly c_n_law_pick c_poly_product c_poly_sum c_without_noughts c_n_law_short c_poly_times c_n_law_at c_poly_at c_difference_of c_sign_turns c_whole_roots g_range g_len g_max g_repr g_tuple, hm, FD.kp, FD.bindsN fun _ _ _ _ _ _ us hl => match us, hl with | [_], _ => rfl⟩
end k53

/-! k53: polynomials as lists of coefficients, the plain side -/
namespace k53
def ev : List Int → Int → Int
  | [], _ => 0
  | a :: p, x => ev p x * x + a
def psum : List Int → List Int → List Int
  | [], q => q
  | p, [] => p
  | a :: p, b :: q => (a + b) :: psum p q
def C (p : List Int) (j : Nat) : Int := p.getD j 0
theorem ev_psum (x : Int) : ∀ p q : List Int, ev (psum p q) x = ev p x + ev q x
  | [], q => by simp [psum, ev]
  | a :: p, [] => by simp [psum, ev]
  | a :: p, b :: q => by
    show ev (psum p q) x * x + (a + b) = (ev p x * x + a) + (ev q x * x + b)
    rw [ev_psum x p q, Int.add_mul]
    omega
theorem len_psum : ∀ p q : List Int, (psum p q).length = max p.length q.length
  | [], q => by simp [psum]
  | a :: p, [] => by simp [psum]
  | a :: p, b :: q => by
    show (psum p q).length + 1 = max (p.length + 1) (q.length + 1)
    rw [len_psum p q]
    omega
theorem ev_map (k x : Int) : ∀ p : List Int, ev (p.map (k * ·)) x = k * ev p x
  | [] => by simp [ev]
  | a :: p => by
    show ev (p.map (k * ·)) x * x + k * a = k * (ev p x * x + a)
    rw [ev_map k x p, Int.mul_add, Int.mul_assoc]
/-- coefficients are told by values at great places -/
theorem coef_zero {K : Int} : ∀ p : List Int, (∀ x, K ≤ x → ev p x = 0) → ∀ j, C p j = 0
  | [], _, j => by simp [C]
  | a :: p, h, j => by
    have ha : a = 0 := by
      by_cases z : a = 0
      · exact z
      · exfalso
        have hx := h (max K (a.natAbs + 1)) (Int.le_max_left ..)
        have hd : (max K ((a.natAbs : Int) + 1)) ∣ a := ⟨-(ev p (max K (a.natAbs + 1))), by
          have hx : ev p (max K (a.natAbs + 1)) * (max K (a.natAbs + 1)) + a = 0 := hx
          rw [Int.mul_neg, Int.mul_comm]
          omega⟩
        have := Int.le_of_dvd (a := max K ((a.natAbs : Int) + 1)) (b := (a.natAbs : Int)) (by omega) (Int.dvd_natAbs.mpr hd)
        have := Int.le_max_right K ((a.natAbs : Int) + 1)
        omega
    subst ha
    have hp : ∀ x, max K 1 ≤ x → ev p x = 0 := fun x hx => by
      have h1 := Int.le_max_left K 1
      have h2 := Int.le_max_right K 1
      have := h x (by omega)
      have e : ev p x * x + 0 = 0 := this
      rw [Int.add_zero] at e
      rcases Int.mul_eq_zero.mp e with e | e
      · exact e
      · omega
    have ih := coef_zero p hp
    cases j with
    | zero => rfl
    | succ j => exact ih j
theorem C_psum : ∀ (p q : List Int) (j : Nat), C (psum p q) j = C p j + C q j
  | [], q, j => by simp [psum, C]
  | a :: p, [], j => by simp [psum, C]
  | a :: p, b :: q, 0 => rfl
  | a :: p, b :: q, j + 1 => C_psum p q j
theorem C_map (k : Int) (p : List Int) (j : Nat) : C (p.map (k * ·)) j = k * C p j := by
  unfold C
  rw [List.getD_eq_getElem?_getD, List.getD_eq_getElem?_getD, List.getElem?_map]
  cases p[j]? <;> simp
theorem coef_eq {p q : List Int} (h : ∀ x, ev p x = ev q x) (j : Nat) : C p j = C q j := by
  have z := coef_zero (K := 0) (psum p (q.map ((-1) * ·))) (fun x _ => by rw [ev_psum, ev_map, h x]; omega) j
  rw [C_psum, C_map] at z
  omega
/-- no nought at the end -/
def Full (p : List Int) : Prop := p = [] ∨ C p (p.length - 1) ≠ 0
theorem full_len {p q : List Int} (hp : Full p) (hq : Full q) (h : ∀ j, C p j = C q j) : p.length ≤ q.length := by
  rcases hp with rfl | hp
  · simp
  · by_cases hl : p.length ≤ q.length
    · exact hl
    · exfalso
      have e := h (p.length - 1)
      rw [show C q (p.length - 1) = 0 from by
        unfold C
        rw [List.getD_eq_getElem?_getD, List.getElem?_eq_none (by omega)]
        rfl] at e
      exact hp e
theorem full_eq {p q : List Int} (hp : Full p) (hq : Full q) (h : ∀ x, ev p x = ev q x) : p = q := by
  have c := coef_eq h
  have l1 := full_len hp hq c
  have l2 := full_len hq hp fun j => (c j).symm
  refine List.ext_getElem (by omega) fun j h1 h2 => ?_
  have := c j
  unfold C at this
  rw [List.getD_eq_getElem?_getD, List.getD_eq_getElem?_getD, List.getElem?_eq_getElem h1, List.getElem?_eq_getElem h2] at this
  exact this
/-- without the noughts at the end -/
def strip : List Int → List Int
  | [] => []
  | a :: p => match strip p with
    | [] => if a = 0 then [] else [a]
    | b :: q => a :: b :: q
theorem strip_full : ∀ p, Full (strip p)
  | [] => .inl rfl
  | a :: p => by
    unfold strip
    have ih := strip_full p
    generalize strip p = s at ih
    cases s with
    | nil =>
      by_cases h : a = 0
      · rw [if_pos h]; exact .inl rfl
      · rw [if_neg h]; exact .inr h
    | cons b q =>
      rcases ih with ih | ih
      · cases ih
      · refine .inr ?_
        show C (a :: b :: q) (q.length + 1) ≠ 0
        exact ih
theorem strip_ev (x : Int) : ∀ p, ev (strip p) x = ev p x
  | [] => rfl
  | a :: p => by
    have ih := strip_ev x p
    unfold strip
    generalize strip p = s at ih
    cases s with
    | nil =>
      have ih : 0 = ev p x := ih
      show ev (if a = 0 then [] else [a]) x = ev p x * x + a
      rw [← ih]
      by_cases h : a = 0
      · rw [if_pos h, h]; simp [ev]
      · rw [if_neg h]; simp [ev]
    | cons b q =>
      show ev (b :: q) x * x + a = ev p x * x + a
      rw [ih]
theorem strip_of {p : List Int} (h : Full p) : strip p = p := full_eq (strip_full p) h fun x => strip_ev x p
theorem strip_len : ∀ p, (strip p).length ≤ p.length
  | [] => Nat.le_refl _
  | a :: p => by
    have ih := strip_len p
    unfold strip
    generalize strip p = s at ih
    cases s with
    | nil =>
      by_cases h : a = 0
      · rw [if_pos h]; simp
      · rw [if_neg h]; simp
    | cons b q =>
      simp only [List.length_cons] at *
      omega
/-- what takes the noughts away is the front up to some place -/
theorem strip_take {p : List Int} {n : Nat} (hn : n ≤ p.length) (h0 : ∀ j, n ≤ j → C p j = 0) (h1 : n = 0 ∨ C p (n - 1) ≠ 0) : p.take n = strip p := by
  have ct : ∀ j, C (p.take n) j = C p j := fun j => by
    by_cases hj : j < n
    · unfold C
      rw [List.getD_eq_getElem?_getD, List.getD_eq_getElem?_getD, List.getElem?_take_of_lt hj]
    · rw [h0 j (by omega)]
      unfold C
      rw [List.getD_eq_getElem?_getD, List.getElem?_eq_none (by rw [List.length_take]; omega)]
      rfl
  have hl : (p.take n).length = n := by rw [List.length_take]; omega
  have f : Full (p.take n) := by
    rcases h1 with h1 | h1
    · exact .inl (by rw [h1, List.take_zero])
    · refine .inr ?_
      rw [hl, ct]
      exact h1
  have key : ∀ (p q : List Int), (∀ j, C p j = C q j) → ∀ x, ev p x = ev q x := by
    intro p
    induction p with
    | nil =>
      intro q
      induction q with
      | nil => intro _ _; rfl
      | cons b q ih =>
        intro h x
        have hb : b = 0 := (h 0).symm
        have hq := ih (fun j => (h (j + 1))) x
        show 0 = ev q x * x + b
        rw [← hq, hb]
        simp [ev]
    | cons a p ih =>
      intro q h x
      cases q with
      | nil =>
        have ha : a = 0 := h 0
        have hp := ih [] (fun j => h (j + 1)) x
        show ev p x * x + a = 0
        rw [hp, ha]
        simp [ev]
      | cons b q =>
        have ha : a = b := h 0
        show ev p x * x + a = ev q x * x + b
        rw [ih q (fun j => h (j + 1)) x, ha]
  exact full_eq f (strip_full p) fun x => (key _ _ ct x).trans (strip_ev x p).symm
/-- the difference, coefficient by coefficient -/
def dif : List Int → List Int
  | [] => []
  | [_] => []
  | _ :: b :: p => psum (0 :: dif (b :: p)) (psum (b :: p) (dif (b :: p)))
theorem dif_len : ∀ p, (dif p).length = p.length - 1
  | [] => rfl
  | [_] => rfl
  | a :: b :: p => by
    have ih := dif_len (b :: p)
    show (psum (0 :: dif (b :: p)) (psum (b :: p) (dif (b :: p)))).length = _
    rw [len_psum, len_psum, List.length_cons, ih]
    simp only [List.length_cons]
    omega
theorem dif_ev (x : Int) : ∀ p, ev (dif p) x = ev p (x + 1) - ev p x
  | [] => by simp [dif, ev]
  | [a] => by simp [dif, ev]
  | a :: b :: p => by
    have ih := dif_ev x (b :: p)
    show ev (psum (0 :: dif (b :: p)) (psum (b :: p) (dif (b :: p)))) x = (ev (b :: p) (x + 1) * (x + 1) + a) - (ev (b :: p) x * x + a)
    rw [ev_psum, ev_psum]
    show ev (dif (b :: p)) x * x + 0 + (ev (b :: p) x + ev (dif (b :: p)) x) = _
    rw [ih]
    generalize ev (b :: p) (x + 1) = u
    generalize ev (b :: p) x = v
    grind
theorem dif_last : ∀ p : List Int, 2 ≤ p.length → C (dif p) (p.length - 2) = (p.length - 1 : Nat) * C p (p.length - 1)
  | [], h => by simp at h
  | [_], h => by simp at h
  | a :: b :: p, _ => by
    show C (psum (0 :: dif (b :: p)) (psum (b :: p) (dif (b :: p)))) p.length = ((p.length + 1 : Nat) : Int) * C (b :: p) p.length
    rw [C_psum, C_psum]
    have e1 : C (dif (b :: p)) p.length = 0 := by
      unfold C
      rw [List.getD_eq_getElem?_getD, List.getElem?_eq_none (by rw [dif_len]; simp)]
      rfl
    rw [e1]
    cases p with
    | nil => 
      show (0 : Int) + (C [b] 0 + 0) = 1 * C [b] 0
      omega
    | cons c p =>
      have ih := dif_last (b :: c :: p) (by simp)
      have ih : C (dif (b :: c :: p)) p.length = ((p.length + 1 : Nat) : Int) * C (b :: c :: p) (p.length + 1) := ih
      show C (dif (b :: c :: p)) p.length + (C (b :: c :: p) (p.length + 1) + 0) = ((p.length + 1 + 1 : Nat) : Int) * C (b :: c :: p) (p.length + 1)
      rw [ih, show ((p.length + 1 + 1 : Nat) : Int) = ((p.length + 1 : Nat) : Int) + 1 by omega, Int.add_mul]
      omega
theorem dif_full {p : List Int} (h : Full p) : Full (dif p) := by
  match p, h with
  | [], _ => exact .inl rfl
  | [_], _ => exact .inl rfl
  | a :: b :: p, h =>
    rcases h with h | h
    · cases h
    · refine .inr ?_
      have e := dif_last (a :: b :: p) (by simp)
      rw [dif_len]
      show C (dif (a :: b :: p)) p.length ≠ 0
      have e : C (dif (a :: b :: p)) p.length = ((p.length + 1 : Nat) : Int) * C (a :: b :: p) (p.length + 1) := e
      rw [e]
      exact Int.mul_ne_zero (by omega) h
theorem dif_of {p d : List Int} (hd : Full d) (h : ∀ x, ev d x = ev p (x + 1) - ev p x) : d = dif (strip p) := full_eq hd (dif_full (strip_full p)) fun x => by rw [dif_ev, strip_ev, strip_ev, h]
end k53

/-! k53: where a sign turns, the plain side -/
namespace k53
def up (l : Int) (n : Nat) : List Int := (List.range n).map fun i : Nat => l + i
theorem up_len (l : Int) (n : Nat) : (up l n).length = n := by simp [up]
theorem up_add (l : Int) (m n : Nat) : up l (m + n) = up l m ++ up (l + m) n := by
  unfold up
  rw [List.range_add, List.map_append, List.map_map]
  congr 1
  refine List.map_congr_left fun i _ => ?_
  show l + ((m + i : Nat) : Int) = l + (m : Int) + (i : Int)
  omega
theorem up_mem {l x : Int} {n : Nat} : x ∈ up l n ↔ l ≤ x ∧ x < l + n := by
  unfold up
  rw [List.mem_map]
  constructor
  · rintro ⟨i, hi, rfl⟩
    have := List.mem_range.mp hi
    omega
  · rintro ⟨h1, h2⟩
    exact ⟨(x - l).toNat, List.mem_range.mpr (by omega), by omega⟩
theorem up_one (l : Int) : up l 1 = [l] := by simp [up]
theorem up_zero (l : Int) : up l 0 = [] := rfl
theorem up_succ (l : Int) (n : Nat) : up l (n + 1) = l :: up (l + 1) n := by
  rw [Nat.add_comm, up_add, up_one]
  rfl
theorem up_lt (l : Int) (n : Nat) : (up l n).Pairwise (· < ·) := by
  induction n generalizing l with
  | zero => exact List.Pairwise.nil
  | succ n ih =>
    rw [up_succ]
    exact List.pairwise_cons.mpr ⟨fun x hx => by have := up_mem.mp hx; omega, ih (l + 1)⟩
section
variable {α : Type} [DecidableEq α] (κ : Int → α)
def trn (x : Int) : Bool := !decide (κ x = κ (x - 1))
def Tk (l r : Int) : List Int := (up (l + 1) (r - l).toNat).filter (trn κ)
theorem Tk_mem {l r x : Int} : x ∈ Tk κ l r ↔ l < x ∧ x ≤ r ∧ κ x ≠ κ (x - 1) := by
  unfold Tk trn
  rw [List.mem_filter, up_mem]
  simp only [Bool.not_eq_true', decide_eq_false_iff_not]
  constructor
  · rintro ⟨⟨h1, h2⟩, h3⟩
    exact ⟨by omega, by omega, h3⟩
  · rintro ⟨h1, h2, h3⟩
    exact ⟨by omega, h3⟩
theorem Tk_add {a b c : Int} (h1 : a ≤ b) (h2 : b ≤ c) : Tk κ a c = Tk κ a b ++ Tk κ b c := by
  unfold Tk
  rw [← List.filter_append, show (c - a).toNat = (b - a).toNat + (c - b).toNat by omega, up_add, show a + 1 + ((b - a).toNat : Int) = b + 1 by omega]
theorem Tk_nil {l r : Int} (h : ∀ x, l < x → x ≤ r → κ x = κ (x - 1)) : Tk κ l r = [] := by
  refine List.eq_nil_iff_forall_not_mem.mpr fun x hx => ?_
  obtain ⟨h1, h2, h3⟩ := (Tk_mem κ).mp hx
  exact h3 (h x h1 h2)
theorem Tk_one {t : Int} (h : κ t ≠ κ (t - 1)) : Tk κ (t - 1) t = [t] := by
  unfold Tk trn
  rw [show (t - (t - 1)).toNat = 1 by omega, show t - 1 + 1 = t by omega, up_one, List.filter_cons_of_pos (by simpa using h)]
  rfl
theorem Tk_lt (l r : Int) : (Tk κ l r).Pairwise (· < ·) := (up_lt _ _).filter _
theorem Tk_len (l r : Int) : (Tk κ l r).length ≤ (r - l).toNat := Nat.le_trans (List.length_filter_le ..) (Nat.le_of_eq (up_len ..))
def Good (l r : Int) : Prop := l ≤ r ∧ ∀ x, l ≤ x → x < r → κ x = κ l
def Chn : List Int → Prop
  | l :: r :: rest => Good κ l r ∧ Chn (r :: rest)
  | _ => True
theorem Chn_at : ∀ {es : List Int} {i : Nat} {l r : Int}, Chn κ es → es[i]? = some l → es[i + 1]? = some r → Good κ l r
  | a :: b :: es, 0, l, r, h, h1, h2 => by
    cases h1
    cases h2
    exact h.1
  | a :: b :: es, i + 1, l, r, h, h1, h2 => Chn_at (es := b :: es) h.2 h1 h2
  | [a], i, l, r, h, h1, h2 => by simp at h2
  | [], i, l, r, h, h1, h2 => by simp at h1
theorem Chn_Tk (n : Nat) : ∀ l : Int, Chn κ (l :: (Tk κ l (l + n) ++ [l + n])) := by
  induction n with
  | zero =>
    intro l
    rw [Tk_nil κ fun x h1 h2 => by omega]
    exact ⟨⟨by omega, fun x h1 h2 => by omega⟩, True.intro⟩
  | succ n ih =>
    intro l
    have ih := ih (l + 1)
    have e : l + ((n + 1 : Nat) : Int) = l + 1 + (n : Int) := by omega
    rw [e, Tk_add κ (a := l) (b := l + 1) (by omega) (by omega)]
    by_cases h : κ (l + 1) = κ l
    · rw [Tk_nil κ (l := l) (r := l + 1) fun x h1 h2 => by
        have : x = l + 1 := by omega
        rw [this, show l + 1 - 1 = l by omega]
        exact h]
      rw [List.nil_append]
      generalize Tk κ (l + 1) (l + 1 + n) ++ [l + 1 + (n : Int)] = ys at ih ⊢
      cases ys with
      | nil => exact True.intro
      | cons y ys =>
        refine ⟨⟨by have := ih.1.1; omega, fun x h1 h2 => ?_⟩, ih.2⟩
        by_cases hx : x = l
        · rw [hx]
        · rw [ih.1.2 x (by omega) h2, h]
    · rw [show Tk κ l (l + 1) = [l + 1] from by
        have := Tk_one κ (t := l + 1) (by rw [show l + 1 - 1 = l by omega]; exact h)
        rwa [show l + 1 - 1 = l by omega] at this]
      exact ⟨⟨by omega, fun x h1 h2 => by rw [show x = l by omega]⟩, ih⟩
end
/-- below 0 -/
def bel (f : Int → Int) (x : Int) : Bool := decide (f x < 0)
section
variable {f g : Int → Int} (hg : ∀ x, g x = f (x + 1) - f x)
include hg
theorem rise {l r : Int} (h : ∀ x, l ≤ x → x < r → ¬ g x < 0) : ∀ n : Nat, ∀ x, l ≤ x → x + n ≤ r → f x ≤ f (x + n)
  | 0, x, _, _ => by rw [show x + ((0 : Nat) : Int) = x by omega]; exact Int.le_refl _
  | n + 1, x, h1, h2 => by
    have ih := rise h n x h1 (by omega)
    have s := h (x + n) (by omega) (by omega)
    rw [hg] at s
    rw [show x + ((n + 1 : Nat) : Int) = x + n + 1 by omega]
    omega
theorem fall {l r : Int} (h : ∀ x, l ≤ x → x < r → g x < 0) : ∀ n : Nat, ∀ x, l ≤ x → x + n ≤ r → f (x + n) ≤ f x
  | 0, x, _, _ => by rw [show x + ((0 : Nat) : Int) = x by omega]; exact Int.le_refl _
  | n + 1, x, h1, h2 => by
    have ih := fall h n x h1 (by omega)
    have s := h (x + n) (by omega) (by omega)
    rw [hg] at s
    rw [show x + ((n + 1 : Nat) : Int) = x + n + 1 by omega]
    omega
/-- between two turns of the difference the values go one way -/
theorem one_way {l r : Int} (h : Good (bel g) l r) : (∀ x y, l ≤ x → x ≤ y → y ≤ r → f x ≤ f y) ∨ (∀ x y, l ≤ x → x ≤ y → y ≤ r → f y ≤ f x) := by
  by_cases s : bel g l = true
  · refine .inr fun x y h1 h2 h3 => ?_
    have := fall hg (l := l) (r := r) (fun x h1 h2 => of_decide_eq_true ((h.2 x h1 h2).trans s)) (y - x).toNat x h1 (by omega)
    rwa [show x + ((y - x).toNat : Int) = y by omega] at this
  · refine .inl fun x y h1 h2 h3 => ?_
    have s : bel g l = false := by simpa using s
    have := rise hg (l := l) (r := r) (fun x h1 h2 => of_decide_eq_false ((h.2 x h1 h2).trans s)) (y - x).toNat x h1 (by omega)
    rwa [show x + ((y - x).toNat : Int) = y by omega] at this
theorem same_none {l r : Int} (h : Good (bel g) l r) {a b : Int} (ha : l ≤ a) (hab : a ≤ b) (hb : b ≤ r) (e : bel f a = bel f b) : Tk (bel f) a b = [] := by
  have key : ∀ x, a ≤ x → x ≤ b → bel f x = bel f a := fun x h1 h2 => by
    unfold bel at *
    rw [decide_eq_decide] at e ⊢
    rcases one_way hg h with w | w
    · have := w a x ha h1 (by omega)
      have := w x b (by omega) h2 hb
      omega
    · have := w a x ha h1 (by omega)
      have := w x b (by omega) h2 hb
      omega
  exact Tk_nil _ fun x h1 h2 => by rw [key x (by omega) h2, key (x - 1) (by omega) (by omega)]
theorem other_one {l r t : Int} (h : Good (bel g) l r) (h1 : l < t) (h2 : t ≤ r) (e : bel f t ≠ bel f (t - 1)) : Tk (bel f) l r = [t] := by
  rw [Tk_add _ (a := l) (b := t - 1) (by omega) (by omega), Tk_add _ (a := t - 1) (b := t) (by omega) h2, Tk_one _ e]
  have k1 : bel f l = bel f (t - 1) ∧ bel f t = bel f r := by
    unfold bel at *
    rw [decide_eq_decide, decide_eq_decide]
    rw [Ne, decide_eq_decide] at e
    rcases one_way hg h with w | w
    · have := w l (t - 1) (by omega) (by omega) (by omega)
      have := w (t - 1) t (by omega) (by omega) (by omega)
      have := w t r (by omega) (by omega) (by omega)
      omega
    · have := w l (t - 1) (by omega) (by omega) (by omega)
      have := w (t - 1) t (by omega) (by omega) (by omega)
      have := w t r (by omega) (by omega) (by omega)
      omega
  rw [same_none hg h (by omega) (by omega) (by omega) k1.1, same_none hg h (by omega) (by omega) (by omega) k1.2]
  rfl
end
/-- the sides of 0 -/
def sid (f : Int → Int) (x : Int) : Bool × Bool := (decide (f x < 0), decide (-f x < 0))
def zer (f : Int → Int) (x : Int) : Bool := decide (f x = 0)
theorem sid_mem {f : Int → Int} {l r x : Int} : x ∈ Tk (sid f) l r ↔ x ∈ Tk (bel f) l r ∨ x ∈ Tk (bel fun y => -f y) l r := by
  rw [Tk_mem, Tk_mem, Tk_mem]
  unfold sid bel
  rw [Ne, Prod.mk.injEq]
  constructor
  · rintro ⟨h1, h2, h3⟩
    by_cases q : decide (f x < 0) = decide (f (x - 1) < 0)
    · exact .inr ⟨h1, h2, fun z => h3 ⟨q, z⟩⟩
    · exact .inl ⟨h1, h2, q⟩
  · rintro (⟨h1, h2, h3⟩ | ⟨h1, h2, h3⟩)
    · exact ⟨h1, h2, fun z => h3 z.1⟩
    · exact ⟨h1, h2, fun z => h3 z.2⟩
theorem zer_piece {f : Int → Int} {l r : Int} (h : Good (sid f) l r) : (up l (r - l).toNat).filter (zer f) = if f l = 0 then up l (r - l).toNat else [] := by
  have key : ∀ x, l ≤ x → x < r → (f x = 0 ↔ f l = 0) := fun x h1 h2 => by
    have := h.2 x h1 h2
    unfold sid at this
    rw [Prod.mk.injEq, decide_eq_decide, decide_eq_decide] at this
    omega
  by_cases z : f l = 0
  · rw [if_pos z]
    refine List.filter_eq_self.mpr fun x hx => ?_
    have hx := up_mem.mp hx
    exact decide_eq_true ((key x hx.1 (by omega)).mpr z)
  · rw [if_neg z]
    refine List.filter_eq_nil_iff.mpr fun x hx => ?_
    have hx := up_mem.mp hx
    have := key x hx.1 (by omega)
    unfold zer
    rw [decide_eq_true_eq]
    omega
theorem zer_add {f : Int → Int} {a b c : Int} (h1 : a ≤ b) (h2 : b ≤ c) : (up a (c - a).toNat).filter (zer f) = (up a (b - a).toNat).filter (zer f) ++ (up b (c - b).toNat).filter (zer f) := by
  rw [← List.filter_append, show (c - a).toNat = (b - a).toNat + (c - b).toNat by omega, up_add, show a + ((b - a).toNat : Int) = b by omega]
/-- the roots within a bound -/
theorem zer_cut {f : Int → Int} {m : Int} (hm : 0 ≤ m) : ((up (-m - 1) (m + 1 + 1 - (-m - 1)).toNat).filter (zer f)).filter (fun x => decide (-m ≤ x) && decide (x ≤ m)) = (up (0 - m) (m + 1 - (0 - m)).toNat).filter (zer f) := by
  rw [show (m + 1 + 1 - (-m - 1)).toNat = 1 + ((m + 1 - (0 - m)).toNat + 1) by omega, up_add, up_add, up_one, up_one]
  rw [show -m - 1 + ((1 : Nat) : Int) = 0 - m by omega]
  rw [List.filter_append, List.filter_append, List.filter_append, List.filter_append]
  have e1 : (([-m - 1] : List Int).filter (zer f)).filter (fun x => decide (-m ≤ x) && decide (x ≤ m)) = [] := by
    refine List.filter_eq_nil_iff.mpr fun x hx => ?_
    have hx := (List.mem_filter.mp hx).1
    rw [List.mem_singleton] at hx
    rw [Bool.and_eq_true, decide_eq_true_eq, decide_eq_true_eq]
    omega
  have e2 : (([0 - m + ((m + 1 - (0 - m)).toNat : Int)] : List Int).filter (zer f)).filter (fun x => decide (-m ≤ x) && decide (x ≤ m)) = [] := by
    refine List.filter_eq_nil_iff.mpr fun x hx => ?_
    have hx := (List.mem_filter.mp hx).1
    rw [List.mem_singleton] at hx
    rw [Bool.and_eq_true, decide_eq_true_eq, decide_eq_true_eq]
    omega
  rw [e1, e2, List.nil_append, List.append_nil]
  refine List.filter_eq_self.mpr fun x hx => ?_
  have hx := up_mem.mp (List.mem_filter.mp hx).1
  rw [Bool.and_eq_true, decide_eq_true_eq, decide_eq_true_eq]
  omega
end k53

namespace k53
open PySem PySem.Spec PyProof.Rows L2 MS
abbrev tp (p : List Int) : D := .tup (p.map .int)
theorem tp_pure (p : List Int) : D.pure (tp p) = true := fit_ints (n := 0) (ns := p)
theorem ev_foldr (x : Int) : ∀ p : List Int, ev p x = p.foldr (fun a r => r * x + a) 0
  | [] => rfl
  | a :: p => by
    show ev p x * x + a = _
    rw [ev_foldr x p]
    rfl
theorem poly_at_ok {p : List Int} {x : Int} (hx : x.natAbs < 2 ^ 64) : F_poly_at [tp p, .int x] = some (.int (ev p x)) := by
  refine bodyP_run rfl rfl ?_
  show Wo (b_poly_at [some (tp p), some (.int x), none, none] []) _
  unfold b_poly_at
  refine wo_step (asg (d := .int 0) rfl) ?_
  refine wo_mid (fun ρ' S' => S' = [] ∧ ∃ a3, ρ' = [some (tp p), some (.int x), some (.int (ev p x)), a3]) ?_ ?_
  · unfold sFor
    have hi : iSeq (dRevT (dVar 0)) [some (tp p), some (.int x), some (.int 0), none] [] = some (.fix (p.reverse.map D.int), []) := by
      rw [List.map_reverse]
      rfl
    show Wo (bnd (iSeq (dRevT (dVar 0)) [some (tp p), some (.int x), some (.int 0), none] []) _) _
    rw [hi, bnd_mk]
    have h := wo_fold (s := .fix (p.reverse.map D.int)) (g := gOf (nN 3)) (b := f1b_poly_at) (e := D.int) (fun r ρ' S' => S' = [] ∧ ∃ a3, ρ' = [some (tp p), some (.int x), some (.int r), a3]) (fun r a => r * x + a) (fun _ _ _ _ => rfl) (l := p.reverse) (x := 0) (ρ := [some (tp p), some (.int x), some (.int 0), none]) (S := []) (by
      rintro a - r ρ S ⟨rfl, a3, rfl⟩
      have mo : mulOk r x = true := mulOk_r hx
      unfold f1b_poly_at
      simp only [sAsg, sIf, sRet, sRetN, sNil, sPass, sSet, sExpr, sPar, sBrk, sCnt, dC, dVar, dOp, dUn, dIf, dCB, dCalP, dCalM, dMeth, dMeth0, dAnd, dOr, dNot, dIsi, aNil, aCons, asB, tbAnd, tbOr, tbNot, dChain, gN, gOf, nN, nT, nsCons, nsNil, dTup, dLst, dCell, wo_bnd, wo_some, wo_map, wo_bind, wo_if, bnd_mk, List.getElem?_cons_zero, List.getElem?_cons_succ, List.set_cons_zero, List.set_cons_succ, Option.map_some, Option.bind_some, gAdd, MS.gSub, gMul, gMod, gDiv, gLt, gLe, gGt, gGe, gI, gNeg, cInt, cI, cII, cAbs, cMax2, cMin2, decide_eq_true_eq, if_true, if_false, List.zip_cons_cons, List.zip_nil_right, List.foldl_cons, List.foldl_nil, List.length_cons, List.length_nil, Nat.zero_add, Nat.reduceAdd, Bool.false_eq_true, decide_true, decide_false, true_and, and_true, true_implies, implies_true, false_implies, not_true_eq_false, D.pureL, D.pure, D.fitL, D.fit, fit_dPair, fit_ints, Bool.and_true, Bool.true_and, Bool.and_self, wo_none, nn_iff, imp_and', and_false, false_and, szOk_0, szOk_1, szOk_2, szOk_3, szOk_4, szOk_5, szOk_6, szOk_7, szOk_8, eqA_int, neA_int, eqA_str, neA_str, eqA_bl, neA_bl, Bool.not_eq_true', Bool.not_true, Bool.not_false, not_false_eq_true, tyOf, isT, String.reduceBEq, Bool.or_false, Bool.false_or, Bool.and_false, Bool.or_true, Bool.true_or, Bool.false_and, mo]
      exact ⟨_, rfl⟩) ⟨rfl, none, rfl⟩
    rw [List.foldl_reverse, ← ev_foldr] at h
    exact h
  · rintro ρ' S' ⟨rfl, a3, rfl⟩
    exact ⟨_, rfl, rfl⟩
theorem below_ok {p : List Int} {x : Int} (hx : x.natAbs < 2 ^ 64) : F_is_below [tp p, .int x] = some (.bl (bel (ev p) x)) := by
  refine bodyP_run rfl rfl ?_
  show Wo (b_is_below [some (tp p), some (.int x)] []) _
  unfold b_is_below
  exact wo_of (b := (.rt (.bl (bel (ev p) x)), _, _)) (by unfold sRet; rw [op2 (cal2 rfl rfl (tp_pure p) rfl (poly_at_ok hx)) rfl rfl]; rfl) rfl
theorem law_at_ok {p : List Int} {x : Int} (hx : ∀ i, i ≤ p.length → (x ^ i).natAbs < 2 ^ 64) : F_n_law_at [tp p, .int x] = some (.int (ev p x)) := by
  refine bodyP_run rfl rfl ?_
  show Wo (b_n_law_at [some (tp p), some (.int x), none, none, none] []) _
  unfold b_n_law_at
  refine wo_step (ρ' := [some (tp p), some (.int x), none, some (.int 0), some (.int 1)]) (S' := []) rfl ?_
  refine wo_mid (fun ρ' S' => S' = [] ∧ ∃ a2 a4, ρ' = [some (tp p), some (.int x), a2, some (.int (ev p x)), a4]) ?_ ?_
  · unfold sFor iSeq
    simp only [dVar, List.getElem?_cons_succ, List.getElem?_cons_zero, bnd_mk]
    refine wo_for (items := p.map D.int) (fun i ρ' S' => S' = [] ∧ ∃ a2 f, ρ' = [some (tp p), some (.int x), a2, some (.int f), some (.int (x ^ i))] ∧ f + ev (p.drop i) x * x ^ i = ev p x) ⟨rfl, none, 0, by rw [Int.pow_zero], by rw [List.drop_zero, Int.pow_zero, Int.mul_one, Int.zero_add]⟩ (fun _ _ _ _ _ => rfl) ?_ ?_
    · rintro i d ρ' S' hd ⟨rfl, a2, f, rfl, hf⟩
      rw [List.getElem?_map, Option.map_eq_some_iff] at hd
      obtain ⟨a, ha, rfl⟩ := hd
      have hi := (List.getElem?_eq_some_iff.mp ha).1
      have m1 : mulOk a (x ^ i) = true := mulOk_r (hx i (by omega))
      have m2 : mulOk (x ^ i) x = true := mulOk_l (hx i (by omega))
      unfold f1b_n_law_at
      simp only [sAsg, sIf, sRet, sRetN, sNil, sPass, sSet, sExpr, sPar, sBrk, sCnt, dC, dVar, dOp, dUn, dIf, dCB, dCalP, dCalM, dMeth, dMeth0, dAnd, dOr, dNot, dIsi, aNil, aCons, asB, tbAnd, tbOr, tbNot, dChain, gN, gOf, nN, nT, nsCons, nsNil, dTup, dLst, dCell, wo_bnd, wo_some, wo_map, wo_bind, wo_if, bnd_mk, List.getElem?_cons_zero, List.getElem?_cons_succ, List.set_cons_zero, List.set_cons_succ, Option.map_some, Option.bind_some, gAdd, MS.gSub, gMul, gMod, gDiv, gLt, gLe, gGt, gGe, gI, gNeg, cInt, cI, cII, cAbs, cMax2, cMin2, decide_eq_true_eq, if_true, if_false, List.zip_cons_cons, List.zip_nil_right, List.foldl_cons, List.foldl_nil, List.length_cons, List.length_nil, Nat.zero_add, Nat.reduceAdd, Bool.false_eq_true, decide_true, decide_false, true_and, and_true, true_implies, implies_true, false_implies, not_true_eq_false, D.pureL, D.pure, D.fitL, D.fit, fit_dPair, fit_ints, Bool.and_true, Bool.true_and, Bool.and_self, wo_none, nn_iff, imp_and', and_false, false_and, szOk_0, szOk_1, szOk_2, szOk_3, szOk_4, szOk_5, szOk_6, szOk_7, szOk_8, eqA_int, neA_int, eqA_str, neA_str, eqA_bl, neA_bl, Bool.not_eq_true', Bool.not_true, Bool.not_false, not_false_eq_true, tyOf, isT, String.reduceBEq, Bool.or_false, Bool.false_or, Bool.and_false, Bool.or_true, Bool.true_or, Bool.false_and, m1, m2]
      refine ⟨_, f + a * x ^ i, by rw [← Int.pow_succ], ?_⟩
      rw [← hf, List.drop_eq_getElem_cons hi]
      have : p[i] = a := by
        rw [List.getElem?_eq_getElem hi] at ha
        exact Option.some.inj ha
      rw [this]
      show f + a * x ^ i + ev (p.drop (i + 1)) x * x ^ (i + 1) = f + (ev (p.drop (i + 1)) x * x + a) * x ^ i
      rw [Int.pow_succ]
      grind
    · rintro ρ' S' ⟨rfl, a2, f, rfl, hf⟩
      rw [List.length_map, List.drop_length] at hf
      have : f = ev p x := by
        rw [← hf]
        show f = f + 0 * x ^ p.length
        rw [Int.zero_mul, Int.add_zero]
      rw [this]
      exact ⟨rfl, rfl, a2, _, rfl⟩
  · rintro ρ' S' ⟨rfl, a2, a4, rfl⟩
    exact ⟨_, rfl, rfl⟩
theorem times_ok {p : List Int} {k : Int} (hk : k.natAbs < 2 ^ 64) (hl : p.length ≤ 1000) : F_poly_times [tp p, .int k] = some (tp (p.map (k * ·))) := by
  refine bodyP_run rfl (tp_pure _) ?_
  show Wo (b_poly_times [some (tp p), some (.int k), none] []) _
  unfold b_poly_times
  have lc : dLc (iSeq (dVar 0)) (nN 2) (tYesD) (dOp gMul (dVar 1) (dVar 2)) [2] [some (tp p), some (.int k), none] [] = some (.fl ((p.map (k * ·)).map D.int), []) := by
    rw [List.map_map]
    refine dLc_map (e := D.int) rfl (by omega) fun a ha => ⟨_, rfl, ?_⟩
    have mo : mulOk k a = true := mulOk_l hk
    simp only [sAsg, sIf, sRet, sRetN, sNil, sPass, sSet, sExpr, sPar, sBrk, sCnt, dC, dVar, dOp, dUn, dIf, dCB, dCalP, dCalM, dMeth, dMeth0, dAnd, dOr, dNot, dIsi, aNil, aCons, asB, tbAnd, tbOr, tbNot, dChain, gN, gOf, nN, nT, nsCons, nsNil, dTup, dLst, dCell, wo_bnd, wo_some, wo_map, wo_bind, wo_if, bnd_mk, List.getElem?_cons_zero, List.getElem?_cons_succ, List.set_cons_zero, List.set_cons_succ, Option.map_some, Option.bind_some, gAdd, MS.gSub, gMul, gMod, gDiv, gLt, gLe, gGt, gGe, gI, gNeg, cInt, cI, cII, cAbs, cMax2, cMin2, decide_eq_true_eq, if_true, if_false, List.zip_cons_cons, List.zip_nil_right, List.foldl_cons, List.foldl_nil, List.length_cons, List.length_nil, Nat.zero_add, Nat.reduceAdd, Bool.false_eq_true, decide_true, decide_false, true_and, and_true, true_implies, implies_true, false_implies, not_true_eq_false, D.pureL, D.pure, D.fitL, D.fit, fit_dPair, fit_ints, Bool.and_true, Bool.true_and, Bool.and_self, wo_none, nn_iff, imp_and', and_false, false_and, szOk_0, szOk_1, szOk_2, szOk_3, szOk_4, szOk_5, szOk_6, szOk_7, szOk_8, eqA_int, neA_int, eqA_str, neA_str, eqA_bl, neA_bl, Bool.not_eq_true', Bool.not_true, Bool.not_false, not_false_eq_true, tyOf, isT, String.reduceBEq, Bool.or_false, Bool.false_or, Bool.and_false, Bool.or_true, Bool.true_or, Bool.false_and, wipeE, mo]
    rfl
  refine wo_of (b := (.rt (tp (p.map (k * ·))), _, _)) (by unfold sRet; rw [call1 lc ctup_fl]; rfl) rfl
end k53

namespace k53
open PySem PySem.Spec PyProof.Rows L2 MS
theorem zip_pad : ∀ (p q : List Int) (m : Nat), p.length ≤ m → q.length ≤ m → m = max p.length q.length → ((p ++ List.replicate (m - p.length) 0).zip (q ++ List.replicate (m - q.length) 0)).map (fun z : Int × Int => z.1 + z.2) = psum p q
  | [], [], m, _, _, e => by
    have : m = 0 := e
    subst this
    rfl
  | [], b :: q, m, h1, h2, e => by
    have e : m = q.length + 1 := by rw [e]; simp
    subst e
    have ih := zip_pad [] q q.length (by simp) (Nat.le_refl _) (by simp)
    show ((List.replicate (q.length + 1) (0 : Int)).zip (b :: q ++ List.replicate (q.length + 1 - (q.length + 1)) 0)).map _ = b :: q
    rw [Nat.sub_self, List.replicate_succ]
    show (0 + b) :: ((List.replicate q.length (0 : Int)).zip (q ++ [])).map _ = _
    have ih : ((List.replicate q.length (0 : Int)).zip (q ++ List.replicate (q.length - q.length) 0)).map (fun z : Int × Int => z.1 + z.2) = q := ih
    rw [Nat.sub_self] at ih
    rw [show (List.replicate 0 (0 : Int)) = [] from rfl] at ih
    rw [ih, Int.zero_add]
  | a :: p, [], m, h1, h2, e => by
    have e : m = p.length + 1 := by rw [e]; simp
    subst e
    have ih := zip_pad p [] p.length (Nat.le_refl _) (by simp) (by simp)
    show ((a :: p ++ List.replicate (p.length + 1 - (p.length + 1)) 0).zip (List.replicate (p.length + 1) (0 : Int))).map _ = a :: p
    rw [Nat.sub_self, List.replicate_succ]
    show (a + 0) :: ((p ++ []).zip (List.replicate p.length (0 : Int))).map _ = _
    have ih : ((p ++ List.replicate (p.length - p.length) 0).zip (List.replicate p.length (0 : Int))).map (fun z : Int × Int => z.1 + z.2) = psum p [] := ih
    rw [Nat.sub_self] at ih
    rw [show (List.replicate 0 (0 : Int)) = [] from rfl] at ih
    rw [ih, Int.add_zero]
    cases p <;> rfl
  | a :: p, b :: q, m, h1, h2, e => by
    simp only [List.length_cons] at h1 h2 e
    have ih := zip_pad p q (m - 1) (by omega) (by omega) (by omega)
    simp only [List.length_cons]
    rw [show m - (p.length + 1) = m - 1 - p.length by omega, show m - (q.length + 1) = m - 1 - q.length by omega]
    show (a + b) :: ((p ++ List.replicate (m - 1 - p.length) 0).zip (q ++ List.replicate (m - 1 - q.length) 0)).map _ = _
    rw [ih]
    rfl
theorem pad_ok {p : List Int} {m v : Nat} {ρ : MS.Env} {S : Sto} (hv : ρ[v]? = some (some (tp p))) (h2 : ρ[2]? = some (some (.int m))) (hl : p.length ≤ m) (hm : m ≤ 1000) : dTup (aStar (dVar v) (aStar (dOp gMul (dLst (aCons (dC (.int 0)) (aNil))) (dOp MS.gSub (dVar 2) (dCB cLen (aCons (dVar v) (aNil))))) (aNil))) ρ S = some (tp (p ++ List.replicate (m - p.length) 0), S) := by
  have e1 : dVar v ρ S = some (tp p, S) := var_at hv
  have e2 : dOp MS.gSub (dVar 2) (dCB cLen (aCons (dVar v) (aNil))) ρ S = some (.int ((m : Int) - (p.length : Nat)), S) := by
    refine op2 (var_at h2) (call1 e1 (r := .int (p.length : Nat)) ?_) rfl
    show some (D.int ((p.map D.int).length : Nat), S) = _
    rw [List.length_map]
  have hz : szOk ([D.int 0]) = true := szOk_1
  have e3 : dOp gMul (dLst (aCons (dC (.int 0)) (aNil))) (dOp MS.gSub (dVar 2) (dCB cLen (aCons (dVar v) (aNil)))) ρ S = some (.fl ((List.replicate (m - p.length) 0).map D.int), S) := by
    refine op2 (d := .fl [.int 0]) ?_ e2 ?_
    · show (if szOk [D.int 0] then some (D.fl [.int 0], S) else none) = _
      rw [if_pos hz]
    · show (if -(2 ^ 63) ≤ (m : Int) - (p.length : Nat) ∧ (m : Int) - (p.length : Nat) < 2 ^ 63 ∧ [D.int 0].length * ((m : Int) - (p.length : Nat)).toNat ≤ sizeLine then some (D.fl (List.replicate ((m : Int) - (p.length : Nat)).toNat [D.int 0]).flatten, S) else none) = _
      rw [show ((m : Int) - (p.length : Nat)).toNat = m - p.length by omega, if_pos ⟨by omega, by omega, by rw [sizeLine_eq]; show 1 * (m - p.length) ≤ 16777216; omega⟩]
      rw [List.map_replicate]
      congr 3
      generalize m - p.length = k
      induction k with
      | zero => rfl
      | succ k ih => rw [List.replicate_succ, List.replicate_succ, List.flatten_cons, ih]; rfl
  unfold dTup aStar
  rw [e1, bnd_mk]
  show bnd (match seqOf S (tp p) with
    | some xs => bnd (bnd (dOp gMul (dLst (aCons (dC (.int 0)) (aNil))) (dOp MS.gSub (dVar 2) (dCB cLen (aCons (dVar v) (aNil)))) ρ S) fun d S => match seqOf S d with
      | some xs => bnd (aNil ρ S) fun ys S => some (xs ++ ys, S)
      | none => none) fun ys S => some (xs ++ ys, S)
    | none => none) _ = _
  rw [e3, bnd_mk]
  show (if szOk (p.map D.int ++ ((List.replicate (m - p.length) 0).map D.int ++ [])) then some (D.tup (p.map D.int ++ ((List.replicate (m - p.length) 0).map D.int ++ [])), S) else none) = _
  have sz : szOk ((p ++ List.replicate (m - p.length) 0).map D.int) = true := decide_eq_true (by rw [sizeLine_eq, List.length_map, List.length_append, List.length_replicate]; omega)
  rw [List.append_nil, ← List.map_append, sz]
  rfl
theorem sum_ok {p q : List Int} (h1 : p.length ≤ 1000) (h2 : q.length ≤ 1000) : F_poly_sum [tp p, tp q] = some (tp (psum p q)) := by
  refine bodyP_run rfl (tp_pure _) ?_
  show Wo (b_poly_sum [some (tp p), some (tp q), none, none, none] []) _
  unfold b_poly_sum
  have len : ∀ (v : Nat) (r : List Int) (ρ : MS.Env), ρ[v]? = some (some (tp r)) → dCB cLen (aCons (dVar v) (aNil)) ρ [] = some (.int (r.length : Nat), []) := fun v r ρ h => call1 (var_at h) (by show some (D.int ((r.map D.int).length : Nat), []) = _; rw [List.length_map])
  refine wo_step (ρ' := [some (tp p), some (tp q), some (.int (max p.length q.length : Nat)), none, none]) (S' := []) ?_ ?_
  · refine asg (d := .int (max p.length q.length : Nat)) ?_
    unfold dCB
    show bnd (bnd (dCB cLen (aCons (dVar 0) aNil) [some (tp p), some (tp q), none, none, none] []) fun x S => bnd (bnd (dCB cLen (aCons (dVar 1) aNil) [some (tp p), some (tp q), none, none, none] S) fun x S => bnd (aNil [some (tp p), some (tp q), none, none, none] S) fun xs S => some (x :: xs, S)) fun xs S => some (x :: xs, S)) cMax2 = _
    rw [len 0 p _ rfl, bnd_mk, len 1 q _ rfl]
    show some (D.int (if ((q.length : Nat) : Int) > ((p.length : Nat) : Int) then ((q.length : Nat) : Int) else ((p.length : Nat) : Int)), ([] : Sto)) = _
    congr 3
    split <;> omega
  generalize hm : max p.length q.length = m
  have m1 : p.length ≤ m := by omega
  have m2 : q.length ≤ m := by omega
  have m3 : m ≤ 1000 := by omega
  refine wo_step (ρ' := [some (tp (p ++ List.replicate (m - p.length) 0)), some (tp (q ++ List.replicate (m - q.length) 0)), some (.int (m : Nat)), none, none]) (S' := []) ?_ ?_
  · have e1 := pad_ok (p := p) (m := m) (v := 0) (ρ := [some (tp p), some (tp q), some (.int (m : Nat)), none, none]) (S := []) rfl rfl m1 m3
    have e2 := pad_ok (p := q) (m := m) (v := 1) (ρ := [some (tp p), some (tp q), some (.int (m : Nat)), none, none]) (S := []) rfl rfl m2 m3
    generalize dTup (aStar (dVar 0) (aStar (dOp gMul (dLst (aCons (dC (.int 0)) (aNil))) (dOp MS.gSub (dVar 2) (dCB cLen (aCons (dVar 0) (aNil))))) (aNil))) = t1 at e1 ⊢
    generalize dTup (aStar (dVar 1) (aStar (dOp gMul (dLst (aCons (dC (.int 0)) (aNil))) (dOp MS.gSub (dVar 2) (dCB cLen (aCons (dVar 1) (aNil))))) (aNil))) = t2 at e2 ⊢
    unfold sPar aCons
    rw [e1, bnd_mk, e2]
    rfl
  have z := zip_pad p q m m1 m2 hm.symm
  generalize hp : p ++ List.replicate (m - p.length) 0 = P at z ⊢
  generalize hq : q ++ List.replicate (m - q.length) 0 = R at z ⊢
  have lc : dLc (iZipD (aCons (dVar 0) (aCons (dVar 1) (aNil)))) (nT 2 (nsCons (nN 3) (nsCons (nN 4) (nsNil)))) (tYesD) (dOp gAdd (dVar 3) (dVar 4)) [3, 4] [some (tp P), some (tp R), some (.int (m : Nat)), none, none] [] = some (.fl ((psum p q).map D.int), []) := by
    rw [← z, List.map_map]
    refine dLc_yes (s := .grd [] (zipD (P.map D.int) (R.map D.int))) (e := fun z : Int × Int => D.tup [.int z.1, .int z.2]) rfl (zipD_map _ _ _ _) rfl ?_ fun a ha => ⟨_, rfl, rfl⟩
    rw [List.length_zip, ← hp, List.length_append, List.length_replicate]
    omega
  exact wo_of (b := (.rt (tp (psum p q)), _, _)) (by unfold sRet; rw [call1 lc ctup_fl]; rfl) rfl
end k53

namespace k53
open PySem PySem.Spec PyProof.Rows L2 MS
theorem ev_set (c x : Int) : ∀ (f : List Int) (k : Nat) (v : Int), f[k]? = some v → ev (f.set k (v + c)) x = ev f x + c * x ^ k
  | [], k, v, h => by simp at h
  | a :: f, 0, v, h => by
    cases h
    show ev f x * x + (a + c) = ev f x * x + a + c * x ^ 0
    rw [Int.pow_zero, Int.mul_one]
    omega
  | a :: f, k + 1, v, h => by
    have ih := ev_set c x f k v h
    show ev (f.set k (v + c)) x * x + a = ev f x * x + a + c * x ^ (k + 1)
    rw [ih, Int.pow_succ]
    grind
theorem ev_take (x : Int) : ∀ (q : List Int) (j : Nat) (b : Int), q[j]? = some b → ev (q.take (j + 1)) x = ev (q.take j) x + b * x ^ j
  | [], j, b, h => by simp at h
  | a :: q, 0, b, h => by
    cases h
    show ev (q.take 0) x * x + a = 0 + a * x ^ 0
    rw [List.take_zero, Int.pow_zero]
    show 0 * x + a = 0 + a * 1
    omega
  | a :: q, j + 1, b, h => by
    have ih := ev_take x q j b h
    show ev (q.take (j + 1)) x * x + a = ev (q.take j) x * x + a + b * x ^ (j + 1)
    rw [ih, Int.pow_succ]
    grind
theorem ev_zero (x : Int) : ∀ n : Nat, ev (List.replicate n 0) x = 0
  | 0 => rfl
  | n + 1 => by
    show ev (List.replicate n 0) x * x + 0 = 0
    rw [ev_zero x n]
    omega
theorem ixN_nat {n k : Nat} (h : k < n) : ixN n ((k : Nat) : Int) = some k := by
  unfold ixN
  rw [if_pos (by omega), if_pos (by omega), Int.toNat_natCast]
theorem atI_nat {α : Type} {xs : List α} {k : Nat} {x : α} (h : xs[k]? = some x) : atI xs ((k : Nat) : Int) = some x := by
  unfold atI
  rw [ixN_nat (List.getElem?_eq_some_iff.mp h).1, Option.bind_some, h]
theorem prod_turn {f : List Int} {i j : Nat} {a b v : Int} (hv : f[i + j]? = some v) (mo : mulOk a b = true) (hl : f.length ≤ 100000) {a0 a1 : Option D} {Q : Out × MS.Env × Sto → Prop}
    (k : Q (.nx, [a0, a1, some (.ref 0), some (.int (i : Nat)), some (.int a), some (.int (j : Nat)), some (.int b)], [.lst ((f.set (i + j) (v + a * b)).map .int)])) :
    Wo (f1b_poly_product [a0, a1, some (.ref 0), some (.int (i : Nat)), some (.int a), some (.int (j : Nat)), some (.int b)] [.lst (f.map .int)]) Q := by
  have hlt := (List.getElem?_eq_some_iff.mp hv).1
  have e : ((i : Nat) : Int) + ((j : Nat) : Int) = ((i + j : Nat) : Int) := by omega
  have at_ : gIx (.ref 0) (.int ((i + j : Nat) : Int)) [.lst (f.map .int)] = some (.int v, [.lst (f.map .int)]) := by
    show (atI (f.map D.int) ((i + j : Nat) : Int)).map (fun d => (d, [C.lst (f.map .int)])) = _
    have : atI (f.map D.int) ((i + j : Nat) : Int) = some (.int v) := atI_nat (by rw [List.getElem?_map, hv]; rfl)
    rw [this]
    rfl
  have put : setItemD (.ref 0) (.int ((i + j : Nat) : Int)) (.int (v + a * b)) [.lst (f.map .int)] = some [.lst ((f.set (i + j) (v + a * b)).map .int)] := by
    show ((ixN (f.map D.int).length ((i + j : Nat) : Int)).bind fun t => if D.fit 0 (.int (v + a * b)) then some ([C.lst (f.map .int)].set 0 (.lst ((f.map D.int).set t (.int (v + a * b))))) else none) = _
    have : ixN (f.map D.int).length ((i + j : Nat) : Int) = some (i + j) := ixN_nat (by rw [List.length_map]; exact hlt)
    rw [this, Option.bind_some]
    show some [C.lst ((f.map D.int).set (i + j) (.int (v + a * b)))] = _
    rw [List.map_set]
  unfold f1b_poly_product sSet
  simp only [dOp, dVar, List.getElem?_cons_succ, List.getElem?_cons_zero, bnd_mk, gAdd, e, at_, gMul, mo, if_true, put, Option.map_some]
  exact ⟨_, rfl, k⟩
theorem enum_iter {v : Nat} {p : List Int} {ρ : MS.Env} {S : Sto} (h : ρ[v]? = some (some (tp p))) : iEnumD (aCons (dVar v) (aNil)) ρ S = some (.grd [] (enumD (p.map D.int)), S) := by
  unfold iEnumD aCons aNil
  rw [var_at h]
  rfl
/-- the inner loop adds a x^i q -/
theorem prod_inner {p q : List Int} {i : Nat} {a : Int} {N : Nat} {f : List Int} (hf : f.length = N) (hN : N ≤ 100000) (hi : i + q.length ≤ N) (mo : ∀ b ∈ q, mulOk a b = true) {a5 a6 : Option D} : Wo (f2b_poly_product [some (tp p), some (tp q), some (.ref 0), some (.int (i : Nat)), some (.int a), a5, a6] [.lst (f.map .int)]) fun r => r.1 = .nx ∧ ∃ f' a5 a6, r.2 = ([some (tp p), some (tp q), some (.ref 0), some (.int (i : Nat)), some (.int a), a5, a6], [.lst (f'.map .int)]) ∧ f'.length = N ∧ ∀ x, ev f' x = ev f x + a * x ^ i * ev q x := by
  unfold f2b_poly_product sFor
  rw [enum_iter (p := q) rfl, bnd_mk]
  refine wo_for (items := enumD (q.map D.int)) (fun j ρ' S' => ∃ f' a5 a6, ρ' = [some (tp p), some (tp q), some (.ref 0), some (.int (i : Nat)), some (.int a), a5, a6] ∧ S' = [.lst (f'.map .int)] ∧ f'.length = N ∧ ∀ x, ev f' x = ev f x + a * x ^ i * ev (q.take j) x) ⟨f, a5, a6, rfl, rfl, hf, fun x => by
    rw [List.take_zero]
    show ev f x = ev f x + a * x ^ i * 0
    rw [Int.mul_zero, Int.add_zero]⟩ (fun _ _ _ _ _ => rfl) ?_ ?_
  · rintro j d ρ' S' hd ⟨g, b5, b6, rfl, rfl, hg, he⟩
    obtain ⟨y, hy, rfl⟩ := enumD_get hd
    rw [List.getElem?_map, Option.map_eq_some_iff] at hy
    obtain ⟨b, hb, rfl⟩ := hy
    have hj := (List.getElem?_eq_some_iff.mp hb).1
    have hlt : i + j < g.length := by omega
    refine wo_of (b := ([some (tp p), some (tp q), some (.ref 0), some (.int (i : Nat)), some (.int a), some (.int (j : Nat)), some (.int b)], [.lst (g.map .int)])) rfl ?_
    refine prod_turn (v := g[i + j]) (List.getElem?_eq_getElem hlt) (mo b (List.mem_of_getElem? hb)) (by omega) ?_
    refine ⟨_, _, _, rfl, rfl, by rw [List.length_set, hg], fun x => ?_⟩
    rw [ev_set _ x g (i + j) _ (List.getElem?_eq_getElem hlt), he, ev_take x q j b hb, Int.pow_add]
    grind
  · rintro ρ' S' ⟨g, b5, b6, rfl, rfl, hg, he⟩
    refine ⟨rfl, g, b5, b6, rfl, hg, fun x => ?_⟩
    rw [he, enumD, List.length_map, List.length_zipIdx, List.length_map, List.take_length]
theorem prod_ok {p q : List Int} (hp : 1 ≤ p.length) (hq : 1 ≤ q.length) (hp2 : p.length ≤ 1000) (hq2 : q.length ≤ 1000) (mo : ∀ a ∈ p, ∀ b ∈ q, mulOk a b = true) : ∃ r, F_poly_product [tp p, tp q] = some (tp r) ∧ r.length = p.length + q.length - 1 ∧ ∀ x, ev r x = ev p x * ev q x := by
  have run : Wo (b_poly_product [some (tp p), some (tp q), none, none, none, none, none] []) fun r => ∃ f : List Int, r.1 = .rt (tp f) ∧ f.length = p.length + q.length - 1 ∧ ∀ x, ev f x = ev p x * ev q x := by
    unfold b_poly_product
    have len : ∀ (v : Nat) (r : List Int) (ρ : MS.Env), ρ[v]? = some (some (tp r)) → dCB cLen (aCons (dVar v) (aNil)) ρ [] = some (.int (r.length : Nat), []) := fun v r ρ h => call1 (var_at h) (by show some (D.int ((r.map D.int).length : Nat), []) = _; rw [List.length_map])
    refine wo_step (ρ' := [some (tp p), some (tp q), some (.ref 0), none, none, none, none]) (S' := [.lst ((List.replicate (p.length + q.length - 1) 0).map .int)]) ?_ ?_
    · refine asg (d := .ref 0) ?_
      have e2 : dOp MS.gSub (dOp gAdd (dCB cLen (aCons (dVar 0) (aNil))) (dCB cLen (aCons (dVar 1) (aNil)))) (dC (.int 1)) [some (tp p), some (tp q), none, none, none, none, none] [] = some (.int ((p.length : Nat) + (q.length : Nat) - 1), []) := op2 (op2 (len 0 p _ rfl) (len 1 q _ rfl) rfl) rfl rfl
      unfold dOp
      show bnd (if szOk [D.int 0] then some (D.fl [.int 0], []) else none) _ = _
      rw [if_pos szOk_1, bnd_mk]
      show bnd (dOp MS.gSub (dOp gAdd (dCB cLen (aCons (dVar 0) (aNil))) (dCB cLen (aCons (dVar 1) (aNil)))) (dC (.int 1)) [some (tp p), some (tp q), none, none, none, none, none] []) _ = _
      rw [e2, bnd_mk]
      show (if -(2 ^ 63) ≤ ((p.length : Nat) : Int) + (q.length : Nat) - 1 ∧ ((p.length : Nat) : Int) + (q.length : Nat) - 1 < 2 ^ 63 ∧ [D.int 0].length * (((p.length : Nat) : Int) + (q.length : Nat) - 1).toNat ≤ sizeLine ∧ D.fitL 0 [D.int 0] = true then some (D.ref 0, [C.lst (List.replicate (((p.length : Nat) : Int) + (q.length : Nat) - 1).toNat [D.int 0]).flatten]) else none) = _
      rw [show (((p.length : Nat) : Int) + (q.length : Nat) - 1).toNat = p.length + q.length - 1 by omega, if_pos ⟨by omega, by omega, by rw [sizeLine_eq]; show 1 * (p.length + q.length - 1) ≤ 16777216; omega, rfl⟩]
      rw [List.map_replicate]
      have : ∀ k : Nat, (List.replicate k [D.int 0]).flatten = List.replicate k (D.int 0) := fun k => by
        induction k with
        | zero => rfl
        | succ k ih => rw [List.replicate_succ, List.replicate_succ, List.flatten_cons, ih]; rfl
      rw [this]
    refine wo_mid (fun ρ' S' => ∃ f a3 a4 a5 a6, ρ' = [some (tp p), some (tp q), some (.ref 0), a3, a4, a5, a6] ∧ S' = [.lst (f.map .int)] ∧ f.length = p.length + q.length - 1 ∧ ∀ x, ev f x = ev p x * ev q x) ?_ ?_
    · unfold sFor
      rw [enum_iter (p := p) rfl, bnd_mk]
      refine wo_for (items := enumD (p.map D.int)) (fun i ρ' S' => ∃ f a3 a4 a5 a6, ρ' = [some (tp p), some (tp q), some (.ref 0), a3, a4, a5, a6] ∧ S' = [.lst (f.map .int)] ∧ f.length = p.length + q.length - 1 ∧ ∀ x, ev f x = ev (p.take i) x * ev q x) ⟨_, none, none, none, none, rfl, rfl, List.length_replicate, fun x => by
        rw [ev_zero, List.take_zero]
        show 0 = 0 * ev q x
        rw [Int.zero_mul]⟩ (fun _ _ _ _ _ => rfl) ?_ ?_
      · rintro i d ρ' S' hd ⟨f, a3, a4, a5, a6, rfl, rfl, hf, he⟩
        obtain ⟨y, hy, rfl⟩ := enumD_get hd
        rw [List.getElem?_map, Option.map_eq_some_iff] at hy
        obtain ⟨a, ha, rfl⟩ := hy
        have hi := (List.getElem?_eq_some_iff.mp ha).1
        refine wo_of (b := ([some (tp p), some (tp q), some (.ref 0), some (.int (i : Nat)), some (.int a), a5, a6], [.lst (f.map .int)])) rfl ?_
        refine (prod_inner (p := p) (q := q) hf (by omega) (by omega) (mo a (List.mem_of_getElem? ha))).mono ?_
        rintro ⟨o, ρ2, S2⟩ ⟨rfl, g, b5, b6, h2, hg, hx⟩
        cases h2
        refine ⟨g, _, _, b5, b6, rfl, rfl, hg, fun x => ?_⟩
        rw [hx, he, ev_take x p i a ha]
        grind
      · rintro ρ' S' ⟨f, a3, a4, a5, a6, rfl, rfl, hf, he⟩
        refine ⟨rfl, f, a3, a4, a5, a6, rfl, rfl, hf, fun x => ?_⟩
        rw [he, enumD, List.length_map, List.length_zipIdx, List.length_map, List.take_length]
    · rintro ρ' S' ⟨f, a3, a4, a5, a6, rfl, rfl, hf, he⟩
      exact ⟨_, rfl, f, rfl, hf, he⟩
  obtain ⟨⟨o, ρ', S'⟩, e, f, h1, h2, h3⟩ := run
  exact ⟨f, bodyP_run rfl (tp_pure f) (show Wo (b_poly_product [some (tp p), some (tp q), none, none, none, none, none] []) _ from wo_of e h1), h2, h3⟩
end k53

namespace k53
open PySem PySem.Spec PyProof.Rows L2 MS
theorem strip_ok {p : List Int} (hl : p.length ≤ 1000) : F_without_noughts [tp p] = some (tp (strip p)) := by
  refine bodyP_run rfl (tp_pure _) ?_
  show Wo (b_without_noughts [some (tp p), none] []) _
  unfold b_without_noughts
  refine wo_step (ρ' := [some (tp p), some (.int (p.length : Nat))]) (S' := []) (asg (call1 (d := tp p) rfl (by show some (D.int ((p.map D.int).length : Nat), []) = _; rw [List.length_map]))) ?_
  refine wo_mid (fun ρ' S' => S' = [] ∧ ∃ n : Nat, ρ' = [some (tp p), some (.int (n : Nat))] ∧ n ≤ p.length ∧ p.take n = strip p) ?_ ?_
  · refine wo_while (fun m ρ' S' => S' = [] ∧ ∃ n : Nat, ρ' = [some (tp p), some (.int (n : Nat))] ∧ n ≤ p.length ∧ (∀ j, n ≤ j → C p j = 0) ∧ m = n) (m := p.length) ⟨rfl, p.length, rfl, Nat.le_refl _, fun j hj => by
      unfold C
      rw [List.getD_eq_getElem?_getD, List.getElem?_eq_none hj]
      rfl, rfl⟩ ?_ ?_
    · omega
    · rintro m ρ' S' ⟨rfl, n, rfl, h1, h2, rfl⟩
      unfold w1c_without_noughts
      by_cases h0 : m = 0
      · subst h0
        rw [and_no (as_b (b := false) (op2 rfl rfl rfl))]
        refine ⟨(false, []), rfl, fun z => ?_, fun _ => ⟨rfl, rfl, 0, rfl, h1, strip_take h1 h2 (.inl rfl)⟩⟩
        cases z
      · have e1 : asB (dOp gGt (dVar 1) (dC (.int 0))) [some (tp p), some (.int (m : Nat))] [] = some (true, []) := as_b (op2 rfl rfl (by
          show some (D.bl (decide ((0 : Int) < (m : Int))), ([] : Sto)) = _
          rw [decide_eq_true (by omega)]))
        have hlt : m - 1 < p.length := by omega
        have e2 : gIx (tp p) (.int ((m : Int) - 1)) [] = some (.int p[m - 1], []) := by
          show (atI (p.map D.int) ((m : Int) - 1)).map (fun d => (d, ([] : Sto))) = _
          rw [show (m : Int) - 1 = ((m - 1 : Nat) : Int) by omega, atI_nat (x := .int p[m - 1]) (by rw [List.getElem?_map, List.getElem?_eq_getElem hlt]; rfl)]
          rfl
        have e3 : asB (dOp gEqA (dOp gIx (dVar 0) (dOp MS.gSub (dVar 1) (dC (.int 1)))) (dC (.int 0))) [some (tp p), some (.int (m : Nat))] [] = some (decide (p[m - 1] = 0), []) := as_b (op2 (op2 rfl (op2 rfl rfl rfl) e2) rfl eqA_int)
        rw [and_go e1, e3]
        have c : C p (m - 1) = p[m - 1] := by
          unfold C
          rw [List.getD_eq_getElem?_getD, List.getElem?_eq_getElem hlt]
          rfl
        refine ⟨_, rfl, fun z => ?_, fun z => ?_⟩
        · have z : p[m - 1] = 0 := of_decide_eq_true z
          unfold w1b_without_noughts
          refine wo_of (asg (d := .int ((m : Int) - 1)) (op2 rfl rfl rfl)) ?_
          refine ⟨m - 1, by omega, rfl, m - 1, ?_, by omega, fun j hj => ?_, rfl⟩
          · rw [show ((m - 1 : Nat) : Int) = (m : Int) - 1 by omega]
            rfl
          · by_cases q : j = m - 1
            · rw [q, c, z]
            · exact h2 j (by omega)
        · have z : p[m - 1] ≠ 0 := of_decide_eq_false z
          exact ⟨rfl, rfl, m, rfl, h1, strip_take h1 h2 (.inr (by rw [c]; exact z))⟩
  · rintro ρ' S' ⟨rfl, n, rfl, h1, h2⟩
    have e : MS.cutD (p.map D.int) none (some (n : Int)) = (strip p).map D.int := by
      unfold MS.cutD
      rw [HT.sIx_none, HT.sIx_nat, List.drop_zero, Nat.sub_zero, List.length_map, Nat.min_eq_left h1, ← List.map_take, h2]
    refine wo_of (b := (.rt (tp (strip p)), [some (tp p), some (.int (n : Nat))], [])) ?_ rfl
    show some (Out.rt (.tup (MS.cutD (p.map D.int) none (some (n : Int)))), [some (tp p), some (.int (n : Nat))], ([] : Sto)) = _
    rw [e]
theorem lay_ints : ∀ p : List Int, PyData.canLayAll0 (D.datL (p.map D.int)) = true ∧ PyData.depthAll (D.datL (p.map D.int)) = 0
  | [] => ⟨rfl, rfl⟩
  | a :: p => by
    obtain ⟨h1, h2⟩ := lay_ints p
    refine ⟨?_, ?_⟩
    · show (true && PyData.canLayAll0 (D.datL (p.map D.int))) = true
      rw [h1]
      rfl
    · show max 0 (PyData.depthAll (D.datL (p.map D.int))) = 0
      rw [h2]
      rfl
theorem shaped_tp (p : List Int) : SeqAt.shaped (D.dat (tp p)) = true := by
  unfold SeqAt.shaped
  rw [Bool.and_eq_true]
  refine ⟨(lay_ints p).1, decide_eq_true ?_⟩
  show PyData.depthAll (D.datL (p.map D.int)) + 1 ≤ 64
  rw [(lay_ints p).2]
  decide
theorem shaped_fl (p : List Int) : SeqAt.shaped (D.dat (.fl (p.map D.int))) = true := by
  unfold SeqAt.shaped
  rw [Bool.and_eq_true]
  refine ⟨(lay_ints p).1, decide_eq_true ?_⟩
  show PyData.depthAll (D.datL (p.map D.int)) + 1 ≤ 64
  rw [(lay_ints p).2]
  decide
theorem cmp_tp {neg : Bool} {S : Sto} (p : List Int) : gCmpA neg (tp p) (tp p) S = some (.bl (!neg), S) := by
  have e1 : datS S (tp p) = some (D.dat (tp p)) := datS_pure (tp_pure p)
  show gCmpD neg (tp p) (tp p) S = _
  unfold gCmpD
  rw [e1]
  have e2 : PyData.eqv (D.dat (tp p)) (D.dat (tp p)) = true := SeqAt.eqv_refl _ (lay_ints p).1
  simp only [shaped_tp, Bool.and_self, if_true, e2, Bool.not_true]
  cases neg <;> rfl
theorem cmp_fl {neg : Bool} {S : Sto} (p : List Int) : gCmpA neg (.fl (p.map D.int)) (.fl (p.map D.int)) S = some (.bl (!neg), S) := by
  have e1 : datS S (.fl (p.map D.int)) = some (D.dat (.fl (p.map D.int))) := datS_pure (d := .fl (p.map D.int)) (fit_ints (n := 0) (ns := p))
  show gCmpD neg (.fl (p.map D.int)) (.fl (p.map D.int)) S = _
  unfold gCmpD
  rw [e1]
  have e2 : PyData.eqv (D.dat (.fl (p.map D.int))) (D.dat (.fl (p.map D.int))) = true := SeqAt.eqv_refl _ (lay_ints p).1
  simp only [shaped_fl, Bool.and_self, if_true, e2, Bool.not_true]
  cases neg <;> rfl
theorem ne_empty {S : Sto} (p : List Int) : gNeA (tp p) (.tup []) S = some (.bl (decide (p ≠ [])), S) := by
  cases p with
  | nil => exact cmp_tp []
  | cons a p =>
    have e1 : datS S (tp (a :: p)) = some (D.dat (tp (a :: p))) := datS_pure (tp_pure _)
    have e0 : datS S (.tup []) = some (D.dat (.tup [])) := datS_pure rfl
    show gCmpD true (tp (a :: p)) (.tup []) S = _
    unfold gCmpD
    rw [e1, e0]
    have e2 : PyData.eqv (D.dat (tp (a :: p))) (D.dat (.tup [])) = false := rfl
    have s0 : SeqAt.shaped (D.dat (.tup [])) = true := rfl
    simp only [shaped_tp, s0, Bool.and_self, if_true, e2, Bool.not_false]
    rfl
theorem tup_nil {ρ : MS.Env} {S : Sto} : dTup (aNil) ρ S = some (.tup [], S) := by
  unfold dTup aNil
  rw [bnd_mk, szOk_0]
  rfl
theorem short_ok {p : List Int} (hl : p.length ≤ 1000) : F_n_law_short [tp p] = some (tp (strip p)) := by
  refine bodyP_run rfl (tp_pure _) ?_
  show Wo (b_n_law_short [some (tp p)] []) _
  unfold b_n_law_short
  refine wo_mid (fun ρ' S' => S' = [] ∧ ρ' = [some (tp (strip p))]) ?_ ?_
  · refine wo_while (fun m ρ' S' => S' = [] ∧ ∃ n : Nat, ρ' = [some (tp (p.take n))] ∧ n ≤ p.length ∧ (∀ j, n ≤ j → C p j = 0) ∧ m = n) (m := p.length) ⟨rfl, p.length, by rw [List.take_length], Nat.le_refl _, fun j hj => by
      unfold C
      rw [List.getD_eq_getElem?_getD, List.getElem?_eq_none hj]
      rfl, rfl⟩ ?_ ?_
    · omega
    · rintro m ρ' S' ⟨rfl, n, rfl, h1, h2, rfl⟩
      unfold w1c_n_law_short
      have e0 : asB (dOp gNeA (dVar 0) (dTup (aNil))) [some (tp (p.take m))] [] = some (decide (p.take m ≠ []), []) := as_b (op2 rfl tup_nil (ne_empty _))
      have hlen : (p.take m).length = m := by rw [List.length_take]; omega
      by_cases h0 : m = 0
      · subst h0
        rw [List.take_zero] at e0 ⊢
        rw [and_no e0]
        refine ⟨(false, []), rfl, fun z => ?_, fun _ => ⟨rfl, rfl, by rw [← strip_take h1 h2 (.inl rfl), List.take_zero]⟩⟩
        cases z
      · have ne : p.take m ≠ [] := fun z => by rw [z] at hlen; simp at hlen; omega
        rw [decide_eq_true ne] at e0
        have hlt : m - 1 < p.length := by omega
        have g1 : (p.take m)[m - 1]? = some p[m - 1] := by rw [List.getElem?_take_of_lt (by omega), List.getElem?_eq_getElem hlt]
        have e2 : gIx (tp (p.take m)) (.int (-1)) [] = some (.int p[m - 1], []) := by
          show (atI ((p.take m).map D.int) (-1)).map (fun d => (d, ([] : Sto))) = _
          have : atI ((p.take m).map D.int) (-1) = some (.int p[m - 1]) := by
            unfold atI ixN
            rw [List.length_map, hlen, if_neg (by decide), if_pos (by omega), Option.bind_some, show ((-1 : Int) + (m : Nat)).toNat = m - 1 by omega, List.getElem?_map, g1]
            rfl
          rw [this]
          rfl
        have e3 : asB (dOp gEqA (dOp gIx (dVar 0) (dUn gNeg (dC (.int 1)))) (dC (.int 0))) [some (tp (p.take m))] [] = some (decide (p[m - 1] = 0), []) := as_b (op2 (op2 rfl rfl e2) rfl eqA_int)
        rw [and_go e0, e3]
        have c : C p (m - 1) = p[m - 1] := by
          unfold C
          rw [List.getD_eq_getElem?_getD, List.getElem?_eq_getElem hlt]
          rfl
        refine ⟨_, rfl, fun z => ?_, fun z => ?_⟩
        · have z : p[m - 1] = 0 := of_decide_eq_true z
          have cut : MS.cutD ((p.take m).map D.int) none (some (-1)) = (p.take (m - 1)).map D.int := by
            unfold MS.cutD
            rw [HT.sIx_none, List.drop_zero, Nat.sub_zero, List.length_map, hlen]
            rw [show HT.sIx m m (some (-1)) = m - 1 from by
              show (if (-1 : Int) < 0 then ((-1 : Int) + (m : Int)).toNat else min (-1 : Int).toNat m) = m - 1
              rw [if_pos (by decide)]
              omega]
            rw [← List.map_take, List.take_take, Nat.min_eq_left (by omega)]
          unfold w1b_n_law_short
          refine wo_of (b := (.nx, [some (tp (p.take (m - 1)))], [])) ?_ ?_
          · show some (Out.nx, [some (D.tup (MS.cutD ((p.take m).map D.int) none (some (-1))))], ([] : Sto)) = _
            rw [cut]
          · refine ⟨m - 1, by omega, rfl, m - 1, rfl, by omega, fun j hj => ?_, rfl⟩
            by_cases q : j = m - 1
            · rw [q, c, z]
            · exact h2 j (by omega)
        · have z : p[m - 1] ≠ 0 := of_decide_eq_false z
          exact ⟨rfl, rfl, by rw [strip_take h1 h2 (.inr (by rw [c]; exact z))]⟩
  · rintro ρ' S' ⟨rfl, rfl⟩
    exact ⟨_, rfl, rfl⟩
theorem diff_ok {p : List Int} (hl : p.length ≤ 500) : ∃ d, F_difference_of [tp p] = some (tp d) ∧ Full d ∧ (∀ x, ev d x = ev p (x + 1) - ev p x) ∧ d = dif (strip p) := by
  have run : Wo (b_difference_of [some (tp p), none, none] []) fun r => ∃ d, r.1 = .rt (tp d) ∧ Full d ∧ (∀ x, ev d x = ev p (x + 1) - ev p x) := by
    unfold b_difference_of
    refine wo_step (ρ' := [some (tp p), some (tp [0]), none]) (S' := []) rfl ?_
    refine wo_mid (fun ρ' S' => S' = [] ∧ ∃ r a2, ρ' = [some (tp p), some (tp r), a2] ∧ r.length = p.length + 1 ∧ ∀ x, ev r x = ev p (x + 1)) ?_ ?_
    · unfold sFor
      have hi : iSeq (dRevT (dVar 0)) [some (tp p), some (tp [0]), none] [] = some (.fix (p.reverse.map D.int), []) := by
        rw [List.map_reverse]
        rfl
      rw [hi, bnd_mk]
      refine wo_for (items := p.reverse.map D.int) (fun i ρ' S' => S' = [] ∧ ∃ r a2, ρ' = [some (tp p), some (tp r), a2] ∧ r.length = i + 1 ∧ ∀ x, ev r x = ev ((p.reverse.take i).reverse) (x + 1)) ⟨rfl, [0], none, rfl, rfl, fun x => by
        rw [List.take_zero]
        show 0 * x + 0 = 0
        omega⟩ (fun _ _ _ _ _ => rfl) ?_ ?_
      · rintro i d ρ' S' hd ⟨rfl, r, a2, rfl, hr, he⟩
        rw [List.getElem?_map, Option.map_eq_some_iff] at hd
        obtain ⟨a, ha, rfl⟩ := hd
        have hi := (List.getElem?_eq_some_iff.mp ha).1
        rw [List.length_reverse] at hi
        obtain ⟨t, t1, t2, t3⟩ := prod_ok (p := r) (q := [1, 1]) (by omega) (by decide) (by omega) (by decide) (fun a _ b hb => mulOk_r (by
          simp only [List.mem_cons, List.not_mem_nil, or_false] at hb
          rcases hb with rfl | rfl <;> decide))
        have t2 : t.length = r.length + 2 - 1 := t2
        have s := sum_ok (p := t) (q := [a]) (by omega) (by show 1 ≤ 1000; decide)
        refine wo_of (b := ([some (tp p), some (tp r), some (.int a)], [])) rfl ?_
        unfold f1b_difference_of
        refine wo_of (asg (cal2 (cal2 (d := tp r) (e := tp [1, 1]) rfl rfl (tp_pure _) (tp_pure _) t1) (e := tp [a]) rfl (tp_pure _) (tp_pure _) s)) ?_
        refine ⟨rfl, psum t [a], _, rfl, ?_, fun x => ?_⟩
        · rw [len_psum, t2]
          show max (r.length + 2 - 1) 1 = _
          omega
        · rw [ev_psum, t3, he, List.take_add_one, ha]
          show _ = ev ((p.reverse.take i ++ [a]).reverse) (x + 1)
          rw [List.reverse_append]
          show _ + (0 * x + a) = ev ((p.reverse.take i).reverse) (x + 1) * (x + 1) + a
          show ev ((p.reverse.take i).reverse) (x + 1) * ((0 * x + 1) * x + 1) + (0 * x + a) = _
          rw [Int.zero_mul, Int.zero_add, Int.zero_add, Int.one_mul]
      · rintro ρ' S' ⟨rfl, r, a2, rfl, hr, he⟩
        rw [List.length_map, List.length_reverse] at hr
        refine ⟨rfl, rfl, r, a2, rfl, hr, fun x => ?_⟩
        rw [he, List.length_map, List.take_length, List.reverse_reverse]
    · rintro ρ' S' ⟨rfl, r, a2, rfl, hr, he⟩
      have t := times_ok (p := p) (k := -1) (by decide) (by omega)
      have s := sum_ok (p := r) (q := p.map ((-1) * ·)) (by omega) (by rw [List.length_map]; omega)
      have z := strip_ok (p := psum r (p.map ((-1) * ·))) (by rw [len_psum, List.length_map]; omega)
      refine wo_of (b := (.rt (tp (strip (psum r (p.map ((-1) * ·))))), _, _)) (by unfold sRet; rw [cal1 (cal2 (d := tp r) rfl (cal2 (d := tp p) (e := .int (-1)) rfl rfl (tp_pure _) rfl t) (tp_pure _) (tp_pure _) s) (tp_pure _) z]; rfl) ⟨_, rfl, strip_full _, fun x => ?_⟩
      rw [strip_ev, ev_psum, ev_map, he]
      omega
  obtain ⟨⟨o, ρ', S'⟩, e, d, h1, h2, h3⟩ := run
  exact ⟨d, bodyP_run rfl (tp_pure d) (show Wo (b_difference_of [some (tp p), none, none] []) _ from wo_of e h1), h2, h3, dif_of h2 h3⟩
end k53

namespace k53
open PySem PySem.Spec PyProof.Rows L2 MS
theorem first_ok {p : List Int} {low high : Int} (h : low < high) (b1 : low.natAbs < 2 ^ 60) (b2 : high.natAbs < 2 ^ 60) (hn : bel (ev p) low ≠ bel (ev p) high) : ∃ t, F_first_turned [tp p, .int low, .int high] = some (.int t) ∧ low < t ∧ t ≤ high ∧ bel (ev p) t ≠ bel (ev p) (t - 1) := by
  have run : Wo (b_first_turned [some (tp p), some (.int low), some (.int high), none, none] []) fun r => ∃ t, r.1 = .rt (.int t) ∧ low < t ∧ t ≤ high ∧ bel (ev p) t ≠ bel (ev p) (t - 1) := by
    unfold b_first_turned
    generalize hs : bel (ev p) high = side at *
    refine wo_step (ρ' := [some (tp p), some (.int low), some (.int high), some (.bl side), none]) (S' := []) (asg (cal2 (d := tp p) (e := .int high) rfl rfl (tp_pure _) rfl (by rw [below_ok (by omega), hs]))) ?_
    refine wo_mid (fun ρ' S' => S' = [] ∧ ∃ lo hi a4, ρ' = [some (tp p), some (.int lo), some (.int hi), some (.bl side), a4] ∧ low < hi ∧ hi ≤ high ∧ bel (ev p) hi ≠ bel (ev p) (hi - 1)) ?_ ?_
    · refine wo_while (fun m ρ' S' => S' = [] ∧ ∃ lo hi a4, ρ' = [some (tp p), some (.int lo), some (.int hi), some (.bl side), a4] ∧ lo < hi ∧ low ≤ lo ∧ hi ≤ high ∧ bel (ev p) lo ≠ side ∧ bel (ev p) hi = side ∧ m = (hi - lo).toNat) (m := (high - low).toNat) ⟨rfl, low, high, none, rfl, h, Int.le_refl _, Int.le_refl _, hn, hs, rfl⟩ ?_ ?_
      · omega
      · rintro m ρ' S' ⟨rfl, lo, hi, a4, rfl, h1, h2, h3, h4, h5, rfl⟩
        have e1 : w1c_first_turned [some (tp p), some (.int lo), some (.int hi), some (.bl side), a4] [] = some (decide (1 < hi - lo), []) := as_b (op2 (op2 rfl rfl rfl) rfl rfl)
        rw [e1]
        refine ⟨_, rfl, fun z => ?_, fun z => ?_⟩
        · have z : 1 < hi - lo := of_decide_eq_true z
          have d2 : divOk 2 = true := divOk_of (by decide) (by decide)
          have md : (lo + hi).fdiv 2 = (lo + hi) / 2 := fdiv_pos (by decide)
          unfold w1b_first_turned
          refine wo_step (ρ' := [some (tp p), some (.int lo), some (.int hi), some (.bl side), some (.int ((lo + hi) / 2))]) (S' := []) (asg (op2 (op2 rfl rfl rfl) rfl (by
            show (if divOk 2 then some (D.int ((lo + hi).fdiv 2)) else none).map (fun d => (d, ([] : Sto))) = _
            rw [d2, md]
            rfl))) ?_
          generalize hm : (lo + hi) / 2 = mid
          have m1 : lo < mid ∧ mid < hi := by omega
          have bl := below_ok (p := p) (x := mid) (by omega)
          have e2 : asB (dOp gEqA (dCalP F_is_below (aCons (dVar 0) (aCons (dVar 4) (aNil)))) (dVar 3)) [some (tp p), some (.int lo), some (.int hi), some (.bl side), some (.int mid)] [] = some (decide (bel (ev p) mid = side), []) := as_b (op2 (cal2 (d := tp p) (e := .int mid) rfl rfl (tp_pure _) rfl bl) rfl eqA_bl)
          by_cases q : bel (ev p) mid = side
          · rw [if_yes (by rw [e2, decide_eq_true q])]
            exact wo_of (asg (d := .int mid) rfl) ⟨_, by omega, rfl, lo, mid, _, rfl, m1.1, h2, by omega, h4, q, rfl⟩
          · rw [if_no (by rw [e2, decide_eq_false q])]
            exact wo_of (asg (d := .int mid) rfl) ⟨_, by omega, rfl, mid, hi, _, rfl, m1.2, by omega, h3, q, h5, rfl⟩
        · have z : ¬ 1 < hi - lo := of_decide_eq_false z
          refine ⟨rfl, rfl, lo, hi, a4, rfl, by omega, h3, ?_⟩
          rw [show hi - 1 = lo by omega, h5]
          exact fun w => h4 w.symm
    · rintro ρ' S' ⟨rfl, lo, hi, a4, rfl, h1, h2, h3⟩
      exact ⟨_, rfl, hi, rfl, h1, h2, h3⟩
  obtain ⟨⟨o, ρ', S'⟩, e, t, h1, h2⟩ := run
  exact ⟨t, bodyP_run rfl rfl (show Wo (b_first_turned [some (tp p), some (.int low), some (.int high), none, none] []) _ from wo_of e h1), h2⟩
theorem append_last {S0 : Sto} {l : List Int} {t : Int} (hl : l.length ≤ 100000) : gAppend (.ref S0.length) [.int t] (S0 ++ [.lst (l.map D.int)]) = some (.non, S0 ++ [.lst ((l ++ [t]).map D.int)]) := by
  have g : (S0 ++ [C.lst (l.map D.int)])[S0.length]? = some (.lst (l.map D.int)) := by rw [List.getElem?_append_right (Nat.le_refl _), Nat.sub_self]; rfl
  show (match (S0 ++ [C.lst (l.map D.int)])[S0.length]? with
    | some (.lst ds) => if ds.length < sizeLine ∧ D.fit S0.length (.int t) = true then some (D.non, (S0 ++ [C.lst (l.map D.int)]).set S0.length (C.lst (ds ++ [D.int t]))) else none
    | _ => none) = _
  rw [g]
  show (if (l.map D.int).length < sizeLine ∧ D.fit S0.length (.int t) = true then some (D.non, (S0 ++ [C.lst (l.map D.int)]).set S0.length (C.lst (l.map D.int ++ [D.int t]))) else none) = _
  rw [if_pos ⟨by rw [sizeLine_eq, List.length_map]; omega, rfl⟩, List.set_append_right _ _ (Nat.le_refl _), Nat.sub_self, List.map_append]
  rfl
theorem isL_last {S0 : Sto} {l : List D} : isL (S0 ++ [.lst l]) (.ref S0.length) = true := by
  have g : (S0 ++ [C.lst l])[S0.length]? = some (.lst l) := by rw [List.getElem?_append_right (Nat.le_refl _), Nat.sub_self]; rfl
  show (match (S0 ++ [C.lst l])[S0.length]? with
    | some (.lst ds) => some ds
    | _ => none).isSome = true
  rw [g]
  rfl
def endsOf (q : List Int) (low high : Int) : List Int := low :: (Tk (bel (ev (dif q))) low high ++ [high])
theorem ends_in {q : List Int} {low high x : Int} (h : low ≤ high) (hx : x ∈ endsOf q low high) : low ≤ x ∧ x ≤ high := by
  unfold endsOf at hx
  rcases List.mem_cons.mp hx with rfl | hx
  · omega
  · rcases List.mem_append.mp hx with hx | hx
    · have := (Tk_mem _).mp hx
      omega
    · rw [List.mem_singleton] at hx
      omega
theorem ends_good {q : List Int} {low high : Int} (h : low ≤ high) : Chn (bel (ev (dif q))) (endsOf q low high) := by
  have := Chn_Tk (bel (ev (dif q))) (high - low).toNat low
  rw [show low + ((high - low).toNat : Int) = high by omega] at this
  exact this
theorem ends_inner {q : List Int} {low high : Int} (h : low ≤ high) (b1 : low.natAbs < 1000000) (b2 : high.natAbs < 1000000) (b3 : high - low ≤ 1000) {S0 : Sto} {a0 a1 a2 a3 a4 a8 a9 : Option D} {Q : Out × MS.Env × Sto → Prop}
    (k : ∀ a8 a9, Q (.nx, [a0, a1, a2, a3, a4, some (tp q), some (.fl ((endsOf q low high).map D.int)), some (.ref S0.length), a8, a9], S0 ++ [.lst ((Tk (bel (ev q)) low high).map D.int)])) :
    Wo (sFor (iZipD (aCons (dVar 6) (aCons (dSl (dVar 6) (pAt (dC (.int 1))) pNo) (aNil)))) (gOf (nT 2 (nsCons (nN 8) (nsCons (nN 9) (nsNil))))) (f1b_sign_turns) [a0, a1, a2, a3, a4, some (tp q), some (.fl ((endsOf q low high).map D.int)), some (.ref S0.length), a8, a9] (S0 ++ [.lst []])) Q := by
  have cut : MS.cutD ((endsOf q low high).map D.int) (some 1) none = ((endsOf q low high).drop 1).map D.int := by
    unfold MS.cutD
    rw [HT.sIx_none, show ((1 : Int)) = ((1 : Nat) : Int) from rfl, HT.sIx_nat, List.length_map]
    have : 1 ≤ (endsOf q low high).length := by unfold endsOf; simp
    rw [Nat.min_eq_left this, List.take_of_length_le (by rw [List.length_drop, List.length_map]; omega), List.map_drop]
  have hi : ∀ S, iZipD (aCons (dVar 6) (aCons (dSl (dVar 6) (pAt (dC (.int 1))) pNo) (aNil))) [a0, a1, a2, a3, a4, some (tp q), some (.fl ((endsOf q low high).map D.int)), some (.ref S0.length), a8, a9] S = some (.grd [] (zipD ((endsOf q low high).map D.int) (((endsOf q low high).drop 1).map D.int)), S) := fun S => by
    rw [← cut]
    rfl
  have ch := ends_good (q := q) h
  unfold sFor
  rw [hi, bnd_mk]
  refine wo_for (items := zipD ((endsOf q low high).map D.int) (((endsOf q low high).drop 1).map D.int)) (fun i ρ' S' => ∃ a8 a9, ρ' = [a0, a1, a2, a3, a4, some (tp q), some (.fl ((endsOf q low high).map D.int)), some (.ref S0.length), a8, a9] ∧ ∃ late : List Int, S' = S0 ++ [.lst (late.map D.int)] ∧ late.length ≤ 1000 ∧ ∀ l, (endsOf q low high)[i]? = some l → late = Tk (bel (ev q)) low l) ⟨a8, a9, rfl, [], rfl, by simp, fun l hl => by
    cases hl
    exact (Tk_nil _ fun x h1 h2 => by omega).symm⟩ (fun _ _ _ _ _ => rfl) ?_ ?_
  · rintro i d ρ' S' hd ⟨b8, b9, rfl, late, rfl, hlen, hlate⟩
    obtain ⟨x, y, hx, hy, rfl⟩ := zipD_get hd
    rw [List.getElem?_map, Option.map_eq_some_iff] at hx hy
    obtain ⟨l, hl, rfl⟩ := hx
    obtain ⟨r, hr, rfl⟩ := hy
    rw [List.getElem?_drop, Nat.add_comm] at hr
    have g := Chn_at _ ch hl hr
    have in1 := ends_in h (List.mem_of_getElem? hl)
    have in2 := ends_in h (List.mem_of_getElem? hr)
    have e0 := hlate l hl
    refine wo_of (b := ([a0, a1, a2, a3, a4, some (tp q), some (.fl ((endsOf q low high).map D.int)), some (.ref S0.length), some (.int l), some (.int r)], S0 ++ [.lst (late.map D.int)])) rfl ?_
    have done : ∀ t, Tk (bel (ev q)) l r = t → ∀ l', (endsOf q low high)[i + 1]? = some l' → late ++ t = Tk (bel (ev q)) low l' := fun t ht l' hl' => by
      rw [hr] at hl'
      cases hl'
      rw [e0, ← ht, ← Tk_add _ in1.1 g.1]
    have dg : ∀ x, ev (dif q) x = ev q (x + 1) - ev q x := fun x => dif_ev x q
    have bd : ∀ t, Tk (bel (ev q)) l r = t → (late ++ t).length ≤ 1000 := fun t ht => by
      rw [e0, ← ht, ← Tk_add _ in1.1 g.1]
      have := Tk_len (bel (ev q)) low r
      omega
    unfold f1b_sign_turns
    have c1 : asB (dOp gLt (dVar 8) (dVar 9)) [a0, a1, a2, a3, a4, some (tp q), some (.fl ((endsOf q low high).map D.int)), some (.ref S0.length), some (.int l), some (.int r)] (S0 ++ [.lst (late.map D.int)]) = some (decide (l < r), S0 ++ [.lst (late.map D.int)]) := as_b (op2 rfl rfl rfl)
    by_cases hlr : l < r
    · rw [decide_eq_true hlr] at c1
      have bl := below_ok (p := q) (x := l) (by omega)
      have br := below_ok (p := q) (x := r) (by omega)
      have c2 : asB (dOp gNeA (dCalP F_is_below (aCons (dVar 5) (aCons (dVar 8) (aNil)))) (dCalP F_is_below (aCons (dVar 5) (aCons (dVar 9) (aNil))))) [a0, a1, a2, a3, a4, some (tp q), some (.fl ((endsOf q low high).map D.int)), some (.ref S0.length), some (.int l), some (.int r)] (S0 ++ [.lst (late.map D.int)]) = some (!decide (bel (ev q) l = bel (ev q) r), S0 ++ [.lst (late.map D.int)]) :=
        as_b (op2 (cal2 (d := tp q) (e := .int l) rfl rfl (tp_pure _) rfl bl) (cal2 (d := tp q) (e := .int r) rfl rfl (tp_pure _) rfl br) neA_bl)
      by_cases he : bel (ev q) l = bel (ev q) r
      · rw [decide_eq_true he] at c2
        rw [if_nil ((and_go c1).trans c2), wo_some]
        have n := same_none dg g (Int.le_refl l) g.1 (Int.le_refl r) he
        have := done [] n
        rw [List.append_nil] at this
        exact ⟨_, _, rfl, late, rfl, hlen, this⟩
      · rw [decide_eq_false he] at c2
        obtain ⟨t, f1, f2, f3, f4⟩ := first_ok (p := q) hlr (by omega) (by omega) he
        have n := other_one dg g f2 f3 f4
        rw [if_yes ((and_go c1).trans c2)]
        have ap := append_last (S0 := S0) (l := late) (t := t) (by omega)
        have ct : dCalP F_first_turned (aCons (dVar 5) (aCons (dVar 8) (aCons (dVar 9) (aNil)))) [a0, a1, a2, a3, a4, some (tp q), some (.fl ((endsOf q low high).map D.int)), some (.ref S0.length), some (.int l), some (.int r)] (S0 ++ [.lst (late.map D.int)]) = some (.int t, S0 ++ [.lst (late.map D.int)]) := cal3 (d := tp q) (e := .int l) (i := .int r) rfl rfl rfl (tp_pure _) rfl rfl f1
        refine wo_of (b := (.nx, [a0, a1, a2, a3, a4, some (tp q), some (.fl ((endsOf q low high).map D.int)), some (.ref S0.length), some (.int l), some (.int r)], S0 ++ [.lst ((late ++ [t]).map D.int)])) ?_ ⟨_, _, rfl, late ++ [t], rfl, bd [t] n, done [t] n⟩
        unfold sExpr dMeth
        show bnd (if isL (S0 ++ [.lst (late.map D.int)]) (.ref S0.length) then bnd (aCons (dCalP F_first_turned (aCons (dVar 5) (aCons (dVar 8) (aCons (dVar 9) (aNil))))) aNil [a0, a1, a2, a3, a4, some (tp q), some (.fl ((endsOf q low high).map D.int)), some (.ref S0.length), some (.int l), some (.int r)] (S0 ++ [.lst (late.map D.int)])) fun ds S => gAppend (.ref S0.length) ds S else none) _ = _
        rw [isL_last, if_pos rfl]
        have ac : aCons (dCalP F_first_turned (aCons (dVar 5) (aCons (dVar 8) (aCons (dVar 9) (aNil))))) aNil [a0, a1, a2, a3, a4, some (tp q), some (.fl ((endsOf q low high).map D.int)), some (.ref S0.length), some (.int l), some (.int r)] (S0 ++ [.lst (late.map D.int)]) = some ([.int t], S0 ++ [.lst (late.map D.int)]) := by
          generalize dCalP F_first_turned (aCons (dVar 5) (aCons (dVar 8) (aCons (dVar 9) (aNil)))) = fc at ct ⊢
          unfold aCons
          rw [ct]
          rfl
        rw [ac, bnd_mk, ap, bnd_mk]
    · rw [decide_eq_false hlr] at c1
      rw [if_nil (and_no c1), wo_some]
      have n : Tk (bel (ev q)) l r = [] := Tk_nil _ fun x h1 h2 => by omega
      have := done [] n
      rw [List.append_nil] at this
      exact ⟨_, _, rfl, late, rfl, hlen, this⟩
  · rintro ρ' S' ⟨b8, b9, rfl, late, rfl, hlen, hlate⟩
    rw [hlate high (by
      rw [zipD_length, List.length_map, List.length_map, List.length_drop]
      unfold endsOf
      rw [List.length_cons, List.length_append, List.length_singleton]
      rw [show min ((Tk (bel (ev (dif q))) low high).length + 1 + 1) ((Tk (bel (ev (dif q))) low high).length + 1 + 1 - 1) = (Tk (bel (ev (dif q))) low high).length + 1 by omega]
      rw [List.getElem?_cons_succ, List.getElem?_append_right (Nat.le_refl _), Nat.sub_self]
      rfl)]
    exact k b8 b9
end k53

namespace k53
open PySem PySem.Spec PyProof.Rows L2 MS
def Down : List (List Int) → List Int → Prop
  | [], _ => False
  | [c], q => c = q
  | d :: c :: rs, q => d = dif c ∧ Down (c :: rs) q
theorem Down_at : ∀ {rs : List (List Int)} {q : List Int} {k : Nat} {c d : List Int}, Down rs q → rs[k]? = some d → rs[k + 1]? = some c → d = dif c
  | [], q, k, c, d, h, _, _ => h.elim
  | [a], q, k, c, d, h, _, h2 => by simp at h2
  | a :: b :: rs, q, 0, c, d, h, h1, h2 => by
    cases h1
    cases h2
    exact h.1
  | a :: b :: rs, q, k + 1, c, d, h, h1, h2 => Down_at (rs := b :: rs) h.2 h1 h2
theorem Down_last : ∀ {rs : List (List Int)} {q : List Int}, Down rs q → rs[rs.length - 1]? = some q
  | [], q, h => h.elim
  | [a], q, h => by
    cases h
    rfl
  | a :: b :: rs, q, h => Down_last (rs := b :: rs) h.2
theorem Tk_const (q : List Int) (hq : q.length ≤ 1) (l r : Int) : Tk (bel (ev (dif q))) l r = [] := by
  have : dif q = [] := List.eq_nil_of_length_eq_zero (by rw [dif_len]; omega)
  rw [this]
  exact Tk_nil _ fun x _ _ => rfl
theorem last_ix {rs : List (List Int)} {c : List Int} {S : Sto} : gIx (.ref 0) (.int (-1)) (.lst ((c :: rs).map tp).reverse :: S) = some (tp c, .lst ((c :: rs).map tp).reverse :: S) := by
  show (atI ((c :: rs).map tp).reverse (-1)).map (fun d => (d, C.lst ((c :: rs).map tp).reverse :: S)) = _
  have : atI ((c :: rs).map tp).reverse (-1) = some (tp c) := by
    unfold atI ixN
    have hl : ((c :: rs).map tp).reverse.length = rs.length + 1 := by simp
    rw [hl, if_neg (by decide), if_pos (by omega), Option.bind_some, show ((-1 : Int) + ((rs.length + 1 : Nat) : Int)).toNat = rs.length by omega]
    rw [List.map_cons, List.reverse_cons, List.getElem?_append_right (by simp), List.length_reverse, List.length_map, Nat.sub_self]
    rfl
  rw [this]
  rfl
theorem fit_tp (n : Nat) (p : List Int) : D.fit n (tp p) = true := fit_ints (n := n) (ns := p)
theorem turns_turn {q t : List Int} {low high : Int} (h : low ≤ high) (b1 : low.natAbs < 1000000) (b2 : high.natAbs < 1000000) (b3 : high - low ≤ 1000) (ht : t = Tk (bel (ev (dif q))) low high) {S : Sto} {a0 a3 a6 a7 a8 a9 : Option D} {Q : Out × MS.Env × Sto → Prop}
    (k : ∀ a6 a7 a8 a9 S, Q (.nx, [a0, some (.int low), some (.int high), a3, some (.fl ((Tk (bel (ev q)) low high).map D.int)), some (tp q), a6, a7, a8, a9], S)) :
    Wo (f2b_sign_turns [a0, some (.int low), some (.int high), a3, some (.fl (t.map D.int)), some (tp q), a6, a7, a8, a9] S) Q := by
  have lt : t.length ≤ 1000 := by
    rw [ht]
    have := Tk_len (bel (ev (dif q))) low high
    omega
  have ee : D.int low :: (t.map D.int ++ [D.int high]) = (endsOf q low high).map D.int := by
    rw [ht]
    unfold endsOf
    rw [List.map_cons, List.map_append]
    rfl
  unfold f2b_sign_turns
  refine wo_step (ρ' := [a0, some (.int low), some (.int high), a3, some (.fl (t.map D.int)), some (tp q), some (.fl ((endsOf q low high).map D.int)), some (.ref S.length), a8, a9]) (S' := S ++ [.lst []]) ?_ ?_
  · have e1 : dLst (aCons (dVar 1) (aStar (dVar 4) (aCons (dVar 2) (aNil)))) [a0, some (.int low), some (.int high), a3, some (.fl (t.map D.int)), some (tp q), a6, a7, a8, a9] S = some (.fl ((endsOf q low high).map D.int), S) := by
      show (if szOk (D.int low :: (t.map D.int ++ [D.int high])) then some (D.fl (D.int low :: (t.map D.int ++ [D.int high])), S) else none) = _
      have sz : szOk (D.int low :: (t.map D.int ++ [D.int high])) = true := decide_eq_true (by
        rw [sizeLine_eq, List.length_cons, List.length_append, List.length_map]
        show t.length + 1 + 1 ≤ 16777216
        omega)
      rw [sz, ee]
      rfl
    generalize dLst (aCons (dVar 1) (aStar (dVar 4) (aCons (dVar 2) (aNil)))) = t1 at e1 ⊢
    unfold sPar
    show bnd (bnd (t1 [a0, some (.int low), some (.int high), a3, some (.fl (t.map D.int)), some (tp q), a6, a7, a8, a9] S) _) _ = _
    rw [e1, bnd_mk]
    show bnd (bnd (bnd (if szOk ([] : List D) then (if D.fitL S.length [] then some (D.ref S.length, S ++ [.lst []]) else none) else none) _) _) _ = _
    rw [szOk_0]
    rfl
  refine wo_seqN fun K k1 => ?_
  refine ends_inner h b1 b2 b3 fun b8 b9 => ?_
  refine k1 _ _ ?_
  clear k1
  have g : (S ++ [C.lst ((Tk (bel (ev q)) low high).map D.int)])[S.length]? = some (.lst ((Tk (bel (ev q)) low high).map D.int)) := by rw [List.getElem?_append_right (Nat.le_refl _), Nat.sub_self]; rfl
  refine wo_of (asg (d := .fl ((Tk (bel (ev q)) low high).map D.int)) (call1 (d := .ref S.length) rfl ?_)) (k _ _ _ _ _)
  show (match (S ++ [C.lst ((Tk (bel (ev q)) low high).map D.int)])[S.length]? with
    | some (.lst ds) => some ds
    | _ => none).map (fun es => (D.fl es, S ++ [C.lst ((Tk (bel (ev q)) low high).map D.int)])) = _
  rw [g]
  rfl
theorem turns_ok {p : List Int} {low high : Int} (hl : p.length ≤ 400) (h : low ≤ high) (b1 : low.natAbs < 1000000) (b2 : high.natAbs < 1000000) (b3 : high - low ≤ 1000) : F_sign_turns [tp p, .int low, .int high] = some (tp (Tk (bel (ev p)) low high)) := by
  refine bodyP_run rfl (tp_pure _) ?_
  show Wo (b_sign_turns [some (tp p), some (.int low), some (.int high), none, none, none, none, none, none, none] []) _
  have ep : ∀ l r, Tk (bel (ev (strip p))) l r = Tk (bel (ev p)) l r := fun l r => by
    have : ev (strip p) = ev p := funext fun x => strip_ev x p
    rw [this]
  have sl := strip_len p
  unfold b_sign_turns
  refine wo_step (ρ' := [some (tp p), some (.int low), some (.int high), some (.ref 0), none, none, none, none, none, none]) (S' := [.lst ([strip p].map tp).reverse]) (asg (d := .ref 0) ?_) ?_
  · have e1 := cal1 (F := F_without_noughts) (f := dVar 0) (ρ := [some (tp p), some (.int low), some (.int high), none, none, none, none, none, none, none]) (S := []) (d := tp p) rfl (tp_pure _) (strip_ok (by omega))
    generalize dCalP F_without_noughts (aCons (dVar 0) (aNil)) = t1 at e1 ⊢
    unfold dCell aCons
    rw [e1, bnd_mk]
    show (if szOk [tp (strip p)] then (if (D.fit 0 (tp (strip p)) && true) then some (D.ref 0, [C.lst [tp (strip p)]]) else none) else none) = _
    rw [szOk_1, fit_tp]
    rfl
  refine wo_mid (fun ρ' S' => ∃ c rs, ρ' = [some (tp p), some (.int low), some (.int high), some (.ref 0), none, none, none, none, none, none] ∧ S' = [.lst ((c :: rs).map tp).reverse] ∧ Down (c :: rs) (strip p) ∧ c.length ≤ 1) ?_ ?_
  · refine wo_while (fun m ρ' S' => ∃ c rs, ρ' = [some (tp p), some (.int low), some (.int high), some (.ref 0), none, none, none, none, none, none] ∧ S' = [.lst ((c :: rs).map tp).reverse] ∧ Down (c :: rs) (strip p) ∧ Full c ∧ c.length + rs.length ≤ 400 ∧ m = c.length) (m := (strip p).length) ⟨strip p, [], rfl, rfl, rfl, strip_full p, by show (strip p).length + 0 ≤ 400; omega, rfl⟩ ?_ ?_
    · omega
    · rintro m ρ' S' ⟨c, rs, rfl, rfl, hd, hf, hb, rfl⟩
      have ix : dOp gIx (dVar 3) (dUn gNeg (dC (.int 1))) [some (tp p), some (.int low), some (.int high), some (.ref 0), none, none, none, none, none, none] [.lst ((c :: rs).map tp).reverse] = some (tp c, [.lst ((c :: rs).map tp).reverse]) := op2 rfl rfl last_ix
      have e1 : w1c_sign_turns [some (tp p), some (.int low), some (.int high), some (.ref 0), none, none, none, none, none, none] [.lst ((c :: rs).map tp).reverse] = some (decide ((1 : Int) < (c.length : Nat)), [.lst ((c :: rs).map tp).reverse]) := as_b (op2 (call1 (r := .int (c.length : Nat)) ix (by
        show some (D.int ((c.map D.int).length : Nat), _) = _
        rw [List.length_map])) rfl rfl)
      rw [e1]
      refine ⟨_, rfl, fun z => ?_, fun z => ?_⟩
      · have z : (1 : Int) < (c.length : Nat) := of_decide_eq_true z
        obtain ⟨d, d1, d2, d3, d4⟩ := diff_ok (p := c) (by omega)
        rw [strip_of hf] at d4
        have dl : d.length = c.length - 1 := by rw [d4, dif_len]
        have cd := cal1 (F := F_difference_of) ix (tp_pure c) d1
        refine wo_of (b := (.nx, [some (tp p), some (.int low), some (.int high), some (.ref 0), none, none, none, none, none, none], [.lst ((d :: c :: rs).map tp).reverse])) ?_ ⟨d.length, by omega, d, c :: rs, rfl, rfl, ⟨d4, hd⟩, d2, by rw [List.length_cons]; omega, rfl⟩
        have ac : aCons (dCalP F_difference_of (aCons (dOp gIx (dVar 3) (dUn gNeg (dC (.int 1)))) (aNil))) aNil [some (tp p), some (.int low), some (.int high), some (.ref 0), none, none, none, none, none, none] [.lst ((c :: rs).map tp).reverse] = some ([tp d], [.lst ((c :: rs).map tp).reverse]) := by
          generalize dCalP F_difference_of (aCons (dOp gIx (dVar 3) (dUn gNeg (dC (.int 1)))) (aNil)) = fc at cd ⊢
          unfold aCons
          rw [cd]
          rfl
        unfold w1b_sign_turns sExpr dMeth
        show bnd (bnd (aCons (dCalP F_difference_of (aCons (dOp gIx (dVar 3) (dUn gNeg (dC (.int 1)))) (aNil))) aNil [some (tp p), some (.int low), some (.int high), some (.ref 0), none, none, none, none, none, none] [.lst ((c :: rs).map tp).reverse]) fun ds S => gAppend (.ref 0) ds S) _ = _
        rw [ac, bnd_mk]
        show bnd (if ((c :: rs).map tp).reverse.length < sizeLine ∧ D.fit 0 (tp d) = true then some (D.non, [C.lst (((c :: rs).map tp).reverse ++ [tp d])]) else none) _ = _
        rw [if_pos ⟨by rw [sizeLine_eq, List.length_reverse, List.length_map, List.length_cons]; omega, fit_tp 0 d⟩, bnd_mk]
        simp only [List.map_cons, List.reverse_cons]
      · have z : ¬ (1 : Int) < (c.length : Nat) := of_decide_eq_false z
        exact ⟨rfl, c, rs, rfl, rfl, hd, by omega⟩
  rintro ρ' S' ⟨c, rs, rfl, rfl, hd, hc⟩
  refine wo_step (ρ' := [some (tp p), some (.int low), some (.int high), some (.ref 0), some (.fl []), none, none, none, none, none]) (S' := [.lst ((c :: rs).map tp).reverse]) (asg (d := .fl []) (by
    show (if szOk ([] : List D) then some (D.fl [], _) else none) = _
    rw [szOk_0]
    rfl)) ?_
  refine wo_mid (fun ρ' S' => ∃ a5 a6 a7 a8 a9, ρ' = [some (tp p), some (.int low), some (.int high), some (.ref 0), some (.fl ((Tk (bel (ev p)) low high).map D.int)), a5, a6, a7, a8, a9]) ?_ ?_
  · have hi : iSeq (dRev (dVar 3)) [some (tp p), some (.int low), some (.int high), some (.ref 0), some (.fl []), none, none, none, none, none] [.lst ((c :: rs).map tp).reverse] = some (.fix ((c :: rs).map tp), [.lst ((c :: rs).map tp).reverse]) := by
      show some (Src.fix ((c :: rs).map tp).reverse.reverse, [C.lst ((c :: rs).map tp).reverse]) = _
      rw [List.reverse_reverse]
    unfold sFor
    rw [hi, bnd_mk]
    refine wo_for (items := (c :: rs).map tp) (fun i ρ' S' => ∃ t a5 a6 a7 a8 a9, ρ' = [some (tp p), some (.int low), some (.int high), some (.ref 0), some (.fl (t.map D.int)), a5, a6, a7, a8, a9] ∧ ∀ e, (dif c :: c :: rs)[i]? = some e → t = Tk (bel (ev e)) low high) ⟨[], none, none, none, none, none, rfl, fun e he => by
      cases he
      exact (Tk_const c hc low high).symm⟩ (fun _ _ _ _ _ => rfl) ?_ ?_
    · rintro i d ρ' S' hi ⟨t, a5, a6, a7, a8, a9, rfl, ht⟩
      rw [List.getElem?_map, Option.map_eq_some_iff] at hi
      obtain ⟨q, hq, rfl⟩ := hi
      have hq' : (dif c :: c :: rs)[i]? = some (dif q) := by
        cases i with
        | zero => cases hq; rfl
        | succ i =>
          have hlt := (List.getElem?_eq_some_iff.mp hq).1
          have := Down_at hd (k := i) (List.getElem?_eq_getElem (by omega)) hq
          rw [List.getElem?_cons_succ, List.getElem?_eq_getElem (by omega), this]
      refine wo_of (b := ([some (tp p), some (.int low), some (.int high), some (.ref 0), some (.fl (t.map D.int)), some (tp q), a6, a7, a8, a9], S')) rfl ?_
      refine turns_turn h b1 b2 b3 (ht _ hq') fun b6 b7 b8 b9 S2 => ?_
      refine ⟨_, _, _, _, _, _, rfl, fun e he => ?_⟩
      rw [List.getElem?_cons_succ, hq] at he
      cases he
      rfl
    · rintro ρ' S' ⟨t, a5, a6, a7, a8, a9, rfl, ht⟩
      have := ht (strip p) (by
        rw [List.length_map, List.length_cons, List.getElem?_cons_succ]
        have := Down_last hd
        rwa [List.length_cons, Nat.add_sub_cancel] at this)
      rw [this, ep]
      exact ⟨rfl, a5, a6, a7, a8, a9, rfl⟩
  · rintro ρ' S' ⟨a5, a6, a7, a8, a9, rfl⟩
    exact wo_of (b := (.rt (tp (Tk (bel (ev p)) low high)), _, S')) (by unfold sRet; rw [call1 (d := .fl ((Tk (bel (ev p)) low high).map D.int)) rfl ctup_fl]; rfl) rfl
end k53

namespace k53
open PySem PySem.Spec PyProof.Rows L2 MS
/-- the keys that a dict comprehension over ints gathers -/
def kvI (l : List Int) : List (Key × D) := l.map fun i => (.inl i, .bl true)
def addI (l : List Int) (i : Int) : List Int := if i ∈ l then l else l ++ [i]
theorem put_I (l : List Int) (i : Int) : dput (kvI l) (.inl i) (.bl true) = kvI (addI l i) := by
  have any : ((kvI l).any fun kv => decide (kv.1 = (.inl i : Key))) = decide (i ∈ l) := by
    induction l with
    | nil => rfl
    | cons a l ih =>
      show (decide ((.inl a : Key) = .inl i) || (kvI l).any _) = _
      rw [ih]
      have : ((.inl a : Key) = .inl i) ↔ i = a := ⟨fun z => (Sum.inl.inj z).symm, fun z => by rw [z]⟩
      simp only [this, List.mem_cons, Bool.decide_or]
  unfold dput addI
  rw [any]
  by_cases h : i ∈ l
  · rw [if_pos (decide_eq_true h), if_pos h]
    unfold kvI
    rw [List.map_map]
    refine List.map_congr_left fun a _ => ?_
    show (if (.inl a : Key) = .inl i then ((.inl a : Key), D.bl true) else (.inl a, .bl true)) = _
    split <;> rfl
  · rw [if_neg (by simpa using h), if_neg h]
    unfold kvI
    rw [List.map_append]
    rfl
theorem addI_mem {l : List Int} {i x : Int} : x ∈ addI l i ↔ x ∈ l ∨ x = i := by
  unfold addI
  by_cases h : i ∈ l
  · rw [if_pos h]
    constructor
    · exact .inl
    · rintro (h' | rfl)
      · exact h'
      · exact h
  · rw [if_neg h, List.mem_append, List.mem_singleton]
theorem addI_nodup {l : List Int} (h : l.Nodup) (i : Int) : (addI l i).Nodup := by
  unfold addI
  by_cases hi : i ∈ l
  · rw [if_pos hi]; exact h
  · rw [if_neg hi, List.nodup_append]
    exact ⟨h, by simp, fun a ha b hb => by rw [List.mem_singleton.mp hb]; exact fun z => hi (z ▸ ha)⟩
theorem addI_len (l : List Int) (i : Int) : (addI l i).length ≤ l.length + 1 := by
  unfold addI
  split
  · omega
  · rw [List.length_append, List.length_singleton]; omega
theorem fold_mem : ∀ (ys : List Int) (l : List Int) (x : Int), x ∈ ys.foldl addI l ↔ x ∈ l ∨ x ∈ ys
  | [], l, x => by simp
  | y :: ys, l, x => by
    rw [List.foldl_cons, fold_mem ys, addI_mem, List.mem_cons, or_assoc]
theorem fold_nodup : ∀ (ys : List Int) {l : List Int}, l.Nodup → (ys.foldl addI l).Nodup
  | [], l, h => h
  | y :: ys, l, h => fold_nodup ys (addI_nodup h y)
theorem intKeys_kvI : ∀ l : List Int, intKeys (kvI l) = some l
  | [] => rfl
  | i :: l => by
    show (intKeys (kvI l)).map (i :: ·) = _
    rw [intKeys_kvI l]
    rfl
/-- {x: True for x in ..} over a tuple of ints -/
theorem dict_of {fi : IDen} {ys : List Int} {ρ : MS.Env} {S : Sto} (hi : fi ρ S = some (.fix (ys.map D.int), S)) (hl : ys.length ≤ 1000) (h9 : 10 ≤ ρ.length) : dDc fi (nN 9) (tYesD) (dVar 9) (dC (.bl true)) [9] ρ S = some (.ref S.length, S ++ [.dct (kvI (ys.foldl addI []))]) := by
  have key : ∀ (zs : List Int) (l : List Int), l.length + zs.length ≤ 1000 → dcL (.fix (ys.map D.int)) (nN 9) (tYesD) (dVar 9) (dC (.bl true)) S.length (zs.map D.int) (wipeE ρ [9]) (S ++ [.dct (kvI l)]) = some (S ++ [.dct (kvI (zs.foldl addI l))]) := by
    intro zs
    induction zs with
    | nil => intro l _; rfl
    | cons z zs ih =>
      intro l hb
      rw [List.length_cons] at hb
      have la := addI_len l z
      have g : ((wipeE ρ [9]).set 9 (some (.int z)))[9]? = some (some (.int z)) := List.getElem?_set_self (by show 9 < (ρ.set 9 none).length; rw [List.length_set]; omega)
      have gs : (S ++ [C.dct (kvI l)])[S.length]? = some (.dct (kvI l)) := by rw [List.getElem?_append_right (Nat.le_refl _), Nat.sub_self]; rfl
      have da : dctAt (S ++ [C.dct (kvI l)]) (.ref S.length) = some (kvI l) := by
        show (match (S ++ [C.dct (kvI l)])[S.length]? with
          | some (.dct kvs) => some kvs
          | _ => none) = _
        rw [gs]
      have st : setItemD (.ref S.length) (.int z) (.bl true) (S ++ [.dct (kvI l)]) = some (S ++ [.dct (kvI (addI l z))]) := by
        unfold setItemD
        rw [da]
        show (if (kvI l).length < sizeLine ∧ D.fit S.length (.bl true) = true then some ((S ++ [C.dct (kvI l)]).set S.length (.dct (dput (kvI l) (.inl z) (.bl true)))) else none) = _
        rw [if_pos ⟨by rw [sizeLine_eq]; unfold kvI; rw [List.length_map]; omega, rfl⟩, put_I, List.set_append_right _ _ (Nat.le_refl _), Nat.sub_self]
        rfl
      rw [List.map_cons]
      unfold dcL
      rw [if_pos (show Src.ok (.fix (ys.map D.int)) (S ++ [.dct (kvI l)]) = true from rfl)]
      simp only [nN, tYesD, bnd_mk, if_true, dVar, g, dC, st, da, Option.isSome_some]
      exact ih (addI l z) (by omega)
  unfold dDc
  rw [hi, bnd_mk, show Src.items (.fix (ys.map D.int)) = ys.map D.int from rfl]
  have := key ys [] (by simpa using hl)
  rw [show kvI [] = [] from rfl] at this
  rw [this]
  rfl
/-- the keys, ascending -/
theorem sorted_keys {f : Int → Int} {low high : Int} (h : low ≤ high) {A B : List Int} (hA : A = Tk (bel f) low high) (hB : B = Tk (bel fun y => -f y) low high) : ((A ++ B).foldl addI []).Perm (Tk (sid f) low high) := by
  rw [List.perm_ext_iff_of_nodup (fold_nodup _ List.nodup_nil) ((Tk_lt (sid f) low high).imp fun {a b} z => by omega)]
  intro x
  rw [fold_mem, List.mem_append, hA, hB, sid_mem]
  simp
theorem sorted_dict {f : Int → Int} {low high : Int} (h : low ≤ high) (h2 : high - low < 64) {A B : List Int} (hA : A = Tk (bel f) low high) (hB : B = Tk (bel fun y => -f y) low high) {S : Sto} : cSortedH [.ref S.length] (S ++ [.dct (kvI ((A ++ B).foldl addI []))]) = some (.fl ((Tk (sid f) low high).map D.int), S ++ [.dct (kvI ((A ++ B).foldl addI []))]) := by
  have pm := sorted_keys h hA hB
  have pw : (Tk (sid f) low high).Pairwise (· ≤ ·) := (Tk_lt (sid f) low high).imp fun {a b} z => by omega
  have so : Tk (sid f) low high = isort leI ((A ++ B).foldl addI []) := sortI_eq pm.symm pw
  have lk : ((A ++ B).foldl addI []).length < 64 := by
    rw [pm.length_eq]
    have := Tk_len (sid f) low high
    omega
  generalize (A ++ B).foldl addI [] = ks at *
  have gs : (S ++ [C.dct (kvI ks)])[S.length]? = some (.dct (kvI ks)) := by rw [List.getElem?_append_right (Nat.le_refl _), Nat.sub_self]; rfl
  have da : dctAt (S ++ [C.dct (kvI ks)]) (.ref S.length) = some (kvI ks) := by
    show (match (S ++ [C.dct (kvI ks)])[S.length]? with
      | some (.dct kvs) => some kvs
      | _ => none) = _
    rw [gs]
  show (match dctAt (S ++ [C.dct (kvI ks)]) (.ref S.length) with
    | some kvs => (intKeys kvs).bind fun ks' => if ks'.length < 64 then some (D.fl ((isort leI ks').map .int), S ++ [C.dct (kvI ks)]) else none
    | none => cSortedG [.ref S.length] (S ++ [C.dct (kvI ks)])) = _
  rw [da]
  show (intKeys (kvI ks)).bind _ = _
  rw [intKeys_kvI, Option.bind_some, if_pos lk, so]
end k53

namespace k53
open PySem PySem.Spec PyProof.Rows L2 MS
theorem Chn_one {α : Type} [DecidableEq α] (κ : Int → α) (n : Nat) : ∀ l : Int, Chn κ (l :: (Tk κ l (l + n) ++ [l + n + 1])) := by
  induction n with
  | zero =>
    intro l
    rw [Tk_nil κ fun x h1 h2 => by omega]
    exact ⟨⟨by omega, fun x h1 h2 => by rw [show x = l by omega]⟩, True.intro⟩
  | succ n ih =>
    intro l
    have ih := ih (l + 1)
    have e : l + ((n + 1 : Nat) : Int) = l + 1 + (n : Int) := by omega
    rw [e, Tk_add κ (a := l) (b := l + 1) (by omega) (by omega)]
    by_cases h : κ (l + 1) = κ l
    · rw [Tk_nil κ (l := l) (r := l + 1) fun x h1 h2 => by
        have : x = l + 1 := by omega
        rw [this, show l + 1 - 1 = l by omega]
        exact h]
      rw [List.nil_append]
      generalize Tk κ (l + 1) (l + 1 + n) ++ [l + 1 + (n : Int) + 1] = ys at ih ⊢
      cases ys with
      | nil => exact True.intro
      | cons y ys =>
        refine ⟨⟨by have := ih.1.1; omega, fun x h1 h2 => ?_⟩, ih.2⟩
        by_cases hx : x = l
        · rw [hx]
        · rw [ih.1.2 x (by omega) h2, h]
    · rw [show Tk κ l (l + 1) = [l + 1] from by
        have := Tk_one κ (t := l + 1) (by rw [show l + 1 - 1 = l by omega]; exact h)
        rwa [show l + 1 - 1 = l by omega] at this]
      exact ⟨⟨by omega, fun x h1 h2 => by rw [show x = l by omega]⟩, ih⟩
def placesOf (f : Int → Int) (low high : Int) : List Int := low :: (Tk (sid f) low high ++ [high + 1])
theorem places_in {f : Int → Int} {low high x : Int} (h : low ≤ high) (hx : x ∈ placesOf f low high) : low ≤ x ∧ x ≤ high + 1 := by
  unfold placesOf at hx
  rcases List.mem_cons.mp hx with rfl | hx
  · omega
  · rcases List.mem_append.mp hx with hx | hx
    · have := (Tk_mem _).mp hx
      omega
    · rw [List.mem_singleton] at hx
      omega
theorem places_good {f : Int → Int} {low high : Int} (h : low ≤ high) : Chn (sid f) (placesOf f low high) := by
  have := Chn_one (sid f) (high - low).toNat low
  rw [show low + ((high - low).toNat : Int) = high by omega] at this
  exact this
theorem upto_up (l : Int) (n : Nat) : upto l n = (up l n).map D.int := by
  unfold upto up
  rw [List.map_map]
  rfl
theorem roots_loop {p : List Int} {low high : Int} (h : low ≤ high) (b1 : low.natAbs < 1000000) (b2 : high.natAbs < 1000000) (b3 : high - low ≤ 1000) {c1 : MS.C} {a1 a2 a4 a5 a7 a8 a9 : Option D} {Q : Out × MS.Env × Sto → Prop}
    (k : ∀ a7 a8, Q (.nx, [some (tp p), a1, a2, some (.fl ((placesOf (ev p) low high).map D.int)), a4, a5, some (.ref 0), a7, a8, a9], [.lst (((up low (high + 1 - low).toNat).filter (zer (ev p))).map D.int), c1])) :
    Wo (sFor (iZipD (aCons (dVar 3) (aCons (dSl (dVar 3) (pAt (dC (.int 1))) pNo) (aNil)))) (gOf (nT 2 (nsCons (nN 7) (nsCons (nN 8) (nsNil))))) (f1b_whole_roots) [some (tp p), a1, a2, some (.fl ((placesOf (ev p) low high).map D.int)), a4, a5, some (.ref 0), a7, a8, a9] [.lst [], c1]) Q := by
  have cut : MS.cutD ((placesOf (ev p) low high).map D.int) (some 1) none = ((placesOf (ev p) low high).drop 1).map D.int := by
    unfold MS.cutD
    rw [HT.sIx_none, show ((1 : Int)) = ((1 : Nat) : Int) from rfl, HT.sIx_nat, List.length_map]
    have : 1 ≤ (placesOf (ev p) low high).length := by unfold placesOf; simp
    rw [Nat.min_eq_left this, List.take_of_length_le (by rw [List.length_drop, List.length_map]; omega), List.map_drop]
  have hi : ∀ S, iZipD (aCons (dVar 3) (aCons (dSl (dVar 3) (pAt (dC (.int 1))) pNo) (aNil))) [some (tp p), a1, a2, some (.fl ((placesOf (ev p) low high).map D.int)), a4, a5, some (.ref 0), a7, a8, a9] S = some (.grd [] (zipD ((placesOf (ev p) low high).map D.int) (((placesOf (ev p) low high).drop 1).map D.int)), S) := fun S => by
    rw [← cut]
    rfl
  have ch := places_good (f := ev p) h
  unfold sFor
  rw [hi, bnd_mk]
  refine wo_for (items := zipD ((placesOf (ev p) low high).map D.int) (((placesOf (ev p) low high).drop 1).map D.int)) (fun i ρ' S' => ∃ a7 a8, ρ' = [some (tp p), a1, a2, some (.fl ((placesOf (ev p) low high).map D.int)), a4, a5, some (.ref 0), a7, a8, a9] ∧ ∃ fd : List Int, S' = [.lst (fd.map D.int), c1] ∧ fd.length ≤ 2000 ∧ ∀ l, (placesOf (ev p) low high)[i]? = some l → fd = (up low (l - low).toNat).filter (zer (ev p))) ⟨a7, a8, rfl, [], rfl, by simp, fun l hl => by
    cases hl
    rw [show (low - low).toNat = 0 by omega]
    rfl⟩ (fun _ _ _ _ _ => rfl) ?_ ?_
  · rintro i d ρ' S' hd ⟨b7, b8, rfl, fd, rfl, hlen, hfd⟩
    obtain ⟨x, y, hx, hy, rfl⟩ := zipD_get hd
    rw [List.getElem?_map, Option.map_eq_some_iff] at hx hy
    obtain ⟨l, hl, rfl⟩ := hx
    obtain ⟨r, hr, rfl⟩ := hy
    rw [List.getElem?_drop, Nat.add_comm] at hr
    have g := Chn_at _ ch hl hr
    have in1 := places_in h (List.mem_of_getElem? hl)
    have in2 := places_in h (List.mem_of_getElem? hr)
    have e0 := hfd l hl
    have zp := zer_piece g
    have done : ∀ t, (up l (r - l).toNat).filter (zer (ev p)) = t → (fd ++ t).length ≤ 2000 ∧ ∀ l', (placesOf (ev p) low high)[i + 1]? = some l' → fd ++ t = (up low (l' - low).toNat).filter (zer (ev p)) := fun t ht => by
      have ee : fd ++ t = (up low (r - low).toNat).filter (zer (ev p)) := by rw [e0, ← ht, ← zer_add in1.1 g.1]
      refine ⟨?_, fun l' hl' => ?_⟩
      · rw [ee]
        have := List.length_filter_le (zer (ev p)) (up low (r - low).toNat)
        rw [up_len] at this
        omega
      · rw [hr] at hl'
        cases hl'
        exact ee
    refine wo_of (b := ([some (tp p), a1, a2, some (.fl ((placesOf (ev p) low high).map D.int)), a4, a5, some (.ref 0), some (.int l), some (.int r), a9], [.lst (fd.map D.int), c1])) rfl ?_
    have pa := poly_at_ok (p := p) (x := l) (by omega)
    have c : asB (dOp gEqA (dCalP F_poly_at (aCons (dVar 0) (aCons (dVar 7) (aNil)))) (dC (.int 0))) [some (tp p), a1, a2, some (.fl ((placesOf (ev p) low high).map D.int)), a4, a5, some (.ref 0), some (.int l), some (.int r), a9] [.lst (fd.map D.int), c1] = some (decide (ev p l = 0), [.lst (fd.map D.int), c1]) := as_b (op2 (cal2 (d := tp p) (e := .int l) rfl rfl (tp_pure _) rfl pa) rfl eqA_int)
    unfold f1b_whole_roots
    by_cases hz : ev p l = 0
    · rw [decide_eq_true hz] at c
      rw [if_pos hz] at zp
      obtain ⟨d1, d2⟩ := done _ zp
      rw [if_yes c]
      refine wo_of (b := (.nx, [some (tp p), a1, a2, some (.fl ((placesOf (ev p) low high).map D.int)), a4, a5, some (.ref 0), some (.int l), some (.int r), a9], [.lst ((fd ++ up l (r - l).toNat).map D.int), c1])) ?_ ⟨_, _, rfl, _, rfl, d1, d2⟩
      have rok : rgOk l r = true := by
        unfold rgOk
        rw [Bool.and_eq_true, Bool.and_eq_true, Bool.and_eq_true, Bool.and_eq_true]
        refine ⟨⟨⟨⟨decide_eq_true ?_, decide_eq_true ?_⟩, decide_eq_true ?_⟩, decide_eq_true ?_⟩, decide_eq_true ?_⟩ <;> omega
      unfold sExpr dMeth
      show bnd (bnd (bnd (if rgOk l r then some (D.fl (rgD l r), [C.lst (fd.map D.int), c1]) else none) _) fun ds S => gExtend (.ref 0) ds S) _ = _
      rw [rok, if_pos rfl, bnd_mk]
      show bnd (if (fd.map D.int).length + (rgD l r).length ≤ sizeLine ∧ D.fitL 0 (rgD l r) = true then some (D.non, [C.lst (fd.map D.int ++ rgD l r), c1]) else none) _ = _
      have er : rgD l r = (up l (r - l).toNat).map D.int := upto_up l (r - l).toNat
      rw [er, if_pos ⟨by
        rw [sizeLine_eq, List.length_map, List.length_map, up_len]
        omega, fit_ints⟩, bnd_mk, List.map_append]
    · rw [decide_eq_false hz] at c
      rw [if_neg hz] at zp
      obtain ⟨d1, d2⟩ := done _ zp
      rw [List.append_nil] at d1 d2
      rw [if_nil c, wo_some]
      exact ⟨_, _, rfl, fd, rfl, d1, d2⟩
  · rintro ρ' S' ⟨b7, b8, rfl, fd, rfl, hlen, hfd⟩
    rw [hfd (high + 1) (by
      rw [zipD_length, List.length_map, List.length_map, List.length_drop]
      unfold placesOf
      rw [List.length_cons, List.length_append, List.length_singleton]
      rw [show min ((Tk (sid (ev p)) low high).length + 1 + 1) ((Tk (sid (ev p)) low high).length + 1 + 1 - 1) = (Tk (sid (ev p)) low high).length + 1 by omega]
      rw [List.getElem?_cons_succ, List.getElem?_append_right (Nat.le_refl _), Nat.sub_self]
      rfl)]
    exact k b7 b8
def rootsOf (p : List Int) (m : Int) : List Int := (up (0 - m) (m + 1 - (0 - m)).toNat).filter (zer (ev p))
theorem chain_ok {fa fb fc : EDen} {a b c : Int} {ρ : MS.Env} {S : Sto} (h1 : fa ρ S = some (.int a, S)) (h2 : fb ρ S = some (.int b, S)) (h3 : fc ρ S = some (.int c, S)) : dChain gLe gLe fa fb fc ρ S = some (.bl (decide (a ≤ b) && decide (b ≤ c)), S) := by
  unfold dChain
  rw [h1, bnd_mk, h2, bnd_mk, show gLe (.int a) (.int b) S = some (.bl (decide (a ≤ b)), S) from rfl, bnd_mk]
  by_cases q : a ≤ b
  · rw [decide_eq_true q, Bool.true_and]
    show bnd (fc ρ S) _ = _
    rw [h3]
    rfl
  · rw [decide_eq_false q]
    rfl
theorem roots_rest {p : List Int} {m low high : Int} (hl : p.length ≤ 400) (h0 : 0 ≤ m) (h1 : m ≤ 30) (hlow : low = -m - 1) (hhigh : high = m + 1) : Wo ((sSeq (sAsg (dDc (iSeq (dTup (aStar (dCalP F_sign_turns (aCons (dVar 0) (aCons (dVar 4) (aCons (dVar 5) (aNil))))) (aStar (dCalP F_sign_turns (aCons (dCalP F_poly_times (aCons (dVar 0) (aCons (dUn gNeg (dC (.int 1))) (aNil)))) (aCons (dVar 4) (aCons (dVar 5) (aNil))))) (aNil))))) (nN 9) (tYesD) (dVar 9) (dC (.bl true)) [9]) (gN 2)) <| sSeq (sAsg (dLst (aCons (dVar 4) (aStar (dCB cSortedH (aCons (dVar 2) (aNil))) (aCons (dOp gAdd (dVar 5) (dC (.int 1))) (aNil))))) (gN 3)) <| sSeq (sFor (iZipD (aCons (dVar 3) (aCons (dSl (dVar 3) (pAt (dC (.int 1))) pNo) (aNil)))) (gOf (nT 2 (nsCons (nN 7) (nsCons (nN 8) (nsNil))))) (f1b_whole_roots)) <| sRet (dCB cTuple (aCons (dLc (iSeq (dVar 6)) (nN 9) (asB (dChain gLe gLe (dUn gNeg (dVar 1)) (dVar 9) (dVar 1))) (dVar 9) [9]) (aNil)))) [some (tp p), some (.int m), none, none, some (.int low), some (.int high), some (.ref 0), none, none, none] [.lst []]) fun r => r.1 = .rt (tp (rootsOf p m)) := by
  have zc : ((up low (high + 1 - low).toNat).filter (zer (ev p))).filter (fun x => decide (-m ≤ x) && decide (x ≤ m)) = (up (0 - m) (m + 1 - (0 - m)).toNat).filter (zer (ev p)) := by
    rw [hlow, hhigh]
    exact zer_cut h0
  have hA := turns_ok (p := p) (low := low) (high := high) hl (by omega) (by omega) (by omega) (by omega)
  have hB := turns_ok (p := p.map ((-1) * ·)) (low := low) (high := high) (by rw [List.length_map]; exact hl) (by omega) (by omega) (by omega) (by omega)
  have eB : ev (p.map ((-1) * ·)) = fun y => -ev p y := funext fun y => by rw [ev_map]; omega
  rw [eB] at hB
  have lA := Tk_len (bel (ev p)) low high
  have lB := Tk_len (bel fun y => -ev p y) low high
  have sd := sorted_dict (f := ev p) (low := low) (high := high) (by omega) (by omega) rfl rfl (S := [.lst []])
  generalize hTA : Tk (bel (ev p)) low high = A at *
  generalize hTB : Tk (bel fun y => -ev p y) low high = B at *
  have t := times_ok (p := p) (k := -1) (by decide) (by omega)
  have e1 : ∀ S, dCalP F_sign_turns (aCons (dVar 0) (aCons (dVar 4) (aCons (dVar 5) (aNil)))) [some (tp p), some (.int m), none, none, some (.int low), some (.int high), some (.ref 0), none, none, none] S = some (tp A, S) := fun S => cal3 (d := tp p) (e := .int low) (i := .int high) rfl rfl rfl (tp_pure _) rfl rfl hA
  have e2 : ∀ S, dCalP F_sign_turns (aCons (dCalP F_poly_times (aCons (dVar 0) (aCons (dUn gNeg (dC (.int 1))) (aNil)))) (aCons (dVar 4) (aCons (dVar 5) (aNil)))) [some (tp p), some (.int m), none, none, some (.int low), some (.int high), some (.ref 0), none, none, none] S = some (tp B, S) := fun S => cal3 (cal2 (d := tp p) (e := .int (-1)) rfl rfl (tp_pure _) rfl t) (e := .int low) (i := .int high) rfl rfl (tp_pure _) rfl rfl hB
  have it : iSeq (dTup (aStar (dCalP F_sign_turns (aCons (dVar 0) (aCons (dVar 4) (aCons (dVar 5) (aNil))))) (aStar (dCalP F_sign_turns (aCons (dCalP F_poly_times (aCons (dVar 0) (aCons (dUn gNeg (dC (.int 1))) (aNil)))) (aCons (dVar 4) (aCons (dVar 5) (aNil))))) (aNil)))) [some (tp p), some (.int m), none, none, some (.int low), some (.int high), some (.ref 0), none, none, none] [.lst []] = some (.fix ((A ++ B).map D.int), [.lst []]) := by
    generalize dCalP F_sign_turns (aCons (dVar 0) (aCons (dVar 4) (aCons (dVar 5) (aNil)))) = f1 at e1 ⊢
    generalize dCalP F_sign_turns (aCons (dCalP F_poly_times (aCons (dVar 0) (aCons (dUn gNeg (dC (.int 1))) (aNil)))) (aCons (dVar 4) (aCons (dVar 5) (aNil)))) = f2 at e2 ⊢
    have a1 : aStar f1 (aStar f2 aNil) [some (tp p), some (.int m), none, none, some (.int low), some (.int high), some (.ref 0), none, none, none] [.lst []] = some ((A ++ B).map D.int, [.lst []]) := by
      unfold aStar
      rw [e1, bnd_mk]
      show bnd (bnd (f2 _ _) _) _ = _
      rw [e2, bnd_mk]
      show some (A.map D.int ++ (B.map D.int ++ []), [C.lst []]) = _
      rw [List.append_nil, List.map_append]
    have sz : szOk ((A ++ B).map D.int) = true := decide_eq_true (by rw [sizeLine_eq, List.length_map, List.length_append]; omega)
    generalize aStar f1 (aStar f2 aNil) = ar at a1 ⊢
    unfold iSeq dTup
    rw [a1, bnd_mk, sz]
    rfl
  have dd := dict_of it (by rw [List.length_append]; omega) (by show 10 ≤ 10; decide)
  refine wo_step (asg dd) ?_
  generalize hks : kvI ((A ++ B).foldl addI []) = kv at *
  have e3 : dCB cSortedH (aCons (dVar 2) (aNil)) [some (tp p), some (.int m), some (.ref 1), none, some (.int low), some (.int high), some (.ref 0), none, none, none] [.lst [], .dct kv] = some (.fl ((Tk (sid (ev p)) low high).map D.int), [.lst [], .dct kv]) := call1 (d := .ref 1) rfl sd
  have lT := Tk_len (sid (ev p)) low high
  refine wo_step (ρ' := [some (tp p), some (.int m), some (.ref 1), some (.fl ((placesOf (ev p) low high).map D.int)), some (.int low), some (.int high), some (.ref 0), none, none, none]) (S' := [.lst [], .dct kv]) ?_ ?_
  · refine asg (d := .fl ((placesOf (ev p) low high).map D.int)) ?_
    show dLst (aCons (dVar 4) (aStar (dCB cSortedH (aCons (dVar 2) (aNil))) (aCons (dOp gAdd (dVar 5) (dC (.int 1))) (aNil)))) [some (tp p), some (.int m), some (.ref 1), none, some (.int low), some (.int high), some (.ref 0), none, none, none] [.lst [], .dct kv] = _
    generalize dCB cSortedH (aCons (dVar 2) (aNil)) = f3 at e3 ⊢
    have a1 : aCons (dVar 4) (aStar f3 (aCons (dOp gAdd (dVar 5) (dC (.int 1))) (aNil))) [some (tp p), some (.int m), some (.ref 1), none, some (.int low), some (.int high), some (.ref 0), none, none, none] [.lst [], .dct kv] = some ((placesOf (ev p) low high).map D.int, [.lst [], .dct kv]) := by
      unfold aStar
      show bnd (bnd (f3 _ _) _) _ = _
      rw [e3, bnd_mk]
      show some (D.int low :: ((Tk (sid (ev p)) low high).map D.int ++ [D.int (high + 1)]), [C.lst [], .dct kv]) = _
      unfold placesOf
      rw [List.map_cons, List.map_append]
      rfl
    have sz : szOk ((placesOf (ev p) low high).map D.int) = true := decide_eq_true (by
      rw [sizeLine_eq, List.length_map]
      unfold placesOf
      rw [List.length_cons, List.length_append, List.length_singleton]
      omega)
    generalize aCons (dVar 4) (aStar f3 (aCons (dOp gAdd (dVar 5) (dC (.int 1))) (aNil))) = ar at a1 ⊢
    unfold dLst
    rw [a1, bnd_mk, sz]
    rfl
  refine wo_seqN fun K k1 => ?_
  refine roots_loop (by omega) (by omega) (by omega) (by omega) fun b7 b8 => ?_
  refine k1 _ _ ?_
  clear k1
  generalize hZ : (up low (high + 1 - low).toNat).filter (zer (ev p)) = Z at *
  have lZ : Z.length ≤ 1000 := by
    rw [← hZ]
    have := List.length_filter_le (zer (ev p)) (up low (high + 1 - low).toNat)
    rw [up_len] at this
    omega
  have lc : dLc (iSeq (dVar 6)) (nN 9) (asB (dChain gLe gLe (dUn gNeg (dVar 1)) (dVar 9) (dVar 1))) (dVar 9) [9] [some (tp p), some (.int m), some (.ref 1), some (.fl ((placesOf (ev p) low high).map D.int)), some (.int low), some (.int high), some (.ref 0), b7, b8, none] [.lst (Z.map D.int), .dct kv] = some (.fl ((rootsOf p m).map D.int), [.lst (Z.map D.int), .dct kv]) := by
    unfold rootsOf
    rw [← zc]
    refine dLc_gen (s := .cell 0 (Z.map D.int)) (items := Z) (e := D.int) (f := D.int) (p := fun x => decide (-m ≤ x) && decide (x ≤ m)) rfl rfl (show cellIs [.lst (Z.map D.int), .dct kv] 0 (Z.map D.int) = true from cellIs_self rfl) (by omega) fun x hx => ⟨_, rfl, ?_, fun _ => rfl⟩
    exact as_b (chain_ok rfl rfl rfl)
  exact wo_of (b := (.rt (tp (rootsOf p m)), _, [.lst (Z.map D.int), .dct kv])) (by unfold sRet; rw [call1 lc ctup_fl]; rfl) rfl
theorem roots_ok {p : List Int} {m : Int} (hl : p.length ≤ 400) (h0 : 0 ≤ m) (h1 : m ≤ 30) : F_whole_roots [tp p, .int m] = some (tp (rootsOf p m)) := by
  refine bodyP_run rfl (tp_pure _) ?_
  show Wo (b_whole_roots [some (tp p), some (.int m), none, none, none, none, none, none, none, none] []) _
  unfold b_whole_roots
  refine wo_step (ρ' := [some (tp p), some (.int m), none, none, some (.int (-m - 1)), some (.int (m + 1)), some (.ref 0), none, none, none]) (S' := [.lst []]) ?_ (roots_rest hl h0 h1 rfl rfl)
  simp only [sAsg, sIf, sRet, sRetN, sNil, sPass, sSet, sExpr, sPar, sBrk, sCnt, dC, dVar, dOp, dUn, dIf, dCB, dCalP, dCalM, dMeth, dMeth0, dAnd, dOr, dNot, dIsi, aNil, aCons, asB, tbAnd, tbOr, tbNot, dChain, gN, gOf, nN, nT, nsCons, nsNil, dTup, dLst, dCell, wo_bnd, wo_some, wo_map, wo_bind, wo_if, bnd_mk, List.getElem?_cons_zero, List.getElem?_cons_succ, List.set_cons_zero, List.set_cons_succ, Option.map_some, Option.bind_some, gAdd, MS.gSub, gMul, gMod, gDiv, gLt, gLe, gGt, gGe, gI, gNeg, cInt, cI, cII, cAbs, cMax2, cMin2, decide_eq_true_eq, if_true, if_false, List.zip_cons_cons, List.zip_nil_right, List.foldl_cons, List.foldl_nil, List.length_cons, List.length_nil, Nat.zero_add, Nat.reduceAdd, Bool.false_eq_true, decide_true, decide_false, true_and, and_true, true_implies, implies_true, false_implies, not_true_eq_false, D.pureL, D.pure, D.fitL, D.fit, fit_dPair, fit_ints, Bool.and_true, Bool.true_and, Bool.and_self, wo_none, nn_iff, imp_and', and_false, false_and, szOk_0, szOk_1, szOk_2, szOk_3, szOk_4, szOk_5, szOk_6, szOk_7, szOk_8, eqA_int, neA_int, eqA_str, neA_str, eqA_bl, neA_bl, Bool.not_eq_true', Bool.not_true, Bool.not_false, not_false_eq_true, tyOf, isT, String.reduceBEq, Bool.or_false, Bool.false_or, Bool.and_false, Bool.or_true, Bool.true_or, Bool.false_and]
  rfl
end k53

namespace k53
open PySem PySem.Spec PyProof.Rows L2 MS
theorem bodyM_run {np nn : Nat} {b : SDen} {ds : List D} {S : Sto} {R : D → Sto → Prop} (hl : ds.length = np) (h : Wo (b (env0 nn ds) S) fun r => ∃ d, r.1 = .rt d ∧ D.pure d = true ∧ r.2.2.length = S.length ∧ R d r.2.2) : Wo (bodyM np nn b ds S) fun p => R p.1 p.2 := by
  obtain ⟨⟨o, ρ', S'⟩, e, d, rfl, hp, hlen, hr⟩ := h
  have hlen : S'.length = S.length := hlen
  refine ⟨(d, S'), ?_, hr⟩
  unfold bodyM
  rw [if_pos hl, e]
  show (D.fin S.length S' d).map (fun d => (d, S'.take S.length)) = _
  rw [D.fin_pure hp, Option.map_some, ← hlen, List.take_length]
theorem pick_at {most : Int} {v : Nat} {ρ : MS.Env} {S : Sto} (hv : ρ[v]? = some (some (.ref 1))) (hS : MS.Drawn S) (h1 : 1 ≤ most) (h2 : most < 2 ^ 64) : Wo (dCalM PG.F_n_law_pick (aCons (dVar v) (aCons (dC (.int most)) (aNil))) ρ S) fun p => ∃ r, p.1 = .int r ∧ 0 ≤ r ∧ r < most ∧ MS.Drawn p.2 ∧ p.2.length = S.length := by
  simp only [dCalM, aCons, aNil, dVar, hv, dC, bnd_mk]
  exact (pick_ok hS h1 h2).mono fun p ⟨r, h1, h2, h3, h4, h5⟩ => ⟨r, h1, h2, h3, h4, h5.1⟩
theorem rng_pick {most : Int} {v : Nat} {ρ : MS.Env} {S : Sto} (hv : ρ[v]? = some (some (.ref 1))) (hS : MS.Drawn S) (h1 : 1 ≤ most) (h2 : most < 1000) : Wo (iRange1 (aCons (dCalM PG.F_n_law_pick (aCons (dVar v) (aCons (dC (.int most)) (aNil)))) (aNil)) ρ S) fun p => ∃ n : Nat, (n : Int) < most ∧ p.1 = .fix (upto 0 n) ∧ MS.Drawn p.2 ∧ p.2.length = S.length := by
  have h := pick_at hv hS h1 (by omega)
  generalize dCalM PG.F_n_law_pick (aCons (dVar v) (aCons (dC (.int most)) (aNil))) = f at h ⊢
  unfold iRange1 aCons aNil
  rw [wo_bnd, wo_bnd]
  refine h.mono ?_
  rintro ⟨d, S1⟩ ⟨r, hd, r0, r1, hS1, hl⟩
  have hd : d = .int r := hd
  subst hd
  simp only [bnd_mk, wo_some]
  rw [if_pos (by omega), wo_some]
  exact ⟨r.toNat, by omega, rfl, hS1, hl⟩
def Small (B : Int) (p : List Int) : Prop := ∀ a ∈ p, -B ≤ a ∧ a ≤ B
/-- poly times a line -/
def lineOf (r : Int) (p : List Int) : List Int := ((0 :: p).zip (p ++ [0])).map fun z => z.1 - r * z.2
theorem line_len (r : Int) (p : List Int) : (lineOf r p).length = p.length + 1 := by
  unfold lineOf
  rw [List.length_map, List.length_zip, List.length_cons, List.length_append, List.length_singleton]
  omega
theorem line_small {r B : Int} {p : List Int} (hr : -6 ≤ r ∧ r ≤ 6) (hB : 0 ≤ B) (hp : Small B p) : Small (7 * B) (lineOf r p) := by
  intro x hx
  unfold lineOf at hx
  obtain ⟨⟨a, b⟩, hz, rfl⟩ := List.mem_map.mp hx
  have ha : -B ≤ a ∧ a ≤ B := by
    rcases List.mem_cons.mp (List.of_mem_zip hz).1 with h | h
    · rw [h]; omega
    · exact hp a h
  have hb : -B ≤ b ∧ b ≤ B := by
    rcases List.mem_append.mp (List.of_mem_zip hz).2 with h | h
    · exact hp b h
    · rw [List.mem_singleton.mp h]; omega
  show -(7 * B) ≤ a - r * b ∧ a - r * b ≤ 7 * B
  have k : -(6 * B) ≤ r * b ∧ r * b ≤ 6 * B := by
    have h1 := hr.1
    have h2 := hr.2
    have c : r = -6 ∨ r = -5 ∨ r = -4 ∨ r = -3 ∨ r = -2 ∨ r = -1 ∨ r = 0 ∨ r = 1 ∨ r = 2 ∨ r = 3 ∨ r = 4 ∨ r = 5 ∨ r = 6 := by omega
    rcases c with rfl | rfl | rfl | rfl | rfl | rfl | rfl | rfl | rfl | rfl | rfl | rfl | rfl <;> omega
  omega
theorem small_lt {B : Int} {p : List Int} (h : Small B p) (hB : B < 2 ^ 60) {a : Int} (ha : a ∈ p) : a.natAbs < 2 ^ 60 := by
  have := h a ha
  omega
theorem line_turn {p : List Int} {B : Int} (hp : Small B p) (hB : 0 ≤ B) (hB2 : B < 2 ^ 60) (hl : p.length ≤ 100) {S : Sto} (hS : MS.Drawn S) {a2 a3 a4 a5 a6 a7 : Option D} {Q : Out × MS.Env × Sto → Prop}
    (k : ∀ r a4 a5 a6 a7 S', -6 ≤ r ∧ r ≤ 6 → MS.Drawn S' → S'.length = S.length → Q (.nx, [some (.ref 1), some (.fl ((lineOf r p).map D.int)), a2, a3, a4, a5, a6, a7], S')) :
    Wo (f1b_n_law_draw_poly [some (.ref 1), some (.fl (p.map D.int)), a2, a3, a4, a5, a6, a7] S) Q := by
  unfold f1b_n_law_draw_poly
  have cat0 : ∀ S, dOp gAdd (dLst (aCons (dC (.int 0)) (aNil))) (dVar 1) [some (.ref 1), some (.fl (p.map D.int)), a2, a3, a4, a5, a6, a7] S = some (.fl ((0 :: p).map D.int), S) := fun S => by
    refine op2 (d := .fl [.int 0]) (e := .fl (p.map D.int)) (by show (if szOk [D.int 0] then some (D.fl [.int 0], S) else none) = _; rw [szOk_1]; rfl) rfl ?_
    show (if [D.int 0].length + (p.map D.int).length ≤ sizeLine then some (D.fl ([D.int 0] ++ p.map D.int), S) else none) = _
    rw [if_pos (by rw [sizeLine_eq, List.length_map]; show 1 + p.length ≤ 16777216; omega)]
    rfl
  refine wo_mid (fun ρ' S' => ∃ r, (-6 ≤ r ∧ r ≤ 6) ∧ MS.Drawn S' ∧ S'.length = S.length ∧ ρ' = [some (.ref 1), some (.fl (p.map D.int)), a2, a3, some (.int r), some (.fl ((0 :: p).map D.int)), a6, a7]) ?_ ?_
  · have h := pick_at (most := 13) (v := 0) (ρ := [some (.ref 1), some (.fl (p.map D.int)), a2, a3, a4, a5, a6, a7]) rfl hS (by decide) (by decide)
    generalize dCalM PG.F_n_law_pick (aCons (dVar 0) (aCons (dC (.int 13)) (aNil))) = f at h ⊢
    generalize dOp gAdd (dLst (aCons (dC (.int 0)) (aNil))) (dVar 1) = g at cat0 ⊢
    unfold sAsg dTup aCons dOp
    simp only [wo_bnd]
    refine h.mono ?_
    rintro ⟨d, S1⟩ ⟨r, hd, r0, r1, hS1, hl1⟩
    have hd : d = .int r := hd
    subst hd
    have gs : MS.gSub (.int r) (.int 6) S1 = some (.int (r - 6), S1) := rfl
    simp only [dC, wo_some, gs, cat0, aNil, szOk_2, if_true]
    exact ⟨_, rfl, rfl, r - 6, by omega, hS1, hl1, rfl⟩
  · rintro ρ' S1 ⟨r, hr, hS1, hl1, rfl⟩
    have cat1 : ∀ S, dOp gAdd (dVar 1) (dLst (aCons (dC (.int 0)) (aNil))) [some (.ref 1), some (.fl (p.map D.int)), a2, a3, some (.int r), some (.fl ((0 :: p).map D.int)), a6, a7] S = some (.fl ((p ++ [0]).map D.int), S) := fun S => by
      refine op2 (d := .fl (p.map D.int)) (e := .fl [.int 0]) rfl (by show (if szOk [D.int 0] then some (D.fl [.int 0], S) else none) = _; rw [szOk_1]; rfl) ?_
      show (if (p.map D.int).length + [D.int 0].length ≤ sizeLine then some (D.fl (p.map D.int ++ [D.int 0]), S) else none) = _
      rw [if_pos (by rw [sizeLine_eq, List.length_map]; show p.length + 1 ≤ 16777216; omega), List.map_append]
      rfl
    have it : ∀ S, iZipD (aCons (dVar 5) (aCons (dOp gAdd (dVar 1) (dLst (aCons (dC (.int 0)) (aNil)))) (aNil))) [some (.ref 1), some (.fl (p.map D.int)), a2, a3, some (.int r), some (.fl ((0 :: p).map D.int)), a6, a7] S = some (.grd [] (zipD ((0 :: p).map D.int) ((p ++ [0]).map D.int)), S) := fun S => by
      have c := cat1 S
      generalize dOp gAdd (dVar 1) (dLst (aCons (dC (.int 0)) (aNil))) = g at c ⊢
      unfold iZipD aCons
      show bnd (bnd (bnd (g _ S) _) _) _ = _
      rw [c]
      rfl
    have lc : dLc (iZipD (aCons (dVar 5) (aCons (dOp gAdd (dVar 1) (dLst (aCons (dC (.int 0)) (aNil)))) (aNil)))) (nT 2 (nsCons (nN 6) (nsCons (nN 7) (nsNil)))) (tYesD) (dOp MS.gSub (dVar 6) (dOp gMul (dVar 4) (dVar 7))) [6, 7] [some (.ref 1), some (.fl (p.map D.int)), a2, a3, some (.int r), some (.fl ((0 :: p).map D.int)), a6, a7] S1 = some (.fl ((lineOf r p).map D.int), S1) := by
      unfold lineOf
      rw [List.map_map]
      refine dLc_yes (e := fun z : Int × Int => D.tup [.int z.1, .int z.2]) (it S1) (zipD_map _ _ _ _) rfl ?_ fun z hz => ⟨_, rfl, ?_⟩
      · rw [List.length_zip]
        simp only [List.length_cons, List.length_append, List.length_nil]
        omega
      · have mo : mulOk r z.2 = true := mulOk_l (by omega)
        show bnd (some (D.int z.1, S1)) _ = _
        rw [bnd_mk]
        show bnd (if mulOk r z.2 then some (D.int (r * z.2), S1) else none) _ = _
        rw [mo]
        rfl
    exact wo_of (asg lc) (k r _ _ _ _ _ hr hS1 hl1)
end k53

namespace k53
open PySem PySem.Spec PyProof.Rows L2 MS
/-- numbers moved a little -/
theorem moved {items : List D} {ρ : MS.Env} {B : Int} (h0 : ρ[0]? = some (some (.ref 1))) (h6 : 7 ≤ ρ.length) : ∀ {p : List Int} {S : Sto}, Small B p → MS.Drawn S → Wo (lcL (.fix items) (nN 6) (tYesD) (dOp MS.gSub (dOp gAdd (dVar 6) (dCalM PG.F_n_law_pick (aCons (dVar 0) (aCons (dC (.int 5)) (aNil))))) (dC (.int 2))) (p.map D.int) ρ S) fun r => ∃ q : List Int, r.1 = q.map D.int ∧ q.length = p.length ∧ Small (B + 5) q ∧ MS.Drawn r.2 ∧ r.2.length = S.length
  | [], S, _, hS => ⟨_, rfl, [], rfl, rfl, fun x h => absurd h (by simp), hS, rfl⟩
  | a :: p, S, hp, hS => by
    have g0 : (ρ.set 6 (some (.int a)))[0]? = some (some (.ref 1)) := by
      rw [List.getElem?_set_ne (by decide)]
      exact h0
    have g6 : (ρ.set 6 (some (.int a)))[6]? = some (some (.int a)) := List.getElem?_set_self (by omega)
    have h := pick_at (most := 5) (v := 0) g0 hS (by decide) (by decide)
    rw [List.map_cons]
    unfold lcL
    rw [if_pos (show Src.ok (.fix items) S = true from rfl)]
    simp only [nN, tYesD, bnd_mk, if_true]
    rw [wo_bnd]
    have ih := fun S1 (hS1 : MS.Drawn S1) => moved (items := items) h0 h6 (p := p) (S := S1) (fun x hx => hp x (List.mem_cons_of_mem _ hx)) hS1
    generalize hf : dCalM PG.F_n_law_pick (aCons (dVar 0) (aCons (dC (.int 5)) (aNil))) = f at h ih ⊢
    have e : dOp MS.gSub (dOp gAdd (dVar 6) f) (dC (.int 2)) (ρ.set 6 (some (.int a))) S = bnd (f (ρ.set 6 (some (.int a))) S) fun d S1 => bnd (gAdd (.int a) d S1) fun d S1 => MS.gSub d (.int 2) S1 := by
      unfold dOp dVar dC
      rw [g6]
      simp only [bnd_mk]
      cases f (ρ.set 6 (some (.int a))) S with
      | none => rfl
      | some x => rfl
    rw [e, wo_bnd]
    refine h.mono ?_
    rintro ⟨d, S1⟩ ⟨r, hd, r0, r1, hS1, hl1⟩
    have hd : d = .int r := hd
    subst hd
    rw [show gAdd (.int a) (.int r) S1 = some (.int (a + r), S1) from rfl, bnd_mk, show MS.gSub (.int (a + r)) (.int 2) S1 = some (.int (a + r - 2), S1) from rfl, wo_some, wo_bnd]
    refine (ih S1 hS1).mono ?_
    rintro ⟨ys, S2⟩ ⟨q, hq, hn, hb, hS2, hl2⟩
    have hq : ys = q.map D.int := hq
    subst hq
    rw [wo_some]
    have ha := hp a List.mem_cons_self
    refine ⟨(a + r - 2) :: q, rfl, by simp only [List.length_cons, hn], fun x hx => ?_, hS2, by rw [← hl1]; exact hl2⟩
    rcases List.mem_cons.mp hx with rfl | hx
    · omega
    · exact hb x hx
def pow7 : Nat → Int
  | 0 => 4
  | n + 1 => 7 * pow7 n
theorem pow7_pos : ∀ n, 4 ≤ pow7 n
  | 0 => Int.le_refl 4
  | n + 1 => by
    have := pow7_pos n
    show 4 ≤ 7 * pow7 n
    omega
theorem pow7_le : ∀ n, n ≤ 5 → pow7 n ≤ 67228 := by decide
theorem draw_ok {S : Sto} (hS : MS.Drawn S) : Wo (F_n_law_draw_poly [.ref 1] S) fun r => ∃ p : List Int, r.1 = tp p ∧ 1 ≤ p.length ∧ p.length ≤ 7 ∧ Small 70000 p ∧ MS.Drawn r.2 ∧ r.2.length = S.length := by
  refine bodyM_run (R := fun d S' => ∃ p : List Int, d = tp p ∧ 1 ≤ p.length ∧ p.length ≤ 7 ∧ Small 70000 p ∧ MS.Drawn S' ∧ S'.length = S.length) rfl ?_
  show Wo (b_n_law_draw_poly [some (.ref 1), none, none, none, none, none, none, none] S) _
  unfold b_n_law_draw_poly
  refine wo_mid (fun ρ' S' => ∃ p : List Int, p.length = 1 ∧ Small 4 p ∧ MS.Drawn S' ∧ S'.length = S.length ∧ ρ' = [some (.ref 1), some (.fl (p.map D.int)), none, none, none, none, none, none]) ?_ ?_
  · have h := pick_at (most := 4) (v := 0) (ρ := [some (.ref 1), none, none, none, none, none, none, none]) rfl hS (by decide) (by decide)
    generalize dCalM PG.F_n_law_pick (aCons (dVar 0) (aCons (dC (.int 4)) (aNil))) = f at h ⊢
    unfold sAsg dLst aCons dOp
    simp only [wo_bnd, dC, wo_some]
    refine h.mono ?_
    rintro ⟨d, S1⟩ ⟨r, hd, r0, r1, hS1, hl1⟩
    have hd : d = .int r := hd
    subst hd
    simp only [gAdd, wo_some, aNil, szOk_1, if_true]
    exact ⟨_, rfl, rfl, [1 + r], rfl, fun x hx => by rw [List.mem_singleton.mp hx]; omega, hS1, hl1, rfl⟩
  rintro ρ' S1 ⟨p1, hp1, sp1, hS1, hl1, rfl⟩
  refine wo_mid (fun ρ' S' => ∃ p a2 a4 a5 a6 a7, 1 ≤ p.length ∧ p.length ≤ 6 ∧ Small 67228 p ∧ MS.Drawn S' ∧ S'.length = S.length ∧ ρ' = [some (.ref 1), some (.fl (p.map D.int)), a2, none, a4, a5, a6, a7]) ?_ ?_
  · have h := rng_pick (most := 6) (v := 0) (ρ := [some (.ref 1), some (.fl (p1.map D.int)), none, none, none, none, none, none]) rfl hS1 (by decide) (by decide)
    unfold sFor
    rw [wo_bnd]
    refine h.mono ?_
    rintro ⟨s, S2⟩ ⟨n, hn, hs, hS2, hl2⟩
    have hs : s = .fix (upto 0 n) := hs
    subst hs
    have hl2 : S2.length = S1.length := hl2
    refine wo_for (items := upto 0 n) (fun i ρ' S' => i ≤ n ∧ ∃ p a2 a4 a5 a6 a7, p.length = i + 1 ∧ Small (pow7 i) p ∧ MS.Drawn S' ∧ S'.length = S.length ∧ ρ' = [some (.ref 1), some (.fl (p.map D.int)), a2, none, a4, a5, a6, a7]) ⟨Nat.zero_le _, p1, none, none, none, none, none, hp1, sp1, hS2, by omega, rfl⟩ (fun _ _ _ _ _ => rfl) ?_ ?_
    · rintro i d ρ' S' hd ⟨hi, p, a2, a4, a5, a6, a7, hl, sp, hS', hlS, rfl⟩
      have hi : i < n := by
        have := (List.getElem?_eq_some_iff.mp hd).1
        rwa [upto_length] at this
      have hp7 := pow7_pos i
      have hp8 := pow7_le i (by omega)
      refine wo_of (b := ([some (.ref 1), some (.fl (p.map D.int)), some d, none, a4, a5, a6, a7], S')) rfl ?_
      refine line_turn sp (by omega) (by omega) (by omega) hS' fun r b4 b5 b6 b7 S3 hr hS3 hl3 => ?_
      exact ⟨by omega, _, _, _, _, _, _, by rw [line_len, hl], line_small hr (by omega) sp, hS3, by omega, rfl⟩
    · rintro ρ' S' ⟨hi, p, a2, a4, a5, a6, a7, hl, sp, hS', hlS, rfl⟩
      rw [upto_length] at hi hl sp
      have := pow7_le n (by omega)
      exact ⟨rfl, p, a2, a4, a5, a6, a7, by omega, by omega, fun x hx => by have := sp x hx; omega, hS', hlS, rfl⟩
  rintro ρ' S2 ⟨p2, a2, a4, a5, a6, a7, hp2, hp2', sp2, hS2, hl2, rfl⟩
  refine wo_mid (fun ρ' S' => ∃ p a2 a4 a5 a6 a7, 1 ≤ p.length ∧ p.length ≤ 6 ∧ Small 67233 p ∧ MS.Drawn S' ∧ S'.length = S.length ∧ ρ' = [some (.ref 1), some (.fl (p.map D.int)), a2, none, a4, a5, a6, a7]) ?_ ?_
  · have h := pick_at (most := 3) (v := 0) (ρ := [some (.ref 1), some (.fl (p2.map D.int)), a2, none, a4, a5, a6, a7]) rfl hS2 (by decide) (by decide)
    generalize dCalM PG.F_n_law_pick (aCons (dVar 0) (aCons (dC (.int 3)) (aNil))) = f at h ⊢
    unfold sIf asB dOp
    simp only [wo_bnd]
    refine h.mono ?_
    rintro ⟨d, S3⟩ ⟨r, hd, r0, r1, hS3, hl3⟩
    have hd : d = .int r := hd
    subst hd
    have hl3 : S3.length = S2.length := hl3
    simp only [dC, wo_some, eqA_int]
    by_cases hr : r = 0
    · rw [if_pos (decide_eq_true hr)]
      have lc : Wo (dLc (iSeq (dVar 1)) (nN 6) (tYesD) (dOp MS.gSub (dOp gAdd (dVar 6) (dCalM PG.F_n_law_pick (aCons (dVar 0) (aCons (dC (.int 5)) (aNil))))) (dC (.int 2))) [6] [some (.ref 1), some (.fl (p2.map D.int)), a2, none, a4, a5, a6, a7] S3) fun r => ∃ q : List Int, r.1 = .fl (q.map D.int) ∧ q.length = p2.length ∧ Small 67233 q ∧ MS.Drawn r.2 ∧ r.2.length = S3.length := by
        unfold dLc
        rw [show iSeq (dVar 1) [some (.ref 1), some (.fl (p2.map D.int)), a2, none, a4, a5, a6, a7] S3 = some (.fix (p2.map D.int), S3) from rfl, bnd_mk, wo_bnd]
        refine (moved (items := p2.map D.int) (B := 67228) (ρ := wipeE [some (.ref 1), some (.fl (p2.map D.int)), a2, none, a4, a5, a6, a7] [6]) rfl (by show 7 ≤ 8; decide) sp2 hS3).mono ?_
        rintro ⟨ys, S4⟩ ⟨q, hq, hn, hb, hS4, hl4⟩
        have hq : ys = q.map D.int := hq
        subst hq
        have sz : szOk (q.map D.int) = true := decide_eq_true (by rw [sizeLine_eq, List.length_map]; omega)
        show Wo (if szOk (q.map D.int) = true then some (D.fl (q.map D.int), S4) else none) _
        rw [sz]
        exact ⟨_, rfl, q, rfl, hn, hb, hS4, hl4⟩
      generalize dLc (iSeq (dVar 1)) (nN 6) (tYesD) (fun ρ S => bnd ((fun ρ S => bnd (dVar 6 ρ S) fun x S => bnd (dCalM PG.F_n_law_pick (aCons (dVar 0) (aCons (fun ρ S => some (D.int 5, S)) (aNil))) ρ S) fun y S => gAdd x y S) ρ S) fun x S => bnd ((fun ρ S => some (D.int 2, S)) ρ S) fun y S => MS.gSub x y S) [6] = lc1
      show Wo (sAsg (dLc (iSeq (dVar 1)) (nN 6) (tYesD) (dOp MS.gSub (dOp gAdd (dVar 6) (dCalM PG.F_n_law_pick (aCons (dVar 0) (aCons (dC (.int 5)) (aNil))))) (dC (.int 2))) [6]) (gN 1) _ _) _
      unfold sAsg
      rw [wo_bnd]
      refine lc.mono ?_
      rintro ⟨d, S4⟩ ⟨q, hq, hn, hb, hS4, hl4⟩
      have hq : d = .fl (q.map D.int) := hq
      subst hq
      have hl4 : S4.length = S3.length := hl4
      refine ⟨_, rfl, rfl, q, a2, a4, a5, a6, a7, by omega, by omega, hb, hS4, (show S4.length = S.length from by omega), rfl⟩
    · rw [if_neg (by rw [decide_eq_false hr]; decide)]
      exact ⟨_, rfl, rfl, p2, a2, a4, a5, a6, a7, hp2, hp2', fun x hx => by have := sp2 x hx; omega, hS3, (show S3.length = S.length from by omega), rfl⟩
  clear a2 a4 a5 a6 a7
  rintro ρ' S3 ⟨p3, a2, a4, a5, a6, a7, hp3, hp3', sp3, hS3, hl3, rfl⟩
  refine wo_mid (fun ρ' S' => ∃ s : Int, (s = 1 ∨ s = -1) ∧ MS.Drawn S' ∧ S'.length = S.length ∧ ρ' = [some (.ref 1), some (.fl (p3.map D.int)), a2, some (.int s), a4, a5, a6, a7]) ?_ ?_
  · have h := pick_at (most := 2) (v := 0) (ρ := [some (.ref 1), some (.fl (p3.map D.int)), a2, none, a4, a5, a6, a7]) rfl hS3 (by decide) (by decide)
    generalize dCalM PG.F_n_law_pick (aCons (dVar 0) (aCons (dC (.int 2)) (aNil))) = f at h ⊢
    unfold sAsg dOp
    simp only [wo_bnd, dC, wo_some]
    refine h.mono ?_
    rintro ⟨d, S4⟩ ⟨r, hd, r0, r1, hS4, hl4⟩
    have hd : d = .int r := hd
    subst hd
    have hl4 : S4.length = S3.length := hl4
    have mo : mulOk 2 r = true := mulOk_l (by decide)
    have gs : MS.gSub (.int 1) (.int (2 * r)) S4 = some (.int (1 - 2 * r), S4) := rfl
    simp only [gMul, mo, if_true, wo_some, gs]
    exact ⟨_, rfl, rfl, 1 - 2 * r, by omega, hS4, (show S4.length = S.length from by omega), rfl⟩
  rintro ρ' S4 ⟨s, hs, hS4, hl4, rfl⟩
  have lc : dLc (iSeq (dVar 1)) (nN 6) (tYesD) (dOp gMul (dVar 3) (dVar 6)) [6] [some (.ref 1), some (.fl (p3.map D.int)), a2, some (.int s), a4, a5, a6, a7] S4 = some (.fl ((p3.map (s * ·)).map D.int), S4) := by
    rw [List.map_map]
    refine dLc_map (e := D.int) rfl (by omega) fun a ha => ⟨_, rfl, ?_⟩
    have mo : mulOk s a = true := mulOk_l (by omega)
    show (if mulOk s a then some (D.int (s * a), S4) else none) = _
    rw [mo]
    rfl
  have h := pick_at (most := 2) (v := 0) (ρ := [some (.ref 1), some (.fl (p3.map D.int)), a2, some (.int s), a4, a5, a6, a7]) rfl hS4 (by decide) (by decide)
  generalize dLc (iSeq (dVar 1)) (nN 6) (tYesD) (dOp gMul (dVar 3) (dVar 6)) [6] = l1 at lc ⊢
  generalize dCalM PG.F_n_law_pick (aCons (dVar 0) (aCons (dC (.int 2)) (aNil))) = f at h ⊢
  have tl : Wo (dOp gMul (dLst (aCons (dC (.int 0)) (aNil))) f [some (.ref 1), some (.fl (p3.map D.int)), a2, some (.int s), a4, a5, a6, a7] S4) fun r => ∃ n : Nat, n < 2 ∧ r.1 = .fl ((List.replicate n 0).map D.int) ∧ MS.Drawn r.2 ∧ r.2.length = S4.length := by
    unfold dOp
    rw [show dLst (aCons (dC (.int 0)) (aNil)) [some (.ref 1), some (.fl (p3.map D.int)), a2, some (.int s), a4, a5, a6, a7] S4 = some (.fl [.int 0], S4) from by
      show (if szOk [D.int 0] then some (D.fl [.int 0], S4) else none) = _
      rw [szOk_1]
      rfl, bnd_mk, wo_bnd]
    refine h.mono ?_
    rintro ⟨d, S5⟩ ⟨r, hd, r0, r1, hS5, hl5⟩
    have hd : d = .int r := hd
    subst hd
    have c : r = 0 ∨ r = 1 := by omega
    rcases c with rfl | rfl
    · exact ⟨(.fl [], S5), rfl, 0, by omega, rfl, hS5, hl5⟩
    · refine ⟨(.fl [.int 0], S5), ?_, 1, by omega, rfl, hS5, hl5⟩
      show (if -(2 ^ 63) ≤ (1 : Int) ∧ (1 : Int) < 2 ^ 63 ∧ [D.int 0].length * (1 : Int).toNat ≤ sizeLine then some (D.fl (List.replicate (1 : Int).toNat [D.int 0]).flatten, S5) else none) = _
      rw [if_pos ⟨by decide, by decide, by rw [sizeLine_eq]; decide⟩]
      rfl
  generalize dOp gMul (dLst (aCons (dC (.int 0)) (aNil))) f = g at tl ⊢
  unfold sRet dCB aCons dOp
  simp only [wo_bnd, lc, wo_some, aNil]
  refine tl.mono ?_
  rintro ⟨d, S5⟩ ⟨n, hn, hd, hS5, hl5⟩
  have hd : d = .fl ((List.replicate n 0).map D.int) := hd
  subst hd
  have hl5 : S5.length = S4.length := hl5
  have ga : gAdd (.fl ((p3.map (s * ·)).map D.int)) (.fl ((List.replicate n 0).map D.int)) S5 = some (.fl ((p3.map (s * ·) ++ List.replicate n 0).map D.int), S5) := by
    show (if ((p3.map (s * ·)).map D.int).length + ((List.replicate n 0).map D.int).length ≤ sizeLine then some (D.fl ((p3.map (s * ·)).map D.int ++ (List.replicate n 0).map D.int), S5) else none) = _
    rw [if_pos (by rw [sizeLine_eq, List.length_map, List.length_map, List.length_map, List.length_replicate]; omega), List.map_append]
  simp only [ga, wo_some, ctup_fl]
  refine ⟨tp (p3.map (s * ·) ++ List.replicate n 0), rfl, tp_pure _, by omega, _, rfl, ?_, ?_, fun x hx => ?_, hS5, by omega⟩
  · rw [List.length_append, List.length_map]; omega
  · rw [List.length_append, List.length_map, List.length_replicate]; omega
  · rcases List.mem_append.mp hx with hx | hx
    · obtain ⟨a, ha, rfl⟩ := List.mem_map.mp hx
      have := sp3 a ha
      show -70000 ≤ s * a ∧ s * a ≤ 70000
      rcases hs with rfl | rfl <;> omega
    · rw [(List.mem_replicate.mp hx).2]
      omega
end k53

namespace k53
open PySem PySem.Spec PyProof.Rows L2 MS
theorem powb {x : Int} {B n : Nat} (h : x.natAbs ≤ B) (hB : 1 ≤ B) (hn : B ^ n < 2 ^ 64) : ∀ i, i ≤ n → (x ^ i).natAbs < 2 ^ 64 := fun i hi => by
  rw [Int.natAbs_pow]
  exact Nat.lt_of_le_of_lt (Nat.le_trans (Nat.pow_le_pow_left h i) (Nat.pow_le_pow_right hB hi)) hn
theorem at_ok {p : List Int} {x : Int} (hl : p.length ≤ 9) (hx : x.natAbs ≤ 100) : F_n_law_at [tp p, .int x] = some (.int (ev p x)) :=
  law_at_ok fun i hi => powb (B := 100) (n := 9) hx (by decide) (by decide) i (by omega)
theorem at_ok2 {p : List Int} {x : Int} (hl : p.length ≤ 15) (hx : x.natAbs ≤ 10) : F_n_law_at [tp p, .int x] = some (.int (ev p x)) :=
  law_at_ok fun i hi => powb (B := 10) (n := 15) hx (by decide) (by decide) i (by omega)
theorem ev_bound {B : Nat} {x : Int} (hx : x.natAbs ≤ 10) : ∀ {p : List Int}, (∀ a ∈ p, a.natAbs ≤ B) → (ev p x).natAbs ≤ B * 11 ^ p.length
  | [], _ => by simp [ev]
  | a :: p, h => by
    have ih := ev_bound (B := B) hx (p := p) fun b hb => h b (List.mem_cons_of_mem _ hb)
    have ha := h a List.mem_cons_self
    show (ev p x * x + a).natAbs ≤ B * 11 ^ (p.length + 1)
    have h1 : (ev p x * x).natAbs ≤ B * 11 ^ p.length * 10 := by
      rw [Int.natAbs_mul]
      exact Nat.mul_le_mul ih hx
    have h2 : B ≤ B * 11 ^ p.length := Nat.le_mul_of_pos_right B (Nat.pow_pos (by decide))
    have h3 := Int.natAbs_add_le (ev p x * x) a
    rw [Nat.pow_succ, ← Nat.mul_assoc]
    omega
theorem strip_mem {x : Int} : ∀ {p : List Int}, x ∈ strip p → x ∈ p
  | [], h => by cases h
  | a :: p, h => by
    have ih := strip_mem (x := x) (p := p)
    unfold strip at h
    generalize strip p = s at h ih
    cases s with
    | nil =>
      have h : x ∈ (if a = 0 then ([] : List Int) else [a]) := h
      by_cases q : a = 0
      · rw [if_pos q] at h; cases h
      · rw [if_neg q] at h
        rw [List.mem_singleton.mp h]
        exact List.mem_cons_self
    | cons b q =>
      have h : x ∈ a :: b :: q := h
      rcases List.mem_cons.mp h with h | h
      · rw [h]; exact List.mem_cons_self
      · exact List.mem_cons_of_mem _ (ih h)
theorem len_tp {f : EDen} {p : List Int} {ρ : MS.Env} {S : Sto} (h : f ρ S = some (tp p, S)) : dCB cLen (aCons f (aNil)) ρ S = some (.int (p.length : Nat), S) := call1 h (by show some (D.int ((p.map D.int).length : Nat), S) = _; rw [List.length_map])
theorem call2 {c : CDen} {f g : EDen} {d e r : D} {ρ : MS.Env} {S : Sto} (h : f ρ S = some (d, S)) (h' : g ρ S = some (e, S)) (hc : c [d, e] S = some (r, S)) : dCB c (aCons f (aCons g (aNil))) ρ S = some (r, S) := by
  unfold dCB aCons aNil
  rw [h]
  simp only [bnd_mk, h', hc]
theorem max_nat {a b : Nat} {S : Sto} : cMax2 [.int (a : Nat), .int (b : Nat)] S = some (.int (max a b : Nat), S) := by
  show some (D.int (if ((b : Nat) : Int) > ((a : Nat) : Int) then ((b : Nat) : Int) else ((a : Nat) : Int)), S) = _
  congr 3
  split <;> omega
theorem ne_int {f g : EDen} {i : Int} {ρ : MS.Env} {S : Sto} (h : f ρ S = some (.int i, S)) (h' : g ρ S = some (.int i, S)) : asB (dOp gNeA f g) ρ S = some (false, S) := as_b (op2 h h' (by rw [neA_int, decide_eq_true rfl]; rfl))
/-- one x of the law's loop -/
theorem x_turn {p q r d : List Int} {x : Int} (hp : p.length ≤ 7) (hq : q.length ≤ 7) (hr : r.length ≤ 13) (sp : Small 70000 p) (h1 : -9 ≤ x) (h2 : x ≤ 9) (er : ∀ x, ev r x = ev p x * ev q x) (fd : F_difference_of [tp p] = some (tp d)) (hd : ∀ x, ev d x = ev p (x + 1) - ev p x) (ld : d.length ≤ 7) {S : Sto} {a0 a1 a2 a4 a5 a6 a9 a10 a11 a12 a15 a16 : Option D} {Q : Out × MS.Env × Sto → Prop}
    (k : ∀ a15, Q (.nx, [a0, a1, a2, some (.int x), a4, a5, a6, some (tp p), some (tp q), a9, a10, a11, a12, some (tp (psum p q)), some (tp r), a15, a16], S)) :
    Wo (f1b_law [a0, a1, a2, some (.int x), a4, a5, a6, some (tp p), some (tp q), a9, a10, a11, a12, some (tp (psum p q)), some (tp r), a15, a16] S) Q := by
  have ap := at_ok2 (p := p) (x := x) (by omega) (by omega)
  have aq := at_ok2 (p := q) (x := x) (by omega) (by omega)
  have as := at_ok2 (p := psum p q) (x := x) (by rw [len_psum]; omega) (by omega)
  have ar := at_ok2 (p := r) (x := x) (by omega) (by omega)
  have ad := at_ok2 (p := d) (x := x) (by omega) (by omega)
  have ap1 := at_ok2 (p := p) (x := x + 1) (by omega) (by omega)
  have pa := poly_at_ok (p := p) (x := x) (by omega)
  have bd := ev_bound (B := 70000) (x := x) (by omega) (p := p) fun a ha => by have := sp a ha; omega
  have bd2 : (ev p x).natAbs < 2 ^ 64 := Nat.lt_of_le_of_lt bd (Nat.lt_of_le_of_lt (Nat.mul_le_mul_left 70000 (Nat.pow_le_pow_right (by decide) hp)) (by decide))
  have mo : mulOk (ev p x) (ev q x) = true := mulOk_l bd2
  unfold f1b_law
  have v : dLst (aCons (dCalP F_n_law_at (aCons (dVar 7) (aCons (dVar 3) (aNil)))) (aCons (dOp gAdd (dCalP F_n_law_at (aCons (dVar 7) (aCons (dVar 3) (aNil)))) (dCalP F_n_law_at (aCons (dVar 8) (aCons (dVar 3) (aNil))))) (aCons (dOp gMul (dCalP F_n_law_at (aCons (dVar 7) (aCons (dVar 3) (aNil)))) (dCalP F_n_law_at (aCons (dVar 8) (aCons (dVar 3) (aNil))))) (aNil)))) [a0, a1, a2, some (.int x), a4, a5, a6, some (tp p), some (tp q), a9, a10, a11, a12, some (tp (psum p q)), some (tp r), a15, a16] S = some (.fl ([ev p x, ev p x + ev q x, ev p x * ev q x].map D.int), S) := by
    have e1 : dCalP F_n_law_at (aCons (dVar 7) (aCons (dVar 3) (aNil))) [a0, a1, a2, some (.int x), a4, a5, a6, some (tp p), some (tp q), a9, a10, a11, a12, some (tp (psum p q)), some (tp r), a15, a16] S = some (.int (ev p x), S) := cal2 (d := tp p) (e := .int x) rfl rfl (tp_pure _) rfl ap
    have e2 : dCalP F_n_law_at (aCons (dVar 8) (aCons (dVar 3) (aNil))) [a0, a1, a2, some (.int x), a4, a5, a6, some (tp p), some (tp q), a9, a10, a11, a12, some (tp (psum p q)), some (tp r), a15, a16] S = some (.int (ev q x), S) := cal2 (d := tp q) (e := .int x) rfl rfl (tp_pure _) rfl aq
    have e3 := op2 (o := gAdd) e1 e2 (r := .int (ev p x + ev q x)) rfl
    have e4 := op2 (o := gMul) e1 e2 (r := .int (ev p x * ev q x)) (by show (if mulOk (ev p x) (ev q x) then _ else none) = _; rw [mo]; rfl)
    generalize dOp gAdd (dCalP F_n_law_at (aCons (dVar 7) (aCons (dVar 3) (aNil)))) (dCalP F_n_law_at (aCons (dVar 8) (aCons (dVar 3) (aNil)))) = f3 at e3 ⊢
    generalize dOp gMul (dCalP F_n_law_at (aCons (dVar 7) (aCons (dVar 3) (aNil)))) (dCalP F_n_law_at (aCons (dVar 8) (aCons (dVar 3) (aNil)))) = f4 at e4 ⊢
    generalize dCalP F_n_law_at (aCons (dVar 7) (aCons (dVar 3) (aNil))) = f1 at e1 ⊢
    unfold dLst aCons aNil
    rw [e1]
    simp only [bnd_mk, e3, e4, szOk_3, if_true]
    rfl
  refine wo_step (asg v) ?_
  refine wo_step (if_nil (as_b (op2 (d := .fl ([ev p x, ev p x + ev q x, ev p x * ev q x].map D.int)) (e := .fl ([ev p x, ev p x + ev q x, ev p x * ev q x].map D.int)) ?_ rfl (cmp_fl (neg := true) _)))) ?_
  · have e1 : dCalP F_poly_at (aCons (dVar 7) (aCons (dVar 3) (aNil))) [a0, a1, a2, some (.int x), a4, a5, a6, some (tp p), some (tp q), a9, a10, a11, a12, some (tp (psum p q)), some (tp r), some (.fl ([ev p x, ev p x + ev q x, ev p x * ev q x].map D.int)), a16] S = some (.int (ev p x), S) := cal2 (d := tp p) (e := .int x) rfl rfl (tp_pure _) rfl pa
    have e2 : dCalP F_n_law_at (aCons (dVar 13) (aCons (dVar 3) (aNil))) [a0, a1, a2, some (.int x), a4, a5, a6, some (tp p), some (tp q), a9, a10, a11, a12, some (tp (psum p q)), some (tp r), some (.fl ([ev p x, ev p x + ev q x, ev p x * ev q x].map D.int)), a16] S = some (.int (ev p x + ev q x), S) := cal2 (d := tp (psum p q)) (e := .int x) rfl rfl (tp_pure _) rfl (by rw [as, ev_psum])
    have e3 : dCalP F_n_law_at (aCons (dVar 14) (aCons (dVar 3) (aNil))) [a0, a1, a2, some (.int x), a4, a5, a6, some (tp p), some (tp q), a9, a10, a11, a12, some (tp (psum p q)), some (tp r), some (.fl ([ev p x, ev p x + ev q x, ev p x * ev q x].map D.int)), a16] S = some (.int (ev p x * ev q x), S) := cal2 (d := tp r) (e := .int x) rfl rfl (tp_pure _) rfl (by rw [ar, er])
    show dLst (aCons (dCalP F_poly_at (aCons (dVar 7) (aCons (dVar 3) (aNil)))) (aCons (dCalP F_n_law_at (aCons (dVar 13) (aCons (dVar 3) (aNil)))) (aCons (dCalP F_n_law_at (aCons (dVar 14) (aCons (dVar 3) (aNil)))) (aNil)))) [a0, a1, a2, some (.int x), a4, a5, a6, some (tp p), some (tp q), a9, a10, a11, a12, some (tp (psum p q)), some (tp r), some (.fl ([ev p x, ev p x + ev q x, ev p x * ev q x].map D.int)), a16] S = _
    generalize dCalP F_poly_at (aCons (dVar 7) (aCons (dVar 3) (aNil))) = f1 at e1 ⊢
    generalize dCalP F_n_law_at (aCons (dVar 13) (aCons (dVar 3) (aNil))) = f2 at e2 ⊢
    generalize dCalP F_n_law_at (aCons (dVar 14) (aCons (dVar 3) (aNil))) = f3 at e3 ⊢
    unfold dLst aCons aNil
    rw [e1]
    simp only [bnd_mk, e2, e3, szOk_3, if_true]
    rfl
  have e5 : asB (dOp gNeA (dCalP F_n_law_at (aCons (dCalP F_difference_of (aCons (dVar 7) (aNil))) (aCons (dVar 3) (aNil)))) (dOp MS.gSub (dCalP F_n_law_at (aCons (dVar 7) (aCons (dOp gAdd (dVar 3) (dC (.int 1))) (aNil)))) (dCalP F_n_law_at (aCons (dVar 7) (aCons (dVar 3) (aNil)))))) [a0, a1, a2, some (.int x), a4, a5, a6, some (tp p), some (tp q), a9, a10, a11, a12, some (tp (psum p q)), some (tp r), some (.fl ([ev p x, ev p x + ev q x, ev p x * ev q x].map D.int)), a16] S = some (false, S) :=
    ne_int (i := ev d x) (cal2 (cal1 (d := tp p) rfl (tp_pure _) fd) (e := .int x) rfl (tp_pure _) rfl ad) (op2 (cal2 (d := tp p) (e := .int (x + 1)) rfl rfl (tp_pure _) rfl ap1) (cal2 (d := tp p) (e := .int x) rfl rfl (tp_pure _) rfl ap) (by
      show some (D.int (ev p (x + 1) - ev p x), S) = _
      rw [hd]))
  exact wo_of (if_nil e5) (k _)
end k53

namespace k53
open PySem PySem.Spec PyProof.Rows L2 MS
theorem repr_tp {S : Sto} {p : List Int} (h : ∀ a ∈ p, a.natAbs < 2 ^ 64) (hl : p.length ≤ 100000) : cRepr [tp p] S = some (.str (shownD (tp p)), S) := repr_ints h hl
theorem up_iter {fa : ADen} {i j : Int} {n : Nat} {ρ : MS.Env} {S : Sto} (e : fa ρ S = some ([.int i, .int j], S)) (h1 : -(2 ^ 62) ≤ i ∧ i < 2 ^ 62 ∧ -(2 ^ 62) ≤ j ∧ j < 2 ^ 62) (h3 : (j - i).toNat = n) : iRange2 fa ρ S = some (.fix ((up i n).map D.int), S) := by
  rw [rng2_eq e h1 h3, upto_up]
theorem part_b {p q : List Int} {low m high k : Int} (hp1 : 1 ≤ p.length) (hp : p.length ≤ 7) (hq1 : 1 ≤ q.length) (hq : q.length ≤ 7) (sp : Small 70000 p) (sq : Small 70000 q) (hlow : -20 ≤ low ∧ low ≤ -1) (hm : 0 ≤ m ∧ m ≤ 14) (hh : low < high ∧ high ≤ low + 40) (hk : -4 ≤ k ∧ k ≤ 4) {S : Sto} {a0 a1 a2 a3 a4 a5 a6 a13 a14 a15 a16 : Option D} {Q : Out × MS.Env × Sto → Prop}
    (kk : ∀ a3 a4 a5 a6 a13 a14 a15, Q (.nx, [a0, a1, a2, a3, a4, a5, a6, some (tp p), some (tp q), some (.int low), some (.int m), some (.int high), some (.int k), a13, a14, a15, a16], S)) :
    Wo ((sSeq (sPar [13, 14] (aCons (dCalP F_poly_sum (aCons (dVar 7) (aCons (dVar 8) (aNil)))) (aCons (dCalP F_poly_product (aCons (dVar 7) (aCons (dVar 8) (aNil)))) (aNil)))) <| sSeq (sIf (tbOr (asB (dOp gNeA (dCB cLen (aCons (dVar 13) (aNil))) (dCB cMax2 (aCons (dCB cLen (aCons (dVar 7) (aNil))) (aCons (dCB cLen (aCons (dVar 8) (aNil))) (aNil)))))) (asB (dOp gNeA (dCB cLen (aCons (dVar 14) (aNil))) (dOp gSub (dOp gAdd (dCB cLen (aCons (dVar 7) (aNil))) (dCB cLen (aCons (dVar 8) (aNil)))) (dC (.int 1)))))) (sRet (dC (.bl false))) (sNil)) <| sSeq (sIf (tbOr (asB (dOp gNeA (dCB cRepr (aCons (dCalP F_without_noughts (aCons (dVar 7) (aNil))) (aNil))) (dCB cRepr (aCons (dCalP F_n_law_short (aCons (dVar 7) (aNil))) (aNil))))) (asB (dOp gNeA (dCB cRepr (aCons (dCalP F_poly_times (aCons (dVar 7) (aCons (dVar 12) (aNil)))) (aNil))) (dCB cRepr (aCons (dCB cTuple (aCons (dLc (iSeq (dVar 7)) (nN 16) (tYesD) (dOp gMul (dVar 12) (dVar 16)) [16]) (aNil))) (aNil)))))) (sRet (dC (.bl false))) (sNil)) <| sSeq (sFor (iRange2 (aCons (dOp gSub (dC (.int 0)) (dC (.int 9))) (aCons (dC (.int 10)) (aNil)))) (gOf (nN 3)) (f1b_law)) <| sSeq (sAsg (dCalP F_difference_of (aCons (dVar 7) (aNil))) (gN 4)) <| sSeq (sIf (tbOr (asB (dOp gNeA (dVar 4) (dCalP F_n_law_short (aCons (dVar 4) (aNil))))) (asB (dOp gNeA (dCB cLen (aCons (dVar 4) (aNil))) (dCB cMax2 (aCons (dC (.int 0)) (aCons (dOp gSub (dCB cLen (aCons (dCalP F_n_law_short (aCons (dVar 7) (aNil))) (aNil))) (dC (.int 1))) (aNil))))))) (sRet (dC (.bl false))) (sNil)) <| sSeq (sAsg (dLc (iRange2 (aCons (dOp gAdd (dVar 9) (dC (.int 1))) (aCons (dOp gAdd (dVar 11) (dC (.int 1))) (aNil)))) (nN 3) (asB (dOp gNeA (dOp gLt (dCalP F_n_law_at (aCons (dVar 7) (aCons (dVar 3) (aNil)))) (dC (.int 0))) (dOp gLt (dCalP F_n_law_at (aCons (dVar 7) (aCons (dOp gSub (dVar 3) (dC (.int 1))) (aNil)))) (dC (.int 0))))) (dVar 3) [3]) (gN 5)) <| sSeq (sIf (asB (dOp gNeA (dCB cRepr (aCons (dCalP F_sign_turns (aCons (dVar 7) (aCons (dVar 9) (aCons (dVar 11) (aNil))))) (aNil))) (dCB cRepr (aCons (dCB cTuple (aCons (dVar 5) (aNil))) (aNil))))) (sRet (dC (.bl false))) (sNil)) <| sSeq (sAsg (dLc (iRange2 (aCons (dOp gSub (dC (.int 0)) (dVar 10)) (aCons (dOp gAdd (dVar 10) (dC (.int 1))) (aNil)))) (nN 3) (asB (dOp gEqA (dCalP F_n_law_at (aCons (dVar 7) (aCons (dVar 3) (aNil)))) (dC (.int 0)))) (dVar 3) [3]) (gN 6)) <| sIf (tbAnd (asB (dOp gNeA (dCalP F_n_law_short (aCons (dVar 7) (aNil))) (dTup (aNil)))) (asB (dOp gNeA (dCB cRepr (aCons (dCalP F_whole_roots (aCons (dVar 7) (aCons (dVar 10) (aNil)))) (aNil))) (dCB cRepr (aCons (dCB cTuple (aCons (dVar 6) (aNil))) (aNil)))))) (sRet (dC (.bl false))) (sNil)) [a0, a1, a2, a3, a4, a5, a6, some (tp p), some (tp q), some (.int low), some (.int m), some (.int high), some (.int k), a13, a14, a15, a16] S) Q := by
  have mo : ∀ a ∈ p, ∀ b ∈ q, mulOk a b = true := fun a ha b _ => mulOk_l (by have := sp a ha; omega)
  have fs := sum_ok (p := p) (q := q) (by omega) (by omega)
  obtain ⟨r, fr, lr, er⟩ := prod_ok hp1 hq1 (by omega) (by omega) mo
  obtain ⟨d, fd, dF, dE, dD⟩ := diff_ok (p := p) (by omega)
  have ld : d.length = (strip p).length - 1 := by rw [dD, dif_len]
  have ls := strip_len p
  have fst := strip_ok (p := p) (by omega)
  have fsh := short_ok (p := p) (by omega)
  have fsd := short_ok (p := d) (by omega)
  rw [strip_of dF] at fsd
  -- the sum and the product
  refine wo_step (ρ' := [a0, a1, a2, a3, a4, a5, a6, some (tp p), some (tp q), some (.int low), some (.int m), some (.int high), some (.int k), some (tp (psum p q)), some (tp r), a15, a16]) (S' := S) ?_ ?_
  · have e1 : dCalP F_poly_sum (aCons (dVar 7) (aCons (dVar 8) (aNil))) [a0, a1, a2, a3, a4, a5, a6, some (tp p), some (tp q), some (.int low), some (.int m), some (.int high), some (.int k), a13, a14, a15, a16] S = some (tp (psum p q), S) := cal2 (d := tp p) (e := tp q) rfl rfl (tp_pure _) (tp_pure _) fs
    have e2 : dCalP F_poly_product (aCons (dVar 7) (aCons (dVar 8) (aNil))) [a0, a1, a2, a3, a4, a5, a6, some (tp p), some (tp q), some (.int low), some (.int m), some (.int high), some (.int k), a13, a14, a15, a16] S = some (tp r, S) := cal2 (d := tp p) (e := tp q) rfl rfl (tp_pure _) (tp_pure _) fr
    generalize dCalP F_poly_sum (aCons (dVar 7) (aCons (dVar 8) (aNil))) = f1 at e1 ⊢
    generalize dCalP F_poly_product (aCons (dVar 7) (aCons (dVar 8) (aNil))) = f2 at e2 ⊢
    unfold sPar aCons aNil
    rw [e1]
    simp only [bnd_mk, e2]
    rfl
  refine wo_step (if_nil ((or_go (ne_int (i := (max p.length q.length : Nat)) ?_ ?_)).trans (ne_int (i := (p.length : Nat) + (q.length : Nat) - 1) ?_ ?_))) ?_
  · rw [len_tp (p := psum p q) rfl, len_psum]
  · exact call2 (len_tp (p := p) rfl) (len_tp (p := q) rfl) max_nat
  · rw [len_tp (p := r) rfl, lr]
    congr 3
    omega
  · exact op2 (op2 (len_tp (p := p) rfl) (len_tp (p := q) rfl) rfl) rfl rfl
  -- without noughts, so many times
  have rs : ∀ a ∈ strip p, a.natAbs < 2 ^ 64 := fun a ha => by have := sp a (strip_mem ha); omega
  have rt : ∀ a ∈ p.map (k * ·), a.natAbs < 2 ^ 64 := fun a ha => by
    obtain ⟨b, hb, rfl⟩ := List.mem_map.mp ha
    have := sp b hb
    show (k * b).natAbs < 2 ^ 64
    rw [Int.natAbs_mul]
    have : k.natAbs * b.natAbs ≤ 4 * 70000 := Nat.mul_le_mul (by omega) (by omega)
    omega
  have ft := times_ok (p := p) (k := k) (by omega) (by omega)
  have lc : dLc (iSeq (dVar 7)) (nN 16) (tYesD) (dOp gMul (dVar 12) (dVar 16)) [16] [a0, a1, a2, a3, a4, a5, a6, some (tp p), some (tp q), some (.int low), some (.int m), some (.int high), some (.int k), some (tp (psum p q)), some (tp r), a15, a16] S = some (.fl ((p.map (k * ·)).map D.int), S) := by
    rw [List.map_map]
    refine dLc_map (e := D.int) rfl (by omega) fun a ha => ⟨_, rfl, ?_⟩
    have mk : mulOk k a = true := mulOk_l (by omega)
    show (if mulOk k a then some (D.int (k * a), S) else none) = _
    rw [mk]
    rfl
  refine wo_step (if_nil ((or_go (ne_repr (cal1 (d := tp p) rfl (tp_pure _) fst) (cal1 (d := tp p) rfl (tp_pure _) fsh) (repr_tp rs (by omega)))).trans (ne_repr (cal2 (d := tp p) (e := .int k) rfl rfl (tp_pure _) rfl ft) (call1 lc ctup_fl) (repr_tp rt (by rw [List.length_map]; omega))))) ?_
  -- at many places
  refine wo_mid (fun ρ' S' => S' = S ∧ ∃ a3 a15, ρ' = [a0, a1, a2, a3, a4, a5, a6, some (tp p), some (tp q), some (.int low), some (.int m), some (.int high), some (.int k), some (tp (psum p q)), some (tp r), a15, a16]) ?_ ?_
  · unfold sFor
    rw [up_iter (i := -9) (j := 10) (n := 19) rfl (by decide) (by decide), bnd_mk]
    refine wo_for (items := (up (-9) 19).map D.int) (fun i ρ' S' => S' = S ∧ ∃ a3 a15, ρ' = [a0, a1, a2, a3, a4, a5, a6, some (tp p), some (tp q), some (.int low), some (.int m), some (.int high), some (.int k), some (tp (psum p q)), some (tp r), a15, a16]) ⟨rfl, a3, a15, rfl⟩ (fun _ _ _ _ _ => rfl) ?_ ?_
    · rintro i e ρ' S' he ⟨rfl, b3, b15, rfl⟩
      rw [List.getElem?_map, Option.map_eq_some_iff] at he
      obtain ⟨x, hx, rfl⟩ := he
      have hx := up_mem.mp (List.mem_of_getElem? hx)
      refine wo_of (b := ([a0, a1, a2, some (.int x), a4, a5, a6, some (tp p), some (tp q), some (.int low), some (.int m), some (.int high), some (.int k), some (tp (psum p q)), some (tp r), b15, a16], S')) rfl ?_
      refine x_turn hp hq (by omega) sp (by omega) (by omega) er fd dE (by omega) fun a15 => ?_
      exact ⟨rfl, _, a15, rfl⟩
    · rintro ρ' S' ⟨rfl, b3, b15, rfl⟩
      exact ⟨rfl, rfl, b3, b15, rfl⟩
  rintro ρ' S' ⟨rfl, b3, b15, rfl⟩
  -- the difference
  refine wo_step (asg (cal1 (d := tp p) rfl (tp_pure _) fd)) ?_
  refine wo_step (if_nil ((or_go (as_b (op2 (d := tp d) (e := tp d) rfl (cal1 (d := tp d) rfl (tp_pure _) fsd) (cmp_tp (neg := true) d)))).trans (ne_int (i := (d.length : Nat)) (len_tp (p := d) rfl) (call2 (d := .int 0) (e := .int ((strip p).length - 1 : Int)) rfl (op2 (len_tp (cal1 (d := tp p) rfl (tp_pure _) fsh)) rfl rfl) ?_)))) ?_
  · show some (D.int (if ((strip p).length - 1 : Int) > 0 then ((strip p).length - 1 : Int) else 0), S') = _
    rw [ld]
    congr 3
    split <;> omega
  -- where the sign turns
  have fT := turns_ok (p := p) (low := low) (high := high) (by omega) (by omega) (by omega) (by omega) (by omega)
  have lT := Tk_len (bel (ev p)) low high
  have l2 : dLc (iRange2 (aCons (dOp gAdd (dVar 9) (dC (.int 1))) (aCons (dOp gAdd (dVar 11) (dC (.int 1))) (aNil)))) (nN 3) (asB (dOp gNeA (dOp gLt (dCalP F_n_law_at (aCons (dVar 7) (aCons (dVar 3) (aNil)))) (dC (.int 0))) (dOp gLt (dCalP F_n_law_at (aCons (dVar 7) (aCons (dOp MS.gSub (dVar 3) (dC (.int 1))) (aNil)))) (dC (.int 0))))) (dVar 3) [3] [a0, a1, a2, b3, some (tp d), a5, a6, some (tp p), some (tp q), some (.int low), some (.int m), some (.int high), some (.int k), some (tp (psum p q)), some (tp r), b15, a16] S' = some (.fl ((Tk (bel (ev p)) low high).map D.int), S') := by
    unfold Tk
    refine dLc_gen (items := up (low + 1) (high - low).toNat) (e := D.int) (f := D.int) (p := trn (bel (ev p))) (up_iter (i := low + 1) (j := high + 1) rfl (by omega) (by omega)) rfl rfl (by rw [up_len]; omega) fun x hx => ⟨_, rfl, ?_, fun _ => rfl⟩
    have hx := up_mem.mp hx
    have a1 := at_ok (p := p) (x := x) (by omega) (by omega)
    have a2 := at_ok (p := p) (x := x - 1) (by omega) (by omega)
    exact as_b (op2 (op2 (cal2 (d := tp p) (e := .int x) rfl rfl (tp_pure _) rfl a1) rfl rfl) (op2 (cal2 (d := tp p) (e := .int (x - 1)) rfl rfl (tp_pure _) rfl a2) rfl rfl) neA_bl)
  refine wo_step (asg l2) ?_
  have rT : ∀ a ∈ Tk (bel (ev p)) low high, a.natAbs < 2 ^ 64 := fun a ha => by have := (Tk_mem _).mp ha; omega
  refine wo_step (if_nil (ne_repr (d := tp (Tk (bel (ev p)) low high)) (cal3 (d := tp p) (e := .int low) (i := .int high) rfl rfl rfl (tp_pure _) rfl rfl fT) (call1 (d := .fl ((Tk (bel (ev p)) low high).map D.int)) rfl ctup_fl) (repr_tp rT (by omega)))) ?_
  -- the roots
  have fR := roots_ok (p := p) (m := m) (by omega) (by omega) (by omega)
  have lR : (rootsOf p m).length ≤ 100 := by
    unfold rootsOf
    have := List.length_filter_le (zer (ev p)) (up (0 - m) (m + 1 - (0 - m)).toNat)
    rw [up_len] at this
    omega
  have l3 : dLc (iRange2 (aCons (dOp MS.gSub (dC (.int 0)) (dVar 10)) (aCons (dOp gAdd (dVar 10) (dC (.int 1))) (aNil)))) (nN 3) (asB (dOp gEqA (dCalP F_n_law_at (aCons (dVar 7) (aCons (dVar 3) (aNil)))) (dC (.int 0)))) (dVar 3) [3] [a0, a1, a2, b3, some (tp d), some (.fl ((Tk (bel (ev p)) low high).map D.int)), a6, some (tp p), some (tp q), some (.int low), some (.int m), some (.int high), some (.int k), some (tp (psum p q)), some (tp r), b15, a16] S' = some (.fl ((rootsOf p m).map D.int), S') := by
    unfold rootsOf
    refine dLc_gen (items := up (0 - m) (m + 1 - (0 - m)).toNat) (e := D.int) (f := D.int) (p := zer (ev p)) (up_iter (i := 0 - m) (j := m + 1) rfl (by omega) rfl) rfl rfl (by rw [up_len]; omega) fun x hx => ⟨_, rfl, ?_, fun _ => rfl⟩
    have hx := up_mem.mp hx
    have a1 := at_ok (p := p) (x := x) (by omega) (by omega)
    exact as_b (op2 (cal2 (d := tp p) (e := .int x) rfl rfl (tp_pure _) rfl a1) rfl eqA_int)
  refine wo_step (asg l3) ?_
  have rR : ∀ a ∈ rootsOf p m, a.natAbs < 2 ^ 64 := fun a ha => by
    unfold rootsOf at ha
    have := up_mem.mp (List.mem_filter.mp ha).1
    omega
  have c1 : asB (dOp gNeA (dCalP F_n_law_short (aCons (dVar 7) (aNil))) (dTup (aNil))) [a0, a1, a2, b3, some (tp d), some (.fl ((Tk (bel (ev p)) low high).map D.int)), some (.fl ((rootsOf p m).map D.int)), some (tp p), some (tp q), some (.int low), some (.int m), some (.int high), some (.int k), some (tp (psum p q)), some (tp r), b15, a16] S' = some (decide (strip p ≠ []), S') := as_b (op2 (cal1 (d := tp p) rfl (tp_pure _) fsh) tup_nil (ne_empty _))
  have last := ne_repr (d := tp (rootsOf p m)) (f := dCalP F_whole_roots (aCons (dVar 7) (aCons (dVar 10) (aNil)))) (g := dCB cTuple (aCons (dVar 6) (aNil))) (ρ := [a0, a1, a2, b3, some (tp d), some (.fl ((Tk (bel (ev p)) low high).map D.int)), some (.fl ((rootsOf p m).map D.int)), some (tp p), some (tp q), some (.int low), some (.int m), some (.int high), some (.int k), some (tp (psum p q)), some (tp r), b15, a16]) (S := S') (cal2 (d := tp p) (e := .int m) rfl rfl (tp_pure _) rfl fR) (call1 (d := .fl ((rootsOf p m).map D.int)) rfl ctup_fl) (repr_tp rR (by omega))
  by_cases hz : strip p = []
  · rw [decide_eq_false (fun w => w hz)] at c1
    exact wo_of (if_nil (and_no c1)) (kk _ _ _ _ _ _ _)
  · rw [decide_eq_true hz] at c1
    exact wo_of (if_nil ((and_go c1).trans last)) (kk _ _ _ _ _ _ _)
end k53

namespace k53
open PySem PySem.Spec PyProof.Rows L2 MS
theorem draw_at {ρ : MS.Env} {S : Sto} (h1 : ρ[1]? = some (some (.ref 1))) (hS : MS.Drawn S) : Wo (dCalM F_n_law_draw_poly (aCons (dVar 1) (aNil)) ρ S) fun r => ∃ p : List Int, r.1 = tp p ∧ 1 ≤ p.length ∧ p.length ≤ 7 ∧ Small 70000 p ∧ MS.Drawn r.2 ∧ r.2.length = S.length := by
  simp only [dCalM, aCons, aNil, dVar, h1, bnd_mk]
  exact draw_ok hS
theorem lap_turn {S : Sto} (hS : MS.Drawn S) {a0 a2 a3 a4 a5 a6 a7 a8 a9 a10 a11 a12 a13 a14 a15 a16 : Option D} {Q : Out × MS.Env × Sto → Prop}
    (kk : ∀ a3 a4 a5 a6 a7 a8 a9 a10 a11 a12 a13 a14 a15 S', MS.Drawn S' → Q (.nx, [a0, some (.ref 1), a2, a3, a4, a5, a6, a7, a8, a9, a10, a11, a12, a13, a14, a15, a16], S')) :
    Wo (f2b_law [a0, some (.ref 1), a2, a3, a4, a5, a6, a7, a8, a9, a10, a11, a12, a13, a14, a15, a16] S) Q := by
  unfold f2b_law
  refine wo_mid (fun ρ' S' => ∃ p q : List Int, 1 ≤ p.length ∧ p.length ≤ 7 ∧ Small 70000 p ∧ 1 ≤ q.length ∧ q.length ≤ 7 ∧ Small 70000 q ∧ MS.Drawn S' ∧ ρ' = [a0, some (.ref 1), a2, a3, a4, a5, a6, some (tp p), some (tp q), a9, a10, a11, a12, a13, a14, a15, a16]) ?_ ?_
  · have h := fun S (hS : MS.Drawn S) => draw_at (ρ := [a0, some (.ref 1), a2, a3, a4, a5, a6, a7, a8, a9, a10, a11, a12, a13, a14, a15, a16]) (S := S) rfl hS
    generalize dCalM F_n_law_draw_poly (aCons (dVar 1) (aNil)) = f at h ⊢
    unfold sAsg dTup aCons
    simp only [wo_bnd]
    refine (h S hS).mono ?_
    rintro ⟨d, S1⟩ ⟨p, hd, p1, p2, p3, hS1, -⟩
    have hd : d = tp p := hd
    subst hd
    refine (h S1 hS1).mono ?_
    rintro ⟨d, S2⟩ ⟨q, hd, q1, q2, q3, hS2, -⟩
    have hd : d = tp q := hd
    subst hd
    simp only [aNil, wo_some, szOk_2, if_true]
    exact ⟨_, rfl, rfl, p, q, p1, p2, p3, q1, q2, q3, hS2, rfl⟩
  rintro ρ' S1 ⟨p, q, p1, p2, p3, q1, q2, q3, hS1, rfl⟩
  refine wo_mid (fun ρ' S' => ∃ low m : Int, (-20 ≤ low ∧ low ≤ -1) ∧ (0 ≤ m ∧ m ≤ 14) ∧ MS.Drawn S' ∧ ρ' = [a0, some (.ref 1), a2, a3, a4, a5, a6, some (tp p), some (tp q), some (.int low), some (.int m), a11, a12, a13, a14, a15, a16]) ?_ ?_
  · have h := fun S (hS : MS.Drawn S) => pick_at (most := 20) (v := 1) (ρ := [a0, some (.ref 1), a2, a3, a4, a5, a6, some (tp p), some (tp q), a9, a10, a11, a12, a13, a14, a15, a16]) (S := S) rfl hS (by decide) (by decide)
    have h' := fun S (hS : MS.Drawn S) => pick_at (most := 15) (v := 1) (ρ := [a0, some (.ref 1), a2, a3, a4, a5, a6, some (tp p), some (tp q), a9, a10, a11, a12, a13, a14, a15, a16]) (S := S) rfl hS (by decide) (by decide)
    generalize dCalM PG.F_n_law_pick (aCons (dVar 1) (aCons (dC (.int 20)) (aNil))) = f at h ⊢
    generalize dCalM PG.F_n_law_pick (aCons (dVar 1) (aCons (dC (.int 15)) (aNil))) = g at h' ⊢
    unfold sPar aCons dOp
    have gs : ∀ i j S, MS.gSub (.int i) (.int j) S = some (.int (i - j), S) := fun _ _ _ => rfl
    simp only [wo_bnd, dC, wo_some, gs]
    refine (h S1 hS1).mono ?_
    rintro ⟨d, S2⟩ ⟨r, hd, r0, r1, hS2, -⟩
    have hd : d = .int r := hd
    subst hd
    simp only [gs, wo_some]
    refine (h' S2 hS2).mono ?_
    rintro ⟨d, S3⟩ ⟨m, hd, m0, m1, hS3, -⟩
    have hd : d = .int m := hd
    subst hd
    simp only [aNil, wo_some]
    exact ⟨_, rfl, rfl, 0 - 1 - r, m, by omega, by omega, hS3, rfl⟩
  rintro ρ' S2 ⟨low, m, hlow, hm, hS2, rfl⟩
  refine wo_mid (fun ρ' S' => ∃ high k : Int, (low < high ∧ high ≤ low + 40) ∧ (-4 ≤ k ∧ k ≤ 4) ∧ MS.Drawn S' ∧ ρ' = [a0, some (.ref 1), a2, a3, a4, a5, a6, some (tp p), some (tp q), some (.int low), some (.int m), some (.int high), some (.int k), a13, a14, a15, a16]) ?_ ?_
  · have h := fun S (hS : MS.Drawn S) => pick_at (most := 40) (v := 1) (ρ := [a0, some (.ref 1), a2, a3, a4, a5, a6, some (tp p), some (tp q), some (.int low), some (.int m), a11, a12, a13, a14, a15, a16]) (S := S) rfl hS (by decide) (by decide)
    have h' := fun S (hS : MS.Drawn S) => pick_at (most := 9) (v := 1) (ρ := [a0, some (.ref 1), a2, a3, a4, a5, a6, some (tp p), some (tp q), some (.int low), some (.int m), a11, a12, a13, a14, a15, a16]) (S := S) rfl hS (by decide) (by decide)
    generalize dCalM PG.F_n_law_pick (aCons (dVar 1) (aCons (dC (.int 40)) (aNil))) = f at h ⊢
    generalize dCalM PG.F_n_law_pick (aCons (dVar 1) (aCons (dC (.int 9)) (aNil))) = g at h' ⊢
    unfold sAsg dTup aCons dOp
    have gs : ∀ i j S, MS.gSub (.int i) (.int j) S = some (.int (i - j), S) := fun _ _ _ => rfl
    have ga : ∀ i j S, gAdd (.int i) (.int j) S = some (.int (i + j), S) := fun _ _ _ => rfl
    simp only [wo_bnd, dC, dVar, List.getElem?_cons_succ, List.getElem?_cons_zero, wo_some, ga]
    refine (h S2 hS2).mono ?_
    rintro ⟨d, S3⟩ ⟨r, hd, r0, r1, hS3, -⟩
    have hd : d = .int r := hd
    subst hd
    simp only [ga, wo_some]
    refine (h' S3 hS3).mono ?_
    rintro ⟨d, S4⟩ ⟨j, hd, j0, j1, hS4, -⟩
    have hd : d = .int j := hd
    subst hd
    simp only [gs, aNil, wo_some, szOk_2, if_true]
    exact ⟨_, rfl, rfl, low + 1 + r, j - 4, by omega, by omega, hS4, rfl⟩
  rintro ρ' S3 ⟨high, k, hh, hk, hS3, rfl⟩
  refine part_b p1 p2 q1 q2 p3 q3 hlow hm hh hk fun a3 a4 a5 a6 a13 a14 a15 => ?_
  exact kk _ _ _ _ _ _ _ _ _ _ _ _ _ S3 hS3
theorem law_true (ns : List Int) (h : ns.length ≤ 63) : F_law [.rl (ns.map D.int)] = some (.bl true) := by
  refine bodyP_run rfl rfl ?_
  show Wo (b_law [some (.rl (ns.map D.int)), none, none, none, none, none, none, none, none, none, none, none, none, none, none, none, none] []) _
  have hs : Wo (F_n_law_open_cells [.rl (ns.map D.int)] []) fun p => p.1 = .ref 1 ∧ MS.Drawn p.2 ∧ p.2.length = 2 := src_ok h
  generalize D.rl (ns.map D.int) = sc at *
  unfold b_law
  refine wo_mid (fun ρ' S' => MS.Drawn S' ∧ ρ' = [some sc, some (.ref 1), none, none, none, none, none, none, none, none, none, none, none, none, none, none, none]) ?_ ?_
  · simp only [sAsg, sIf, sRet, sRetN, sNil, sPass, sSet, sExpr, sPar, sBrk, sCnt, dC, dVar, dOp, dUn, dIf, dCB, dCalP, dCalM, dMeth, dMeth0, dAnd, dOr, dNot, dIsi, aNil, aCons, asB, tbAnd, tbOr, tbNot, dChain, gN, gOf, nN, nT, nsCons, nsNil, dTup, dLst, dCell, wo_bnd, wo_some, wo_map, wo_bind, wo_if, bnd_mk, List.getElem?_cons_zero, List.getElem?_cons_succ, List.set_cons_zero, List.set_cons_succ, Option.map_some, Option.bind_some, gAdd, MS.gSub, gMul, gMod, gDiv, gLt, gLe, gGt, gGe, gI, gNeg, cInt, cI, cII, cAbs, cMax2, cMin2, decide_eq_true_eq, if_true, if_false, List.zip_cons_cons, List.zip_nil_right, List.foldl_cons, List.foldl_nil, List.length_cons, List.length_nil, Nat.zero_add, Nat.reduceAdd, Bool.false_eq_true, decide_true, decide_false, true_and, and_true, true_implies, implies_true, false_implies, not_true_eq_false, D.pureL, D.pure, D.fitL, D.fit, fit_dPair, fit_ints, Bool.and_true, Bool.true_and, Bool.and_self, wo_none, nn_iff, imp_and', and_false, false_and, szOk_0, szOk_1, szOk_2, szOk_3, szOk_4, szOk_5, szOk_6, szOk_7, szOk_8, eqA_int, neA_int, eqA_str, neA_str, eqA_bl, neA_bl, Bool.not_eq_true', Bool.not_true, Bool.not_false, not_false_eq_true, tyOf, isT, String.reduceBEq, Bool.or_false, Bool.false_or, Bool.and_false, Bool.or_true, Bool.true_or, Bool.false_and]
    refine hs.mono ?_
    rintro ⟨d, S1⟩ ⟨rfl, hS, -⟩
    exact ⟨hS, rfl⟩
  rintro ρ' S1 ⟨hS1, rfl⟩
  refine wo_mid (fun ρ' S' => MS.Drawn S' ∧ ∃ a2 a3 a4 a5 a6 a7 a8 a9 a10 a11 a12 a13 a14 a15 a16, ρ' = [some sc, some (.ref 1), a2, a3, a4, a5, a6, a7, a8, a9, a10, a11, a12, a13, a14, a15, a16]) ?_ ?_
  · unfold sFor
    rw [rng1_eq (j := 4) (n := 4) rfl (by decide) (by decide) rfl, bnd_mk]
    refine wo_for (items := upto 0 4) (fun i ρ' S' => MS.Drawn S' ∧ ∃ a2 a3 a4 a5 a6 a7 a8 a9 a10 a11 a12 a13 a14 a15 a16, ρ' = [some sc, some (.ref 1), a2, a3, a4, a5, a6, a7, a8, a9, a10, a11, a12, a13, a14, a15, a16]) ⟨hS1, none, none, none, none, none, none, none, none, none, none, none, none, none, none, none, rfl⟩ (fun _ _ _ _ _ => rfl) ?_ ?_
    · rintro i d ρ' S' hd ⟨hS, a2, a3, a4, a5, a6, a7, a8, a9, a10, a11, a12, a13, a14, a15, a16, rfl⟩
      have hi : i < 4 := by
        have := (List.getElem?_eq_some_iff.mp hd).1
        rwa [upto_length] at this
      refine wo_of (b := ([some sc, some (.ref 1), some d, a3, a4, a5, a6, a7, a8, a9, a10, a11, a12, a13, a14, a15, a16], S')) rfl ?_
      refine lap_turn hS fun b3 b4 b5 b6 b7 b8 b9 b10 b11 b12 b13 b14 b15 S2 hS2 => ?_
      exact ⟨hS2, _, _, _, _, _, _, _, _, _, _, _, _, _, _, _, rfl⟩
    · rintro ρ' S' ⟨hS, a2, a3, a4, a5, a6, a7, a8, a9, a10, a11, a12, a13, a14, a15, a16, rfl⟩
      exact ⟨rfl, hS, _, _, _, _, _, _, _, _, _, _, _, _, _, _, _, rfl⟩
  rintro ρ' S2 ⟨-, a2, a3, a4, a5, a6, a7, a8, a9, a10, a11, a12, a13, a14, a15, a16, rfl⟩
  have t1 : F_sign_turns [tp [0, 0], .int (-3), .int 3] = some (tp []) := by
    rw [turns_ok (by decide) (by decide) (by decide) (by decide) (by decide)]
    rfl
  have t2 : F_difference_of [tp [7]] = some (tp []) := by
    obtain ⟨d, h1, -, -, h4⟩ := diff_ok (p := [7]) (by decide)
    rw [h1, h4]
    rfl
  have t3 : F_whole_roots [tp [0, 1], .int 0] = some (tp [0]) := by
    rw [roots_ok (by decide) (by decide) (by decide)]
    rfl
  have n0 : ∀ ρ S, dTup (aNil) ρ S = some (tp [], S) := fun _ _ => tup_nil
  have o1 : ∀ S, gEqA (tp []) (tp []) S = some (.bl true, S) := fun S => cmp_tp (neg := false) []
  have o2 : ∀ S, gEqA (tp [0]) (tp [0]) S = some (.bl true, S) := fun S => cmp_tp (neg := false) [0]
  have w1 : ∀ S, dTup (aCons (dC (.int 0)) (aCons (dC (.int 0)) (aNil))) [some sc, some (.ref 1), a2, a3, a4, a5, a6, a7, a8, a9, a10, a11, a12, a13, a14, a15, a16] S = some (tp [0, 0], S) := fun S => by
    show (if szOk [D.int 0, D.int 0] then some (D.tup [.int 0, .int 0], S) else none) = _
    rw [szOk_2]
    rfl
  have w2 : ∀ S, dTup (aCons (dC (.int 7)) (aNil)) [some sc, some (.ref 1), a2, a3, a4, a5, a6, a7, a8, a9, a10, a11, a12, a13, a14, a15, a16] S = some (tp [7], S) := fun S => by
    show (if szOk [D.int 7] then some (D.tup [.int 7], S) else none) = _
    rw [szOk_1]
    rfl
  have w3 : ∀ S, dTup (aCons (dC (.int 0)) (aCons (dC (.int 1)) (aNil))) [some sc, some (.ref 1), a2, a3, a4, a5, a6, a7, a8, a9, a10, a11, a12, a13, a14, a15, a16] S = some (tp [0, 1], S) := fun S => by
    show (if szOk [D.int 0, D.int 1] then some (D.tup [.int 0, .int 1], S) else none) = _
    rw [szOk_2]
    rfl
  have w4 : ∀ S, dTup (aCons (dC (.int 0)) (aNil)) [some sc, some (.ref 1), a2, a3, a4, a5, a6, a7, a8, a9, a10, a11, a12, a13, a14, a15, a16] S = some (tp [0], S) := fun S => by
    show (if szOk [D.int 0] then some (D.tup [.int 0], S) else none) = _
    rw [szOk_1]
    rfl
  have e1 : dOp gEqA (dCalP F_sign_turns (aCons (dTup (aCons (dC (.int 0)) (aCons (dC (.int 0)) (aNil)))) (aCons (dOp MS.gSub (dC (.int 0)) (dC (.int 3))) (aCons (dC (.int 3)) (aNil))))) (dTup (aNil)) [some sc, some (.ref 1), a2, a3, a4, a5, a6, a7, a8, a9, a10, a11, a12, a13, a14, a15, a16] S2 = some (.bl true, S2) := op2 (cal3 (w1 _) (e := .int (-3)) (i := .int 3) rfl rfl (tp_pure _) rfl rfl t1) (n0 _ _) (o1 _)
  have e2 : dOp gEqA (dCalP F_difference_of (aCons (dTup (aCons (dC (.int 7)) (aNil))) (aNil))) (dTup (aNil)) [some sc, some (.ref 1), a2, a3, a4, a5, a6, a7, a8, a9, a10, a11, a12, a13, a14, a15, a16] S2 = some (.bl true, S2) := op2 (cal1 (w2 _) (tp_pure _) t2) (n0 _ _) (o1 _)
  have e3 : dOp gEqA (dCalP F_whole_roots (aCons (dTup (aCons (dC (.int 0)) (aCons (dC (.int 1)) (aNil)))) (aCons (dC (.int 0)) (aNil)))) (dTup (aCons (dC (.int 0)) (aNil))) [some sc, some (.ref 1), a2, a3, a4, a5, a6, a7, a8, a9, a10, a11, a12, a13, a14, a15, a16] S2 = some (.bl true, S2) := op2 (cal2 (w3 _) (e := .int 0) rfl (tp_pure _) rfl t3) (w4 _) (o2 _)
  refine wo_of (b := (.rt (.bl true), [some sc, some (.ref 1), a2, a3, a4, a5, a6, a7, a8, a9, a10, a11, a12, a13, a14, a15, a16], S2)) ?_ rfl
  unfold sRet dAnd
  rw [e1, bnd_mk]
  show bnd (bnd (dOp gEqA (dCalP F_difference_of (aCons (dTup (aCons (dC (.int 7)) (aNil))) (aNil))) (dTup (aNil)) [some sc, some (.ref 1), a2, a3, a4, a5, a6, a7, a8, a9, a10, a11, a12, a13, a14, a15, a16] S2) _) _ = _
  rw [e2, bnd_mk]
  show bnd (dOp gEqA (dCalP F_whole_roots (aCons (dTup (aCons (dC (.int 0)) (aCons (dC (.int 1)) (aNil)))) (aCons (dC (.int 0)) (aNil)))) (dTup (aCons (dC (.int 0)) (aNil))) [some sc, some (.ref 1), a2, a3, a4, a5, a6, a7, a8, a9, a10, a11, a12, a13, a14, a15, a16] S2) _ = _
  rw [e3, bnd_mk]
end k53

namespace k53
open PySem PySem.Spec PyProof.Rows L2 MS
def d_n_law_open_cells : He.DefD := ⟨("_law_open_cells", none), "_law_open_cells", "_law_open_cells", defArgs S_n_law_open_cells, defBody S_n_law_open_cells, defScope S_n_law_open_cells, [], []⟩
def d_without_noughts : He.DefD := ⟨("without_noughts", none), "without_noughts", "without_noughts", defArgs S_without_noughts, defBody S_without_noughts, defScope S_without_noughts, [], []⟩
def d_poly_sum : He.DefD := ⟨("poly_sum", none), "poly_sum", "poly_sum", defArgs S_poly_sum, defBody S_poly_sum, defScope S_poly_sum, [], []⟩
def d_poly_product : He.DefD := ⟨("poly_product", none), "poly_product", "poly_product", defArgs S_poly_product, defBody S_poly_product, defScope S_poly_product, [], []⟩
def d_poly_times : He.DefD := ⟨("poly_times", none), "poly_times", "poly_times", defArgs S_poly_times, defBody S_poly_times, defScope S_poly_times, [], []⟩
def d_difference_of : He.DefD := ⟨("difference_of", none), "difference_of", "difference_of", defArgs S_difference_of, defBody S_difference_of, defScope S_difference_of, [], []⟩
def d_n_law_pick : He.DefD := ⟨("_law_pick", none), "_law_pick", "_law_pick", defArgs S_n_law_pick, defBody S_n_law_pick, defScope S_n_law_pick, [], []⟩
def d_n_law_draw_poly : He.DefD := ⟨("_law_draw_poly", none), "_law_draw_poly", "_law_draw_poly", defArgs S_n_law_draw_poly, defBody S_n_law_draw_poly, defScope S_n_law_draw_poly, [], []⟩
def d_poly_at : He.DefD := ⟨("poly_at", none), "poly_at", "poly_at", defArgs S_poly_at, defBody S_poly_at, defScope S_poly_at, [], []⟩
def d_is_below : He.DefD := ⟨("is_below", none), "is_below", "is_below", defArgs S_is_below, defBody S_is_below, defScope S_is_below, [], []⟩
def d_first_turned : He.DefD := ⟨("first_turned", none), "first_turned", "first_turned", defArgs S_first_turned, defBody S_first_turned, defScope S_first_turned, [], []⟩
def d_sign_turns : He.DefD := ⟨("sign_turns", none), "sign_turns", "sign_turns", defArgs S_sign_turns, defBody S_sign_turns, defScope S_sign_turns, [], []⟩
def d_whole_roots : He.DefD := ⟨("whole_roots", none), "whole_roots", "whole_roots", defArgs S_whole_roots, defBody S_whole_roots, defScope S_whole_roots, [], []⟩
def d_n_law_at : He.DefD := ⟨("_law_at", none), "_law_at", "_law_at", defArgs S_n_law_at, defBody S_n_law_at, defScope S_n_law_at, [], []⟩
def d_n_law_short : He.DefD := ⟨("_law_short", none), "_law_short", "_law_short", defArgs S_n_law_short, defBody S_n_law_short, defScope S_n_law_short, [], []⟩
def d_law : He.DefD := ⟨("law", none), "law", "law", defArgs S_law, defBody S_law, defScope S_law, [], []⟩
def fn : List He.DefD := [d_n_law_open_cells, d_without_noughts, d_poly_sum, d_poly_product, d_poly_times, d_difference_of, d_n_law_pick, d_n_law_draw_poly, d_poly_at, d_is_below, d_first_turned, d_sign_turns, d_whole_roots, d_n_law_at, d_n_law_short, d_law]
def fa : List He.Fa := [.glo "_law_open_cells", .glo "without_noughts", .glo "poly_sum", .glo "poly_product", .glo "poly_times", .glo "difference_of", .glo "_law_pick", .glo "_law_draw_poly", .glo "poly_at", .glo "is_below", .glo "first_turned", .glo "sign_turns", .glo "whole_roots", .glo "_law_at", .glo "_law_short", .glo "law", .free "abs", .free "enumerate", .free "int", .free "len", .free "list", .free "max", .free "range", .free "repr", .free "sorted", .free "tuple", .free "zip"]
abbrev R : PySem.W.OpenRow := PySem.W.OpenLaw.row PySem.Challenge.rw_leastwholes_k53_whole_polynomials_and_ro
abbrev hk : PySem.W.Hook := He.hookD 4 fa fn
def ob (s : PySem.W.SharedT) : He.AlD := He.obsDG 4 fa fn (HandSHeadRun.getT s)
theorem ob_eq (s : PySem.W.SharedT) : ob s = hk.obs s.abs := He.obsDG_eq (HandSHeadRun.getT_eq s)
def loose : List Str := ["poly_at", "poly_sum", "poly_product", "poly_times", "without_noughts", "difference_of", "is_below", "first_turned", "sign_turns", "whole_roots", "_law_open_cells", "_law_pick", "_law_at", "_law_draw_poly", "_law_short"]
theorem run (w : World) : HandSHeadRun.RunEq R (PySem.W.view R.prog [17]) hk ob 3000 loose w := by
  intro os
  kernel_rfl
theorem facts {P : Program} {w : World} {K : PySem.W.Frag} {h : Heap} {mg : Str → Option Value} {f : Addr} (X : K.In h) (G : h.Ns mainGlobals mg) (hfa : mg ("law" : Str) = some (.ref f)) (c : He.SaysD fa fn K) :
    ∃ fd : FuncData, (∀ (s : Shared) (v : Value), BindsTo s fd ⟨[v], []⟩ [("script", v)]) ∧ ∀ base : Heap, K.In base → base.Ns mainGlobals mg → FnG P w K mg base CX0 6 f fd ["script"] (spLaw K) := by
  obtain ⟨fd_n_law_open_cells, F_n_law_open_cells⟩ := c.def_ 0 (d := d_n_law_open_cells) rfl
  obtain ⟨fd_without_noughts, F_without_noughts⟩ := c.def_ 1 (d := d_without_noughts) rfl
  obtain ⟨fd_poly_sum, F_poly_sum⟩ := c.def_ 2 (d := d_poly_sum) rfl
  obtain ⟨fd_poly_product, F_poly_product⟩ := c.def_ 3 (d := d_poly_product) rfl
  obtain ⟨fd_poly_times, F_poly_times⟩ := c.def_ 4 (d := d_poly_times) rfl
  obtain ⟨fd_difference_of, F_difference_of⟩ := c.def_ 5 (d := d_difference_of) rfl
  obtain ⟨fd_n_law_pick, F_n_law_pick⟩ := c.def_ 6 (d := d_n_law_pick) rfl
  obtain ⟨fd_n_law_draw_poly, F_n_law_draw_poly⟩ := c.def_ 7 (d := d_n_law_draw_poly) rfl
  obtain ⟨fd_poly_at, F_poly_at⟩ := c.def_ 8 (d := d_poly_at) rfl
  obtain ⟨fd_is_below, F_is_below⟩ := c.def_ 9 (d := d_is_below) rfl
  obtain ⟨fd_first_turned, F_first_turned⟩ := c.def_ 10 (d := d_first_turned) rfl
  obtain ⟨fd_sign_turns, F_sign_turns⟩ := c.def_ 11 (d := d_sign_turns) rfl
  obtain ⟨fd_whole_roots, F_whole_roots⟩ := c.def_ 12 (d := d_whole_roots) rfl
  obtain ⟨fd_n_law_at, F_n_law_at⟩ := c.def_ 13 (d := d_n_law_at) rfl
  obtain ⟨fd_n_law_short, F_n_law_short⟩ := c.def_ 14 (d := d_n_law_short) rfl
  obtain ⟨fd_law, F_law⟩ := c.def_ 15 (d := d_law) rfl
  cases hfa.symm.trans (He.glo_ok X G (c.fact 15 (f := .glo "law") rfl))
  have b := FunD.bindsA (ps := ["script"]) F_law fun _ _ _ _ _ _ us hl => match us, hl with | [_], _ => rfl
  have g_abs : mg "abs" = none := He.free_ok X G (c.fact 16 (f := .free "abs") rfl)
  have g_enumerate : mg "enumerate" = none := He.free_ok X G (c.fact 17 (f := .free "enumerate") rfl)
  have g_int : mg "int" = none := He.free_ok X G (c.fact 18 (f := .free "int") rfl)
  have g_len : mg "len" = none := He.free_ok X G (c.fact 19 (f := .free "len") rfl)
  have g_list : mg "list" = none := He.free_ok X G (c.fact 20 (f := .free "list") rfl)
  have g_max : mg "max" = none := He.free_ok X G (c.fact 21 (f := .free "max") rfl)
  have g_range : mg "range" = none := He.free_ok X G (c.fact 22 (f := .free "range") rfl)
  have g_repr : mg "repr" = none := He.free_ok X G (c.fact 23 (f := .free "repr") rfl)
  have g_sorted : mg "sorted" = none := He.free_ok X G (c.fact 24 (f := .free "sorted") rfl)
  have g_tuple : mg "tuple" = none := He.free_ok X G (c.fact 25 (f := .free "tuple") rfl)
  have g_zip : mg "zip" = none := He.free_ok X G (c.fact 26 (f := .free "zip") rfl)
  refine ⟨fd_law, fun s v => b s [v] rfl, fun base _ _ => ?_⟩
  have c_n_law_open_cells := cal_n_law_open_cells (P := P) (w := w) (base := base) F_n_law_open_cells (He.glo_ok X G (c.fact 0 (f := .glo "_law_open_cells") rfl)) g_int g_abs
  have c_without_noughts := cal_without_noughts (P := P) (w := w) (base := base) F_without_noughts (He.glo_ok X G (c.fact 1 (f := .glo "without_noughts") rfl)) g_len
  have c_poly_sum := cal_poly_sum (P := P) (w := w) (base := base) F_poly_sum (He.glo_ok X G (c.fact 2 (f := .glo "poly_sum") rfl)) g_len g_max g_zip g_tuple
  have c_poly_product := cal_poly_product (P := P) (w := w) (base := base) F_poly_product (He.glo_ok X G (c.fact 3 (f := .glo "poly_product") rfl)) g_len g_enumerate g_tuple
  have c_poly_times := cal_poly_times (P := P) (w := w) (base := base) F_poly_times (He.glo_ok X G (c.fact 4 (f := .glo "poly_times") rfl)) g_tuple
  have c_difference_of := cal_difference_of (P := P) (w := w) (base := base) F_difference_of (He.glo_ok X G (c.fact 5 (f := .glo "difference_of") rfl)) c_poly_sum c_poly_product c_without_noughts c_poly_times
  have c_n_law_pick := cal_n_law_pick (P := P) (w := w) (base := base) F_n_law_pick (He.glo_ok X G (c.fact 6 (f := .glo "_law_pick") rfl)) g_len g_int
  have c_n_law_draw_poly := cal_n_law_draw_poly (P := P) (w := w) (base := base) F_n_law_draw_poly (He.glo_ok X G (c.fact 7 (f := .glo "_law_draw_poly") rfl)) c_n_law_pick g_range g_zip g_tuple
  have c_poly_at := cal_poly_at (P := P) (w := w) (base := base) F_poly_at (He.glo_ok X G (c.fact 8 (f := .glo "poly_at") rfl))
  have c_is_below := cal_is_below (P := P) (w := w) (base := base) F_is_below (He.glo_ok X G (c.fact 9 (f := .glo "is_below") rfl)) c_poly_at
  have c_first_turned := cal_first_turned (P := P) (w := w) (base := base) F_first_turned (He.glo_ok X G (c.fact 10 (f := .glo "first_turned") rfl)) c_is_below
  have c_sign_turns := cal_sign_turns (P := P) (w := w) (base := base) F_sign_turns (He.glo_ok X G (c.fact 11 (f := .glo "sign_turns") rfl)) c_without_noughts c_difference_of c_is_below c_first_turned g_len g_zip g_list g_tuple
  have c_whole_roots := cal_whole_roots (P := P) (w := w) (base := base) F_whole_roots (He.glo_ok X G (c.fact 12 (f := .glo "whole_roots") rfl)) c_sign_turns c_poly_times c_poly_at g_sorted g_zip g_range g_list g_tuple
  have c_n_law_at := cal_n_law_at (P := P) (w := w) (base := base) F_n_law_at (He.glo_ok X G (c.fact 13 (f := .glo "_law_at") rfl))
  have c_n_law_short := cal_n_law_short (P := P) (w := w) (base := base) F_n_law_short (He.glo_ok X G (c.fact 14 (f := .glo "_law_short") rfl))
  exact law_imp (ok_law F_law c_n_law_open_cells c_n_law_draw_poly c_n_law_pick c_poly_product c_poly_sum c_without_noughts c_n_law_short c_poly_times c_n_law_at c_poly_at c_difference_of c_sign_turns c_whole_roots g_range g_len g_max g_repr g_tuple) law_true
end k53
open PySem PySem.W PySem.Calls PyProof.Rows
theorem PySem.Challenge.cw_leastwholes_k53_whole_polynomials_and_ro_holds : PySem.Challenge.rw_leastwholes_k53_whole_polynomials_and_ro.Holds := by
  w_on; o_law
  refine HandSHeadRun.head_any (r := k53.R) (q := view (k53.R).prog [17]) (H := k53.hk) (ob := k53.ob) (M := 3000) (loose := k53.loose) (d := HandSHeadRun.topDef (k53.R).prog 17) (kwd := []) k53.ob_eq
    (by kernel_rfl) (fun s => by kernel_rfl) k53.run (by kernel_rfl) (by kernel_rfl) (by kernel_rfl) (by rfl) (by first | assumption | decide +kernel) (by decide +kernel) ⟨rfl, rfl, rfl, rfl, rfl, by decide +kernel⟩ ?hw ?hc
  case hw => w_witness2
  case hc =>
    refine MS.walkG (l := PySem.Challenge.rw_leastwholes_k53_whole_polynomials_and_ro) (k := 6) rfl (by kernel_rfl) ⟨⟨rfl, by decide, by decide⟩, rfl⟩ ?F
    intro w mg fa h Y G hmg0
    obtain ⟨K, KX, c⟩ := Y
    have hmg : mg ("law" : PySem.Str) = some (.ref fa) := by
      have e : (HandSHeadRun.topDef (k53.R).prog 17).name = ("law" : PySem.Str) := by kernel_rfl
      rw [← e]
      exact hmg0
    obtain ⟨fd, hb, hF⟩ := k53.facts (P := (PySem.Challenge.rw_leastwholes_k53_whole_polynomials_and_ro).prog) (w := w) KX G hmg c
    exact ⟨K, fd, KX, hb, hF⟩
