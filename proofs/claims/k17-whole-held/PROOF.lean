import PyProof.Rows.All
import Wide.All
import OpenK.AllK
import Wide.FinOn
import HandS.Base
import HandS.Call
import HandS.List
import HandS.Comp
import HandS.Dict
import HandS.Iter
import HandS.Text
import HandS.Exc
import HandS.Words
import HandS.Walk
import HandS.Defaults
import HandS.CallSlots
import HandS.Style
import HandS.MakeKw
import HandS.ExcOwn
import HandS.Ends
import HandS.WordsExc
import PySem.Challenge.RW_strokesgiven_k17_whole_held
set_option linter.all false
set_option maxRecDepth 100000
set_option autoImplicit false
set_option maxHeartbeats 4000000
/-! DL1: data, worlds, the readings of expressions and statements that speak of data alone. -/
namespace DL
open PySem PySem.Spec PyProof.Rows L2

/-! ### data -/
inductive D where
  | non
  | bl (b : Bool)
  | int (i : Int)
  | str (x : Str)
  | tup (xs : List D)
  | lst (xs : List D)
  | ins (c : Str) (fs : List Str) (xs : List D)
  | dic (ks : List Key) (xs : List D)
  | exc (c : Str) (fs : List Str) (xs : List D)
  | town
  | scr (ns : List Int)

structure Wd where
  G : Hp
  T : Option (Addr × Addr)
structure Wd.le (W W' : Wd) : Prop where
  g : Same W.G W'.G
  t : ∀ p, W.T = some p → W'.T = some p
theorem Wd.le.refl (W : Wd) : W.le W := ⟨Same.refl _, fun _ h => h⟩
theorem Wd.le.trans {W W1 W2 : Wd} (a : W.le W1) (b : W1.le W2) : W.le W2 := ⟨a.g.trans b.g, fun p h => b.t p (a.t p h)⟩
theorem seqL_mono {K : PySem.W.Frag} {H H' : Hp} {a : Addr} {xs : List V} (e : Same H H') (h : SqL K H a xs) : SqL K H' a xs := by
  rcases h with (h | ⟨o, h⟩) | h
  · exact .inl (.inl (e _ _ h))
  · exact .inl (.inr ⟨o, e _ _ h⟩)
  · exact .inr h
theorem seqT_mono {K : PySem.W.Frag} {H H' : Hp} {a : Addr} {xs : List V} (e : Same H H') (h : SqT K H a xs) : SqT K H' a xs := by
  rcases h with (h | ⟨o, h⟩) | h
  · exact .inl (.inl (e _ _ h))
  · exact .inl (.inr ⟨o, e _ _ h⟩)
  · exact .inr h

def ExO (c : Value) (dx : Option Addr) (a : Addr) : HO := .ext fun h => ∃ (oe : Obj) (fl : Array Value), h.get? a = some oe ∧ Zc c dx oe ∧ oe.data = .fields fl

def SOk (x : Str) : Prop := x.length ≤ sizeLine ∧ (x.cps.all (· < 0x110000)) = true
section
variable (K : PySem.W.Frag) (mg : Str → Option Value)
mutual
def DV (W : Wd) : D → V → Prop
  | .non, v => v = .non
  | .bl b, v => v = .bl b
  | .int i, v => v = .int i
  | .str x, v => v = .str x ∧ SOk x
  | .tup ds, v => ∃ a vs, v = .ref a ∧ SqT K W.G a vs ∧ vs.length ≤ sizeLine ∧ DVs W ds vs
  | .lst ds, v => ∃ a vs, v = .ref a ∧ W.G a = some (.lst vs) ∧ vs.length ≤ sizeLine ∧ DVs W ds vs
  | .ins c fs ds, v => ∃ a C dx vs, v = .ref a ∧ mg c = some (.ref C) ∧ W.G a = some (.ins C dx (fs.zip vs)) ∧ fs.length = vs.length ∧ DVs W ds vs
  | .dic ks ds, v => ∃ a vs, v = .ref a ∧ W.G a = some (.dK (ks.zip vs)) ∧ ks.length = vs.length ∧ DVs W ds vs
  | .exc c fs ds, v => ∃ a C dx vs, v = .ref a ∧ mg c = some (.ref C) ∧ W.G a = some (ExO (.ref C) dx a) ∧ fs.length = vs.length ∧
      (match dx with | none => fs = [] | some d => W.G d = some (.xd (fs.zip vs))) ∧ DVs W ds vs
  | .town, v => ∃ a r, v = .ref a ∧ W.T = some (a, r)
  | .scr ns, v => ∃ a, v = .ref a ∧ SqL K W.G a (ns.map V.int) ∧ ns.length ≤ 63
def DVs (W : Wd) : List D → List V → Prop
  | [], vs => vs = []
  | d :: ds, vs => ∃ v vr, vs = v :: vr ∧ DV W d v ∧ DVs W ds vr
end
end
section
variable {K : PySem.W.Frag} {mg : Str → Option Value} {W W' : Wd}
mutual
theorem DV.mono (h : W.le W') : ∀ (d : D) (v : V), DV K mg W d v → DV K mg W' d v
  | .non, v, x => by simpa only [DV] using x
  | .bl b, v, x => by simpa only [DV] using x
  | .int i, v, x => by simpa only [DV] using x
  | .str y, v, x => by simpa only [DV] using x
  | .tup ds, v, x => by
    simp only [DV] at x ⊢
    obtain ⟨a, vs, e, s, l, r⟩ := x
    exact ⟨a, vs, e, seqT_mono h.g s, l, DVs.mono h ds vs r⟩
  | .lst ds, v, x => by
    simp only [DV] at x ⊢
    obtain ⟨a, vs, e, s, l, r⟩ := x
    exact ⟨a, vs, e, h.g _ _ s, l, DVs.mono h ds vs r⟩
  | .ins c fs ds, v, x => by
    simp only [DV] at x ⊢
    obtain ⟨a, C, dx, vs, e, m, g, l, r⟩ := x
    exact ⟨a, C, dx, vs, e, m, h.g _ _ g, l, DVs.mono h ds vs r⟩
  | .dic ks ds, v, x => by
    simp only [DV] at x ⊢
    obtain ⟨a, vs, e, g, l, r⟩ := x
    exact ⟨a, vs, e, h.g _ _ g, l, DVs.mono h ds vs r⟩
  | .exc c fs ds, v, x => by
    simp only [DV] at x ⊢
    obtain ⟨a, C, dx, vs, e, m, g, l, d, r⟩ := x
    refine ⟨a, C, dx, vs, e, m, h.g _ _ g, l, ?_, DVs.mono h ds vs r⟩
    cases dx with
    | none => exact d
    | some q => exact h.g _ _ d
  | .town, v, x => by
    simp only [DV] at x ⊢
    obtain ⟨a, r, e, t⟩ := x
    exact ⟨a, r, e, h.t _ t⟩
  | .scr ns, v, x => by
    simp only [DV] at x ⊢
    obtain ⟨a, e, s, l⟩ := x
    exact ⟨a, e, seqL_mono h.g s, l⟩
theorem DVs.mono (h : W.le W') : ∀ (ds : List D) (vs : List V), DVs K mg W ds vs → DVs K mg W' ds vs
  | [], vs, x => by simpa only [DVs] using x
  | d :: ds, vs, x => by
    simp only [DVs] at x ⊢
    obtain ⟨v, vr, e, r, t⟩ := x
    exact ⟨v, vr, e, DV.mono h d v r, DVs.mono h ds vr t⟩
end
theorem dvs_nil : DVs K mg W [] [] := by simp only [DVs]
theorem dvs_cons {d : D} {v : V} {ds : List D} {vs : List V} (h : DV K mg W d v) (t : DVs K mg W ds vs) : DVs K mg W (d :: ds) (v :: vs) := by
  simp only [DVs]; exact ⟨v, vs, rfl, h, t⟩
theorem dvs_len : ∀ {ds : List D} {vs : List V}, DVs K mg W ds vs → ds.length = vs.length
  | [], vs, x => by simp only [DVs] at x; subst x; rfl
  | d :: ds, vs, x => by
    simp only [DVs] at x
    obtain ⟨v, vr, e, _, t⟩ := x
    rw [e, List.length_cons, List.length_cons, dvs_len t]
theorem dvs_app : ∀ {ds es : List D} {vs ws : List V}, DVs K mg W ds vs → DVs K mg W es ws → DVs K mg W (ds ++ es) (vs ++ ws)
  | [], es, vs, ws, x, y => by simp only [DVs] at x; rw [x]; exact y
  | d :: ds, es, vs, ws, x, y => by
    simp only [DVs] at x
    obtain ⟨v, vr, e, r, t⟩ := x
    rw [e]
    exact dvs_cons r (dvs_app t y)
theorem dvs_get : ∀ {ds : List D} {vs : List V} {i : Nat} {d : D}, DVs K mg W ds vs → ds[i]? = some d → ∃ v, vs[i]? = some v ∧ DV K mg W d v
  | [], vs, i, d, x, e => by simp at e
  | d' :: ds, vs, 0, d, x, e => by
    simp only [DVs] at x
    obtain ⟨v, vr, e', r, t⟩ := x
    simp at e
    exact ⟨v, by rw [e']; rfl, by rw [← e]; exact r⟩
  | d' :: ds, vs, i + 1, d, x, e => by
    simp only [DVs] at x
    obtain ⟨v, vr, e', r, t⟩ := x
    obtain ⟨w, h1, h2⟩ := dvs_get (i := i) (d := d) t (by simpa using e)
    exact ⟨w, by rw [e']; simpa using h1, h2⟩
theorem dvs_getV {ds : List D} {vs : List V} {i : Nat} {v : V} (x : DVs K mg W ds vs) (e : vs[i]? = some v) : ∃ d, ds[i]? = some d ∧ DV K mg W d v := by
  have hi := (List.getElem?_eq_some_iff.mp e).1
  have hl := dvs_len x
  obtain ⟨d, hd⟩ : ∃ d, ds[i]? = some d := ⟨ds[i], by simp [hl, hi]⟩
  obtain ⟨w, h1, h2⟩ := dvs_get x hd
  rw [e] at h1
  cases h1
  exact ⟨d, hd, h2⟩
theorem dvs_set : ∀ {ds : List D} {vs : List V} {i : Nat} {d : D} {v : V}, DVs K mg W ds vs → DV K mg W d v → DVs K mg W (ds.set i d) (vs.set i v)
  | [], vs, i, d, v, x, y => by simp only [DVs] at x; rw [x]; exact dvs_nil
  | d' :: ds, vs, 0, d, v, x, y => by
    simp only [DVs] at x
    obtain ⟨v', vr, e', r, t⟩ := x
    rw [e']
    exact dvs_cons y t
  | d' :: ds, vs, i + 1, d, v, x, y => by
    simp only [DVs] at x
    obtain ⟨v', vr, e', r, t⟩ := x
    rw [e']
    exact dvs_cons r (dvs_set t y)
theorem dvs_take : ∀ {ds : List D} {vs : List V} (n : Nat), DVs K mg W ds vs → DVs K mg W (ds.take n) (vs.take n)
  | _, _, 0, _ => by simp only [List.take_zero]; exact dvs_nil
  | [], vs, n + 1, x => by simp only [DVs] at x; rw [x]; exact dvs_nil
  | d :: ds, vs, n + 1, x => by
    simp only [DVs] at x
    obtain ⟨v, vr, e, r, t⟩ := x
    rw [e]
    exact dvs_cons r (dvs_take n t)
theorem dvs_drop : ∀ {ds : List D} {vs : List V} (n : Nat), DVs K mg W ds vs → DVs K mg W (ds.drop n) (vs.drop n)
  | _, _, 0, x => by simpa only [List.drop_zero] using x
  | [], vs, n + 1, x => by simp only [DVs] at x; rw [x]; exact dvs_nil
  | d :: ds, vs, n + 1, x => by
    simp only [DVs] at x
    obtain ⟨v, vr, e, r, t⟩ := x
    rw [e]
    exact dvs_drop n t
theorem dvs_ints : ∀ {ns : List Int} {vs : List V}, DVs K mg W (ns.map D.int) vs → vs = ns.map V.int
  | [], vs, x => by simpa only [List.map_nil, DVs] using x
  | n :: ns, vs, x => by
    rw [List.map_cons] at x
    simp only [DVs] at x
    obtain ⟨v, vr, e, r, t⟩ := x
    simp only [DV] at r
    rw [e, r, dvs_ints t, List.map_cons]
theorem dvs_ofInts : ∀ (ns : List Int), DVs K mg W (ns.map D.int) (ns.map V.int)
  | [] => dvs_nil
  | n :: ns => dvs_cons (by simp only [DV]) (dvs_ofInts ns)
theorem dvs_bls : ∀ {ns : List Bool} {vs : List V}, DVs K mg W (ns.map D.bl) vs → vs = ns.map V.bl
  | [], vs, x => by simpa only [List.map_nil, DVs] using x
  | n :: ns, vs, x => by
    rw [List.map_cons] at x
    simp only [DVs] at x
    obtain ⟨v, vr, e, r, t⟩ := x
    simp only [DV] at r
    rw [e, r, dvs_bls t, List.map_cons]
theorem dvs_strs : ∀ {ns : List Str} {vs : List V}, DVs K mg W (ns.map D.str) vs → vs = ns.map V.str
  | [], vs, x => by simpa only [List.map_nil, DVs] using x
  | n :: ns, vs, x => by
    rw [List.map_cons] at x
    simp only [DVs] at x
    obtain ⟨v, vr, e, r, t⟩ := x
    simp only [DV] at r
    rw [e, r.1, dvs_strs t, List.map_cons]
end

/-! ### the town: {'count': c, 'rests': {..}} -/
def TownAt (H : Hp) (a r : Addr) : Prop :=
  a ≠ r ∧ ∃ (c : Int) (kvs : List (Key × V)), H a = some (.dK [(Sum.inr "count", .int c), (Sum.inr "rests", .ref r)]) ∧ H r = some (.dK kvs) ∧ kvs.length ≤ 64 ∧
    (∀ p ∈ kvs, ∃ k n : Int, p = (Sum.inl k, V.int n) ∧ 0 ≤ k ∧ k < 64) ∧ (kvs.map (·.1)).Nodup

/-! ### slots -/
inductive S where
  | un
  | val (d : D)
  | own (xs : List D)
  | dct (kvs : List (Key × D))
  | slf (a : Addr) (c : Str) (fs : List Str) (xs : List D)
abbrev Rho := List S
def S.isOwn : S → Bool
  | .un => false
  | .val _ => false
  | _ => true
def free (W : Wd) (F : Hp) (a : Addr) : Prop := W.G a = none ∧ F a = none ∧ ∀ p, W.T = some p → p.1 ≠ a ∧ p.2 ≠ a
section
variable (K : PySem.W.Frag) (mg : Str → Option Value)
def holdS (W : Wd) (H : Hp) (a : Addr) : S → Prop
  | .own ds => ∃ vs, H a = some (.lst vs) ∧ vs.length ≤ sizeLine ∧ DVs K mg W ds vs
  | .dct kvs => ∃ vs, H a = some (.dK ((kvs.map (·.1)).zip vs)) ∧ DVs K mg W (kvs.map (·.2)) vs
  | .slf b c fs ds => b = a ∧ ∃ C dx vs, mg c = some (.ref C) ∧ H a = some (.ins C dx (fs.zip vs)) ∧ fs.length = vs.length ∧ DVs K mg W ds vs
  | _ => False
def SV (W : Wd) (F H : Hp) : S → V → Prop
  | .un, _ => True
  | .val d, v => DV K mg W d v
  | s, v => ∃ a, v = .ref a ∧ holdS K mg W H a s ∧ free W F a
def SlotOk (W : Wd) (F H : Hp) (o : Option (Option V)) (s : S) : Prop := s = .un ∨ ∃ v, o = some (some v) ∧ SV K mg W F H s v
end
structure WOk (W : Wd) (F H : Hp) : Prop where
  g : Same W.G H
  f : Same F H
  gf : ∀ a, F a ≠ none → W.G a = none
  t : ∀ p, W.T = some p → TownAt H p.1 p.2 ∧ W.G p.1 = none ∧ W.G p.2 = none ∧ F p.1 = none ∧ F p.2 = none
def OwnsAt (σ : L2.St) (ρ : Rho) (i : Nat) (a : Addr) : Prop := ∃ s, ρ[i]? = some s ∧ s.isOwn = true ∧ σ[i]? = some (some (.ref a))
structure Rep (K : PySem.W.Frag) (mg : Str → Option Value) (W : Wd) (F H : Hp) (σ : L2.St) (ρ : Rho) : Prop where
  w : WOk W F H
  len : ρ.length = σ.length
  sl : ∀ (i : Nat) (s : S), ρ[i]? = some s → SlotOk K mg W F H σ[i]? s
  sep : ∀ (i j : Nat) (a : Addr), i ≠ j → OwnsAt σ ρ i a → OwnsAt σ ρ j a → False

section
variable {K : PySem.W.Frag} {mg : Str → Option Value} {W W' : Wd} {F F' H H' : Hp} {σ : L2.St} {ρ : Rho}
theorem free.fresh (w : WOk W F H) {p : Addr} (hp : H p = none) : free W F p := by
  have n : ∀ {H0 : Hp}, Same H0 H → H0 p = none := fun {H0} e => by
    cases q : H0 p with
    | none => rfl
    | some o => rw [e p o q] at hp; cases hp
  refine ⟨n w.g, n w.f, fun q hq => ?_⟩
  obtain ⟨⟨_, c, kvs, h1, h2, _⟩, _⟩ := w.t q hq
  exact ⟨ne_of_none h1 hp, ne_of_none h2 hp⟩
theorem holdS.own {s : S} {a : Addr} (h : holdS K mg W H a s) : s.isOwn = true := by
  cases s <;> first | rfl | exact h.elim
theorem holdS.there {s : S} {a : Addr} (h : holdS K mg W H a s) : ∃ o, H a = some o := by
  cases s with
  | un => exact h.elim
  | val d => exact h.elim
  | own ds => obtain ⟨vs, e, _⟩ := h; exact ⟨_, e⟩
  | dct kvs => obtain ⟨vs, e, _⟩ := h; exact ⟨_, e⟩
  | slf b c fs ds => obtain ⟨_, C, dx, vs, _, e, _⟩ := h; exact ⟨_, e⟩
theorem holdS.mono (le : W.le W') {s : S} {a : Addr} (he : H' a = H a) (h : holdS K mg W H a s) : holdS K mg W' H' a s := by
  cases s with
  | un => exact h.elim
  | val d => exact h.elim
  | own ds => obtain ⟨vs, e, l, r⟩ := h; exact ⟨vs, he.trans e, l, DVs.mono le _ _ r⟩
  | dct kvs => obtain ⟨vs, e, r⟩ := h; exact ⟨vs, he.trans e, DVs.mono le _ _ r⟩
  | slf b c fs ds => obtain ⟨q, C, dx, vs, m, e, l, r⟩ := h; exact ⟨q, C, dx, vs, m, he.trans e, l, DVs.mono le _ _ r⟩
theorem SV.ofOwn {s : S} {v : V} (o : s.isOwn = true) (h : SV K mg W F H s v) : ∃ a, v = .ref a ∧ holdS K mg W H a s ∧ free W F a := by
  cases s <;> first | exact h | cases o
theorem SV.toOwn {s : S} {a : Addr} (h : holdS K mg W H a s) (f : free W F a) : SV K mg W F H s (.ref a) := by
  cases s <;> first | exact h.elim | exact ⟨a, rfl, h, f⟩
theorem SV.mono (le : W.le W') {s : S} {v : V} (h : SV K mg W F H s v) (keep : ∀ a, v = .ref a → s.isOwn = true → H' a = H a ∧ free W' F' a) : SV K mg W' F' H' s v := by
  cases s with
  | un => trivial
  | val d => exact DV.mono le _ _ h
  | own ds => obtain ⟨a, e, r, f⟩ := h; obtain ⟨k1, k2⟩ := keep a e rfl; exact ⟨a, e, r.mono le k1, k2⟩
  | dct kvs => obtain ⟨a, e, r, f⟩ := h; obtain ⟨k1, k2⟩ := keep a e rfl; exact ⟨a, e, r.mono le k1, k2⟩
  | slf b c fs ds => obtain ⟨a, e, r, f⟩ := h; obtain ⟨k1, k2⟩ := keep a e rfl; exact ⟨a, e, r.mono le k1, k2⟩
theorem Rep.slot (R : Rep K mg W F H σ ρ) {i : Nat} {s : S} (h : ρ[i]? = some s) (hu : s ≠ .un) : ∃ v, σ[i]? = some (some v) ∧ SV K mg W F H s v := by
  rcases R.sl i s h with e | e
  · exact (hu e).elim
  · exact e
theorem Rep.owned (R : Rep K mg W F H σ ρ) {i : Nat} {a : Addr} (h : OwnsAt σ ρ i a) : ∃ s, ρ[i]? = some s ∧ s.isOwn = true ∧ σ[i]? = some (some (.ref a)) ∧ holdS K mg W H a s ∧ free W F a := by
  obtain ⟨s, h1, h2, h3⟩ := h
  obtain ⟨v, e, r⟩ := R.slot h1 (fun z => by rw [z] at h2; cases h2)
  rw [h3] at e
  cases e
  obtain ⟨b, q, r1, r2⟩ := r.ofOwn h2
  cases q
  exact ⟨s, h1, h2, h3, r1, r2⟩
theorem Rep.go (R : Rep K mg W F H σ ρ) (le : W.le W') (w : WOk W' F' H') (keep : ∀ i a, OwnsAt σ ρ i a → H' a = H a ∧ free W' F' a) : Rep K mg W' F' H' σ ρ := by
  refine ⟨w, R.len, fun i s h => ?_, R.sep⟩
  rcases R.sl i s h with e | ⟨v, e, r⟩
  · exact .inl e
  · exact .inr ⟨v, e, r.mono le fun a ea o => keep i a ⟨s, h, o, by rw [e, ea]⟩⟩
def Wd.add (W : Wd) (p : Addr) (o : HO) : Wd := { W with G := upd W.G p o }
theorem same_upd {H : Hp} {p : Addr} {o : HO} (h : H p = none) : Same H (upd H p o) := fun b u e => by
  rw [upd_ne (ne_of_none e h)]; exact e
theorem Wd.add_le {p : Addr} {o : HO} (h : W.G p = none) : W.le (W.add p o) := ⟨same_upd h, fun _ e => e⟩
theorem TownAt.keep {a r : Addr} (t : TownAt H a r) (h1 : H' a = H a) (h2 : H' r = H r) : TownAt H' a r := by
  obtain ⟨n, c, kvs, e1, e2, q⟩ := t
  exact ⟨n, c, kvs, h1.trans e1, h2.trans e2, q⟩
theorem WOk.add (w : WOk W F H) {p : Addr} {o : HO} (hp : H p = none) : WOk (W.add p o) F (upd H p o) := by
  have fr := free.fresh w hp
  refine ⟨fun b u e => ?_, fun b u e => ?_, fun a h => ?_, fun q hq => ?_⟩
  · by_cases hb : b = p
    · subst hb
      rw [upd_same]
      have e' : upd W.G b o b = some u := e
      rw [upd_same] at e'
      exact e'
    · rw [upd_ne hb]
      have e' : upd W.G p o b = some u := e
      rw [upd_ne hb] at e'
      exact w.g b u e'
  · rw [upd_ne (ne_of_none (w.f b u e) hp)]
    exact w.f b u e
  · show upd W.G p o a = none
    have : a ≠ p := fun z => by subst z; exact h fr.2.1
    rw [upd_ne this]
    exact w.gf a h
  · obtain ⟨t, g1, g2, f1, f2⟩ := w.t q hq
    obtain ⟨n1, n2⟩ := fr.2.2 q hq
    exact ⟨t.keep (upd_ne n1) (upd_ne n2), (upd_ne n1).trans g1, (upd_ne n2).trans g2, f1, f2⟩
theorem Rep.add (R : Rep K mg W F H σ ρ) {p : Addr} {o : HO} (hp : H p = none) : Rep K mg (W.add p o) F (upd H p o) σ ρ := by
  have fr := free.fresh R.w hp
  refine R.go (Wd.add_le fr.1) (R.w.add hp) fun i a h => ?_
  obtain ⟨s, _, _, _, h1, h2⟩ := R.owned h
  obtain ⟨u, e⟩ := h1.there
  have ne := ne_of_none e hp
  exact ⟨upd_ne ne, (upd_ne ne).trans h2.1, h2.2.1, h2.2.2⟩
theorem Rep.set (R : Rep K mg W F H σ ρ) {i : Nat} {s : S} {v : V} (h : SV K mg W F H s v) (hs : ∀ a j, s.isOwn = true → v = .ref a → j ≠ i → ¬ OwnsAt σ ρ j a) : Rep K mg W F H (σ.set i (some v)) (ρ.set i s) := by
  refine ⟨R.w, by rw [List.length_set, List.length_set]; exact R.len, fun j t hj => ?_, fun j k a hjk h1 h2 => ?_⟩
  · by_cases e : i = j
    · subst e
      have hl : i < ρ.length := by
        have := (List.getElem?_eq_some_iff.mp hj).1
        rwa [List.length_set] at this
      rw [List.getElem?_set_self hl] at hj
      cases hj
      rw [List.getElem?_set_self (by rw [← R.len]; exact hl)]
      exact .inr ⟨v, rfl, h⟩
    · rw [List.getElem?_set_ne e] at hj ⊢
      exact R.sl j t hj
  · have old : ∀ {j : Nat}, j ≠ i → OwnsAt (σ.set i (some v)) (ρ.set i s) j a → OwnsAt σ ρ j a := fun {j} hj ⟨t, t1, t2, t3⟩ => by
      rw [List.getElem?_set_ne (Ne.symm hj)] at t1 t3
      exact ⟨t, t1, t2, t3⟩
    have here : OwnsAt (σ.set i (some v)) (ρ.set i s) i a → s.isOwn = true ∧ v = .ref a := fun ⟨t, t1, t2, t3⟩ => by
      have hl : i < ρ.length := by
        have := (List.getElem?_eq_some_iff.mp t1).1
        rwa [List.length_set] at this
      rw [List.getElem?_set_self hl] at t1
      rw [List.getElem?_set_self (by rw [← R.len]; exact hl)] at t3
      cases t1
      cases t3
      exact ⟨t2, rfl⟩
    by_cases e1 : j = i
    · subst e1
      obtain ⟨o, ev⟩ := here h1
      exact hs a k o ev (Ne.symm hjk) (old (Ne.symm hjk) h2)
    · by_cases e2 : k = i
      · subst e2
        obtain ⟨o, ev⟩ := here h2
        exact hs a j o ev e1 (old e1 h1)
      · exact R.sep j k a hjk (old e1 h1) (old e2 h2)
theorem Rep.setVal (R : Rep K mg W F H σ ρ) {i : Nat} {d : D} {v : V} (h : DV K mg W d v) : Rep K mg W F H (σ.set i (some v)) (ρ.set i (.val d)) :=
  R.set (s := .val d) h fun _ _ o => by cases o
theorem frz_le {a : Addr} {o : HO} (f : free W F a) : W.le (W.add a o) := Wd.add_le f.1
theorem WOk.frz (w : WOk W F H) {a : Addr} {o : HO} (f : free W F a) (h : H a = some o) : WOk (W.add a o) F H := by
  refine ⟨fun b u e => ?_, w.f, fun b hb => ?_, fun q hq => ?_⟩
  · by_cases hb : b = a
    · subst hb
      have e' : upd W.G b o b = some u := e
      rw [upd_same] at e'
      cases e'
      exact h
    · have e' : upd W.G a o b = some u := e
      rw [upd_ne hb] at e'
      exact w.g b u e'
  · show upd W.G a o b = none
    have : b ≠ a := fun z => by subst z; exact hb f.2.1
    rw [upd_ne this]
    exact w.gf b hb
  · obtain ⟨t, g1, g2, f1, f2⟩ := w.t q hq
    obtain ⟨n1, n2⟩ := f.2.2 q hq
    exact ⟨t, (upd_ne n1).trans g1, (upd_ne n2).trans g2, f1, f2⟩
end
end DL

set_option maxHeartbeats 4000000
/-! DL2: judgements over data; names, constants, operators, tests, statements. -/
namespace DL
open PySem PySem.Spec PyProof.Rows L2

structure XD where
  c : Str
  fs : List Str
  xs : List D
abbrev KE := D → Rho → Prop
abbrev KX := XD → Rho → Prop
abbrev KV := S → Rho → Prop
abbrev TD := Rho → KX → KE → Prop
abbrev TDs := Rho → KX → KV → Prop
abbrev TDt := Rho → KX → (Bool → Rho → Prop) → Prop
abbrev TDa := Rho → KX → (List D → Rho → Prop) → Prop
structure KS where
  nx : Rho → Prop
  rt : D → Rho → Prop
  bk : Rho → Prop := fun _ => False
  ct : Rho → Prop := fun _ => False
abbrev TDS := Rho → KX → KS → Prop

def XV (K : PySem.W.Frag) (mg : Str → Option Value) (W : Wd) (x : XD) (cls : Value) (dx : Option Addr) : Prop :=
  ∃ C vs, mg x.c = some (.ref C) ∧ cls = .ref C ∧ x.fs.length = vs.length ∧ DVs K mg W x.xs vs ∧ (match dx with | none => x.fs = [] | some d => W.G d = some (.xd (x.fs.zip vs)))
def TakesD (X : Cx) (W : Wd) (F : Hp) (kx : KX) : Prop := Takes X fun cls dx σ H => ∃ xd ρ W', kx xd ρ ∧ W.le W' ∧ Rep X.K X.mg W' F H σ ρ ∧ XV X.K X.mg W' xd cls dx
theorem TakesD.mono {X : Cx} {W W' : Wd} {F : Hp} {kx : KX} (h : TakesD X W F kx) (le : W.le W') : TakesD X W' F kx :=
  Takes.imp h fun _ _ _ _ ⟨xd, ρ, W2, q, l, R, x⟩ => ⟨xd, ρ, W2, q, le.trans l, R, x⟩
theorem Rep.weakF {K : PySem.W.Frag} {mg : Str → Option Value} {W : Wd} {F F1 H : Hp} {σ : L2.St} {ρ : Rho} (R : Rep K mg W F1 H σ ρ) (e : Same F F1) : Rep K mg W F H σ ρ := by
  have n : ∀ {a : Addr}, F1 a = none → F a = none := fun {a} h => by
    cases q : F a with
    | none => rfl
    | some o => rw [e a o q] at h; cases h
  refine R.go (Wd.le.refl W) ⟨R.w.g, e.trans R.w.f, fun a h => R.w.gf a fun z => h (n z), fun p hp => ?_⟩ fun i a h => ?_
  · obtain ⟨t, g1, g2, f1, f2⟩ := R.w.t p hp
    exact ⟨t, g1, g2, n f1, n f2⟩
  · obtain ⟨s, _, _, _, _, f⟩ := R.owned h
    exact ⟨rfl, f.1, n f.2.1, f.2.2⟩
theorem TakesD.anti {X : Cx} {W : Wd} {F F1 : Hp} {kx : KX} (h : TakesD X W F kx) (e : Same F F1) : TakesD X W F1 kx :=
  Takes.imp h fun _ _ _ _ ⟨xd, ρ, W2, q, l, R, x⟩ => ⟨xd, ρ, W2, q, l, R.weakF e, x⟩

/-! ### readings -/
def lE (X : Cx) (τ : TD) : TE := fun σ H Q => ∃ (W : Wd) (F : Hp) (ρ : Rho) (kx : KX) (k : KE), TakesD X W F kx ∧ Rep X.K X.mg W F H σ ρ ∧ τ ρ kx k ∧
  ∀ d ρ' v H' W', k d ρ' → W.le W' → Rep X.K X.mg W' F H' σ ρ' → DV X.K X.mg W' d v → Q v H'
def lV (X : Cx) (τ : TDs) : TE := fun σ H Q => ∃ (W : Wd) (F : Hp) (ρ : Rho) (kx : KX) (k : KV), TakesD X W F kx ∧ Rep X.K X.mg W F H σ ρ ∧ τ ρ kx k ∧
  ∀ s ρ' v H' W', k s ρ' → W.le W' → Rep X.K X.mg W' F H' σ ρ' → SV X.K X.mg W' F H' s v → (∀ a i, s.isOwn = true → v = .ref a → ¬ OwnsAt σ ρ' i a) → s ≠ .un → Q v H'
def lT (X : Cx) (τ : TDt) : TT := fun σ H Q => ∃ (W : Wd) (F : Hp) (ρ : Rho) (kx : KX) (k : Bool → Rho → Prop), TakesD X W F kx ∧ Rep X.K X.mg W F H σ ρ ∧ τ ρ kx k ∧
  ∀ b ρ' H' W', k b ρ' → W.le W' → Rep X.K X.mg W' F H' σ ρ' → Q b H'
def lA (X : Cx) (τ : TDa) : TA := fun σ H Q => ∃ (W : Wd) (F : Hp) (ρ : Rho) (kx : KX) (k : List D → Rho → Prop), TakesD X W F kx ∧ Rep X.K X.mg W F H σ ρ ∧ τ ρ kx k ∧
  ∀ ds ρ' vs H' W', k ds ρ' → W.le W' → Rep X.K X.mg W' F H' σ ρ' → DVs X.K X.mg W' ds vs → Q vs H'
structure LS (X : Cx) (W : Wd) (F : Hp) (k : KS) (D : Ends) : Prop where
  nx : ∀ ρ' σ' H' W', k.nx ρ' → W.le W' → Rep X.K X.mg W' F H' σ' ρ' → D.nx σ' H'
  rt : ∀ d ρ' v σ' H' W', k.rt d ρ' → W.le W' → Rep X.K X.mg W' F H' σ' ρ' → DV X.K X.mg W' d v → D.rt v H'
  bk : ∀ ρ' σ' H' W', k.bk ρ' → W.le W' → Rep X.K X.mg W' F H' σ' ρ' → D.bk σ' H'
  ct : ∀ ρ' σ' H' W', k.ct ρ' → W.le W' → Rep X.K X.mg W' F H' σ' ρ' → D.ct σ' H'
theorem LS.mono {X : Cx} {W W' : Wd} {F : Hp} {k : KS} {D : Ends} (h : LS X W F k D) (le : W.le W') : LS X W' F k D :=
  ⟨fun a b c d e f => h.nx a b c d e (le.trans f), fun a b c d e f g i => h.rt a b c d e f g (le.trans i), fun a b c d e f => h.bk a b c d e (le.trans f), fun a b c d e f => h.ct a b c d e (le.trans f)⟩
def lS (X : Cx) (τ : TDS) : TS := fun D σ H => ∃ (W : Wd) (F : Hp) (ρ : Rho) (kx : KX) (k : KS), TakesD X W F kx ∧ Rep X.K X.mg W F H σ ρ ∧ τ ρ kx k ∧ LS X W F k D

structure PEd (X : Cx) (e : Expr) (τ : TD) : Prop where
  p : PE X e (lE X τ)
structure PEv (X : Cx) (e : Expr) (τ : TDs) : Prop where
  p : PE X e (lV X τ)
structure PTd (X : Cx) (e : Expr) (τ : TDt) : Prop where
  p : PT X e (lT X τ)
structure PWd (X : Cx) (e : Expr) (τ : TDt) : Prop where
  p : PW X e (lT X τ)
structure PAd (X : Cx) (es : List Expr) (τ : TDa) : Prop where
  p : PA X es (lA X τ)
structure PKd (X : Cx) (kws : List Keyword) (τ : TDa) : Prop where
  p : PK X kws (lA X τ)
structure PSd (X : Cx) (st : Stmt) (τ : TDS) : Prop where
  p : PS X st (lS X τ)
structure PBd (X : Cx) (st : List Stmt) (τ : TDS) : Prop where
  p : PSs X st (lS X τ)

theorem PE.imp {X : Cx} {e : Expr} {t t' : TE} (h : PE X e t) (f : ∀ σ H Q, t' σ H Q → t σ H Q) : PE X e t' := ⟨fun pins s σ H Q I q => h.run pins s σ H Q I (f _ _ _ q)⟩
theorem PT.imp {X : Cx} {e : Expr} {t t' : TT} (h : PT X e t) (f : ∀ σ H Q, t' σ H Q → t σ H Q) : PT X e t' := ⟨fun pins s σ H Q I q => h.run pins s σ H Q I (f _ _ _ q)⟩
theorem PW.imp {X : Cx} {e : Expr} {t t' : TT} (h : PW X e t) (f : ∀ σ H Q, t' σ H Q → t σ H Q) : PW X e t' := ⟨fun w pins s σ H Q I q => h.run w pins s σ H Q I (f _ _ _ q)⟩
theorem PA.imp {X : Cx} {e : List Expr} {t t' : TA} (h : PA X e t) (f : ∀ σ H Q, t' σ H Q → t σ H Q) : PA X e t' := ⟨fun w pins s σ H Q I q => h.run w pins s σ H Q I (f _ _ _ q)⟩
theorem PK.imp {X : Cx} {e : List Keyword} {t t' : TA} (h : PK X e t) (f : ∀ σ H Q, t' σ H Q → t σ H Q) : PK X e t' := ⟨fun w pins s σ H Q I q => h.run w pins s σ H Q I (f _ _ _ q)⟩
theorem PS.imp {X : Cx} {e : Stmt} {t t' : TS} (h : PS X e t) (f : ∀ D σ H, t' D σ H → t D σ H) : PS X e t' := ⟨fun pins s σ H D I q => h.run pins s σ H D I (f _ _ _ q)⟩
theorem PSs.imp {X : Cx} {e : List Stmt} {t t' : TS} (h : PSs X e t) (f : ∀ D σ H, t' D σ H → t D σ H) : PSs X e t' := ⟨fun pins s σ H D I q => h.run pins s σ H D I (f _ _ _ q)⟩

section
variable {X : Cx} {a b e : Expr} {τ τa τb : TD} {pos : Pos}

/-! ### names, constants -/
def dVar (i : Nat) : TD := fun ρ _ k => ∃ d, ρ[i]? = some (.val d) ∧ k d ρ
theorem pd_var (i : Nat) {x : Str} (hN : X.N[i]? = some x := by rfl) (hv : Vis X.env.scope x := by first | exact Or.inl rfl | exact Or.inr (Or.inl rfl) | exact Or.inr (Or.inr rfl))
    (hd : (x == ("__debug__" : Str)) = false := by decide) (hcd : (x == ("__classdict__" : Str)) = false := by decide) : PEd X (.Name x pos) (dVar i) :=
  ⟨PE.imp (pe_var hN hv hd hcd) fun σ H Q ⟨W, F, ρ, kx, k, tk, R, ⟨d, hs, hk⟩, hQ⟩ => by
    obtain ⟨v, e, r⟩ := R.slot hs (by intro z; cases z)
    exact ⟨v, e, hQ d ρ v H W hk (Wd.le.refl W) R r⟩⟩
def dC (d : D) : TD := fun ρ _ k => k d ρ
theorem PEd.const {v : V} {d : D} (h : PE X e (tC v)) (r : ∀ W, DV X.K X.mg W d v) : PEd X e (dC d) :=
  ⟨PE.imp h fun σ H Q ⟨W, F, ρ, kx, k, tk, R, hk, hQ⟩ => hQ d ρ v H W hk (Wd.le.refl W) R (r W)⟩
theorem pd_int {i : Int} {j : Nat} : PEd X (.Constant (.int i) j pos) (dC (.int i)) := .const pe_int fun W => by simp only [DV]
theorem pd_bl {i : Bool} {j : Nat} : PEd X (.Constant (.bool i) j pos) (dC (.bl i)) := .const pe_bl fun W => by simp only [DV]
theorem pd_non {j : Nat} : PEd X (.Constant .none j pos) (dC .non) := .const pe_non fun W => by simp only [DV]
theorem pd_str {x : Str} {j : Nat} (h : SOk x := by exact ⟨by decide +kernel, by decide +kernel⟩) : PEd X (.Constant (.str x) j pos) (dC (.str x)) := .const pe_str fun W => by simp only [DV]; exact ⟨trivial, h⟩
theorem pd_gint {x : Str} {i : Int} {u : Value} (hg : Gl X x) (hm : X.mg x = some u) (r : RelV (.int i) u) (hd : (x == ("__debug__" : Str)) = false := by decide) : PEd X (.Name x pos) (dC (.int i)) :=
  .const (pe_glob hg hm r hd) fun W => by simp only [DV]
theorem pd_gstr {x y : Str} {u : Value} (hg : Gl X x) (hm : X.mg x = some u) (r : RelV (.str y) u) (h : SOk y := by exact ⟨by decide +kernel, by decide +kernel⟩) (hd : (x == ("__debug__" : Str)) = false := by decide) : PEd X (.Name x pos) (dC (.str y)) :=
  .const (pe_glob hg hm r hd) fun W => by simp only [DV]; exact ⟨trivial, h⟩

/-! ### operators, by data -/
abbrev G2 := D → D → (D → Prop) → Prop
def OpD (X : Cx) (r : R2) (g : G2) : Prop := ∀ (W : Wd) (F H : Hp) (σ : L2.St) (ρ : Rho) (x y : V) (dx dy : D) (k : D → Prop) (Q : VK), Rep X.K X.mg W F H σ ρ → DV X.K X.mg W dx x → DV X.K X.mg W dy y → g dx dy k →
  (∀ d v H' W', k d → W.le W' → Rep X.K X.mg W' F H' σ ρ → DV X.K X.mg W' d v → Q v H') → r x y H Q
def dOp (g : G2) (τa τb : TD) : TD := fun ρ kx k => τa ρ kx fun x ρ1 => τb ρ1 kx fun y ρ2 => g x y fun d => k d ρ2
theorem lE.op {r : R2} {g : G2} (od : OpD X r g) : ∀ σ H Q, lE X (dOp g τa τb) σ H Q → tOp r (lE X τa) (lE X τb) σ H Q := by
  rintro σ H Q ⟨W, F, ρ, kx, k, tk, R, h, hQ⟩
  refine ⟨W, F, ρ, kx, _, tk, R, h, fun dx ρ1 v1 H1 W1 h1 le1 R1 d1 => ?_⟩
  refine ⟨W1, F, ρ1, kx, _, tk.mono le1, R1, h1, fun dy ρ2 v2 H2 W2 h2 le2 R2 d2 => ?_⟩
  exact od W2 F H2 σ ρ2 v1 v2 dx dy _ Q R2 (d1.mono le2) d2 h2 fun d v H' W' hk le R' dv => hQ d ρ2 v H' W' hk ((le1.trans le2).trans le) R' dv
theorem pd_op {op : Operator} {r : R2} {g : G2} (ho : OpR X (binaryOp op) r) (od : OpD X r g) (ha : PEd X a τa) (hb : PEd X b τb) : PEd X (.BinOp a op b pos) (dOp g τa τb) := ⟨PE.imp (pe_op ho ha.p hb.p) (lE.op od)⟩
theorem pd_cmp {op : CmpOp} {r : R2} {g : G2} (ho : OpR X (compareOp op) r) (od : OpD X r g) (ha : PEd X a τa) (hb : PEd X b τb) (hm : behindInMarks op b = false) : PEd X (.Compare a [op] [b] pos) (dOp g τa τb) :=
  ⟨PE.imp (pe_cmpR ho ha.p hb.p hm) (lE.op od)⟩
theorem OpR.or2 {f : Value → Value → Sem Value} {r r' : R2} (h : OpR X f r) (h' : OpR X f r') : OpR X f (fun x y H Q => r x y H Q ∨ r' x y H Q) := OpR.or h h'
theorem OpD.or {r r' : R2} {g g' : G2} (h : OpD X r g) (h' : OpD X r' g') : OpD X (fun x y H Q => r x y H Q ∨ r' x y H Q) (fun x y k => g x y k ∨ g' x y k) := by
  intro W F H σ ρ x y dx dy k Q R hx hy hg hQ
  rcases hg with hg | hg
  · exact .inl (h W F H σ ρ x y dx dy k Q R hx hy hg hQ)
  · exact .inr (h' W F H σ ρ x y dx dy k Q R hx hy hg hQ)
theorem OpD.imp {r : R2} {g g' : G2} (h : OpD X r g) (f : ∀ x y k, g' x y k → g x y k) : OpD X r g' := fun W F H σ ρ x y dx dy k Q R hx hy hg hQ => h W F H σ ρ x y dx dy k Q R hx hy (f _ _ _ hg) hQ
def gI (C : Int → Int → Prop) (f : Int → Int → D) : G2 := fun x y k => match x, y with | .int i, .int j => C i j ∧ k (f i j) | _, _ => False
theorem od_I {C : Int → Int → Prop} {f : Int → Int → Int} : OpD X (rI C fun i j => .int (f i j)) (gI C fun i j => .int (f i j)) := by
  intro W F H σ ρ x y dx dy k Q R hx hy hg hQ
  cases dx <;> try exact hg.elim
  rename_i i
  cases dy <;> try exact hg.elim
  rename_i j
  simp only [DV] at hx hy
  exact ⟨i, j, hx, hy, hg.1, hQ _ _ H W hg.2 (Wd.le.refl W) R (by simp only [DV])⟩
theorem od_I0 {f : Int → Int → Int} : OpD X (rI0 fun i j => .int (f i j)) (gI (fun _ _ => True) fun i j => .int (f i j)) := by
  intro W F H σ ρ x y dx dy k Q R hx hy hg hQ
  cases dx <;> try exact hg.elim
  rename_i i
  cases dy <;> try exact hg.elim
  rename_i j
  simp only [DV] at hx hy
  exact ⟨i, j, hx, hy, hQ _ _ H W hg.2 (Wd.le.refl W) R (by simp only [DV])⟩
theorem od_B0 {f : Int → Int → Bool} : OpD X (rI0 fun i j => .bl (f i j)) (gI (fun _ _ => True) fun i j => .bl (f i j)) := by
  intro W F H σ ρ x y dx dy k Q R hx hy hg hQ
  cases dx <;> try exact hg.elim
  rename_i i
  cases dy <;> try exact hg.elim
  rename_i j
  simp only [DV] at hx hy
  exact ⟨i, j, hx, hy, hQ _ _ H W hg.2 (Wd.le.refl W) R (by simp only [DV])⟩
def gSub : G2 := gI (fun _ _ => True) fun i j => .int (i - j)
def gMul : G2 := gI CMul fun i j => .int (i * j)
def gDiv : G2 := gI CDivN fun i j => .int (i.fdiv j)
def gMod : G2 := gI (fun _ j => j ≠ 0) fun i j => .int (i.fmod j)
def gPow : G2 := gI CPow fun i j => .int (i ^ j.toNat)
def gAddI : G2 := gI (fun _ _ => True) fun i j => .int (i + j)
theorem pd_addI (ha : PEd X a τa) (hb : PEd X b τb) : PEd X (.BinOp a .Add b pos) (dOp gAddI τa τb) := pd_op op_add od_I0 ha hb
theorem pd_sub (ha : PEd X a τa) (hb : PEd X b τb) : PEd X (.BinOp a .Sub b pos) (dOp gSub τa τb) := pd_op op_sub od_I0 ha hb
theorem pd_mul (ha : PEd X a τa) (hb : PEd X b τb) : PEd X (.BinOp a .Mult b pos) (dOp gMul τa τb) := pd_op op_mul od_I ha hb
theorem pd_div (ha : PEd X a τa) (hb : PEd X b τb) : PEd X (.BinOp a .FloorDiv b pos) (dOp gDiv τa τb) := pd_op op_fdivN od_I ha hb
theorem pd_mod (ha : PEd X a τa) (hb : PEd X b τb) : PEd X (.BinOp a .Mod b pos) (dOp gMod τa τb) := pd_op op_modN od_I ha hb
theorem pd_pow (ha : PEd X a τa) (hb : PEd X b τb) : PEd X (.BinOp a .Pow b pos) (dOp gPow τa τb) := pd_op op_pow od_I ha hb
def gLtI : G2 := gI (fun _ _ => True) fun i j => .bl (decide (i < j))
def gLeI : G2 := gI (fun _ _ => True) fun i j => .bl (decide (i ≤ j))
def gGtI : G2 := gI (fun _ _ => True) fun i j => .bl (decide (j < i))
def gGeI : G2 := gI (fun _ _ => True) fun i j => .bl (decide (j ≤ i))
theorem od_ltI : OpD X (rI0 fun i j => .bl (decide (i < j))) gLtI := od_B0
theorem od_leI : OpD X (rI0 fun i j => .bl (decide (i ≤ j))) gLeI := od_B0
theorem od_gtI : OpD X (rI0 fun i j => .bl (decide (j < i))) gGtI := od_B0
theorem od_geI : OpD X (rI0 fun i j => .bl (decide (j ≤ i))) gGeI := od_B0

/-! ### tests -/
def dTest (τ : TD) : TDt := fun ρ kx k => τ ρ kx fun d ρ' => match d with | .bl b => k b ρ' | _ => False
theorem lT.test : ∀ σ H Q, lT X (dTest τ) σ H Q → tTest (lE X τ) σ H Q := by
  rintro σ H Q ⟨W, F, ρ, kx, k, tk, R, h, hQ⟩
  refine ⟨W, F, ρ, kx, _, tk, R, h, fun d ρ1 v1 H1 W1 h1 le1 R1 d1 => ?_⟩
  cases d <;> try exact h1.elim
  rename_i c
  simp only [DV] at d1
  exact ⟨c, d1, hQ c ρ1 H1 W1 h1 le1 R1⟩
theorem td_cmp {op : CmpOp} {r : R2} {g : G2} (ho : OpR X (compareOp op) r) (od : OpD X r g) (ha : PEd X a τa) (hb : PEd X b τb) (hm : behindInMarks op b = false) : PTd X (.Compare a [op] [b] pos) (dTest (dOp g τa τb)) :=
  ⟨PT.imp (pt_cmpR ho ha.p hb.p hm) fun σ H Q h => by
    obtain ⟨W, F, ρ, kx, k, tk, R, h, hQ⟩ := h
    refine lE.op od σ H _ ⟨W, F, ρ, kx, _, tk, R, h, fun d ρ1 v1 H1 W1 h1 le1 R1 d1 => ?_⟩
    cases d <;> try exact h1.elim
    rename_i c
    simp only [DV] at d1
    exact ⟨c, d1, hQ c ρ1 H1 W1 h1 le1 R1⟩⟩
theorem td_val (h : PEd X e τ) (he : ∀ whole, isTrue e X.env whole = (do let v ← whole; standAt e.pos; holding [v] (truthy v)) := by intro _; rfl) : PTd X e (dTest τ) :=
  ⟨PT.imp (pt_val h.p he) lT.test⟩
variable {ta tb : TDt} {rest : List Expr}
def dAnd (ta tb : TDt) : TDt := fun ρ kx k => ta ρ kx fun c ρ' => if c = true then tb ρ' kx k else k false ρ'
def dOr (ta tb : TDt) : TDt := fun ρ kx k => ta ρ kx fun c ρ' => if c = true then k true ρ' else tb ρ' kx k
def dNot (ta : TDt) : TDt := fun ρ kx k => ta ρ kx fun c ρ' => k (!c) ρ'
theorem wd_and1 (ha : PTd X a ta) : PWd X (.BoolOp .And [a] pos) ta := ⟨pw_and1 ha.p⟩
theorem wd_or1 (ha : PTd X a ta) : PWd X (.BoolOp .Or [a] pos) ta := ⟨pw_or1 ha.p⟩
theorem wd_and (ha : PTd X a ta) (hb : PWd X (.BoolOp .And (b :: rest) pos) tb) : PWd X (.BoolOp .And (a :: b :: rest) pos) (dAnd ta tb) :=
  ⟨PW.imp (pw_and ha.p hb.p) fun σ H Q ⟨W, F, ρ, kx, k, tk, R, h, hQ⟩ => ⟨W, F, ρ, kx, _, tk, R, h, fun c ρ1 H1 W1 h1 le1 R1 => by
    cases c with
    | true => exact ⟨W1, F, ρ1, kx, k, tk.mono le1, R1, h1, fun b ρ' H' W' hk le R' => hQ b ρ' H' W' hk (le1.trans le) R'⟩
    | false => exact hQ false ρ1 H1 W1 h1 le1 R1⟩⟩
theorem wd_or (ha : PTd X a ta) (hb : PWd X (.BoolOp .Or (b :: rest) pos) tb) : PWd X (.BoolOp .Or (a :: b :: rest) pos) (dOr ta tb) :=
  ⟨PW.imp (pw_or ha.p hb.p) fun σ H Q ⟨W, F, ρ, kx, k, tk, R, h, hQ⟩ => ⟨W, F, ρ, kx, _, tk, R, h, fun c ρ1 H1 W1 h1 le1 R1 => by
    cases c with
    | false => exact ⟨W1, F, ρ1, kx, k, tk.mono le1, R1, h1, fun b ρ' H' W' hk le R' => hQ b ρ' H' W' hk (le1.trans le) R'⟩
    | true => exact hQ true ρ1 H1 W1 h1 le1 R1⟩⟩
theorem PWd.t (h : PWd X e ta) : PTd X e ta := ⟨h.p.pt⟩
theorem td_not (ha : PTd X a ta) : PTd X (.UnaryOp .Not a pos) (dNot ta) :=
  ⟨PT.imp (pt_not ha.p) fun σ H Q ⟨W, F, ρ, kx, k, tk, R, h, hQ⟩ => ⟨W, F, ρ, kx, _, tk, R, h, fun c ρ1 H1 W1 h1 le1 R1 => hQ (!c) ρ1 H1 W1 h1 le1 R1⟩⟩
def dAndV (τa τb : TD) : TD := fun ρ kx k => τa ρ kx fun d ρ' => match d with | .bl c => (if c = true then τb ρ' kx k else k (.bl false) ρ') | _ => False
def dOrV (τa τb : TD) : TD := fun ρ kx k => τa ρ kx fun d ρ' => match d with | .bl c => (if c = true then k (.bl true) ρ' else τb ρ' kx k) | _ => False
def dNotV (τa : TD) : TD := fun ρ kx k => τa ρ kx fun d ρ' => match d with | .bl c => k (.bl (!c)) ρ' | _ => False
theorem pd_one {op : BoolOp} (h : PEd X a τ) : PEd X (.BoolOp op [a] pos) τ := ⟨pe_one h.p⟩
theorem pd_and (ha : PEd X a τa) (hb : PEd X (.BoolOp .And (b :: rest) pos) τb) : PEd X (.BoolOp .And (a :: b :: rest) pos) (dAndV τa τb) :=
  ⟨PE.imp (pe_and ha.p hb.p) fun σ H Q ⟨W, F, ρ, kx, k, tk, R, h, hQ⟩ => ⟨W, F, ρ, kx, _, tk, R, h, fun d ρ1 v1 H1 W1 h1 le1 R1 d1 => by
    cases d <;> try exact h1.elim
    rename_i c
    simp only [DV] at d1
    refine ⟨c, d1, ?_⟩
    cases c with
    | true => exact ⟨W1, F, ρ1, kx, k, tk.mono le1, R1, h1, fun b ρ' v' H' W' hk le R' dv => hQ b ρ' v' H' W' hk (le1.trans le) R' dv⟩
    | false => exact hQ _ ρ1 _ H1 W1 h1 le1 R1 (by simp only [DV])⟩⟩
theorem pd_or (ha : PEd X a τa) (hb : PEd X (.BoolOp .Or (b :: rest) pos) τb) : PEd X (.BoolOp .Or (a :: b :: rest) pos) (dOrV τa τb) :=
  ⟨PE.imp (pe_or ha.p hb.p) fun σ H Q ⟨W, F, ρ, kx, k, tk, R, h, hQ⟩ => ⟨W, F, ρ, kx, _, tk, R, h, fun d ρ1 v1 H1 W1 h1 le1 R1 d1 => by
    cases d <;> try exact h1.elim
    rename_i c
    simp only [DV] at d1
    refine ⟨c, d1, ?_⟩
    cases c with
    | false => exact ⟨W1, F, ρ1, kx, k, tk.mono le1, R1, h1, fun b ρ' v' H' W' hk le R' dv => hQ b ρ' v' H' W' hk (le1.trans le) R' dv⟩
    | true => exact hQ _ ρ1 _ H1 W1 h1 le1 R1 (by simp only [DV])⟩⟩
theorem pd_not (ha : PEd X a τa) : PEd X (.UnaryOp .Not a pos) (dNotV τa) :=
  ⟨PE.imp (pe_not ha.p) fun σ H Q ⟨W, F, ρ, kx, k, tk, R, h, hQ⟩ => ⟨W, F, ρ, kx, _, tk, R, h, fun d ρ1 v1 H1 W1 h1 le1 R1 d1 => by
    cases d <;> try exact h1.elim
    rename_i c
    simp only [DV] at d1
    exact ⟨c, d1, hQ _ ρ1 _ H1 W1 h1 le1 R1 (by simp only [DV])⟩⟩⟩
def dIf (t : TDt) (τa τb : TD) : TD := fun ρ kx k => t ρ kx fun c ρ' => if c = true then τa ρ' kx k else τb ρ' kx k
theorem pd_if {c : Expr} (hc : PTd X c ta) (ha : PEd X a τa) (hb : PEd X b τb) : PEd X (.IfExp c a b pos) (dIf ta τa τb) :=
  ⟨PE.imp (pe_ifExp hc.p ha.p hb.p) fun σ H Q ⟨W, F, ρ, kx, k, tk, R, h, hQ⟩ => ⟨W, F, ρ, kx, _, tk, R, h, fun c ρ1 H1 W1 h1 le1 R1 => by
    cases c with
    | true => exact ⟨W1, F, ρ1, kx, k, tk.mono le1, R1, h1, fun b ρ' v' H' W' hk le R' dv => hQ b ρ' v' H' W' hk (le1.trans le) R' dv⟩
    | false => exact ⟨W1, F, ρ1, kx, k, tk.mono le1, R1, h1, fun b ρ' v' H' W' hk le R' dv => hQ b ρ' v' H' W' hk (le1.trans le) R' dv⟩⟩⟩
def gIsN (x : D) : Bool := match x with | .non => true | _ => false
theorem DV.isN {K : PySem.W.Frag} {mg : Str → Option Value} {W : Wd} {d : D} {v : V} (h : DV K mg W d v) : decide (v = .non) = gIsN d := by
  cases d <;> simp only [DV] at h <;> first
    | (subst h; rfl)
    | (obtain ⟨e, _⟩ := h; subst e; rfl)
    | (obtain ⟨a, e, _⟩ := h; subst e; rfl)
    | (obtain ⟨a, _, e, _⟩ := h; subst e; rfl)
    | (obtain ⟨a, _, _, _, e, _⟩ := h; subst e; rfl)
def dUn (g : D → (D → Prop) → Prop) (τ : TD) : TD := fun ρ kx k => τ ρ kx fun d ρ' => g d fun d' => k d' ρ'
def gIs (x : D) (k : D → Prop) : Prop := k (.bl (gIsN x))
def gNotIs (x : D) (k : D → Prop) : Prop := k (.bl (!gIsN x))
theorem pd_isN {j : Nat} {pos' : Pos} (ha : PEd X a τa) : PEd X (.Compare a [.Is] [.Constant .none j pos'] pos) (dUn gIs τa) :=
  ⟨PE.imp (pe_cmp (pc_isN ha.p) rfl) fun σ H Q ⟨W, F, ρ, kx, k, tk, R, h, hQ⟩ => ⟨W, F, ρ, kx, _, tk, R, h, fun d ρ1 v1 H1 W1 h1 le1 R1 d1 =>
    hQ _ ρ1 _ H1 W1 h1 le1 R1 (by rw [d1.isN]; simp only [DV])⟩⟩
theorem pd_notN {j : Nat} {pos' : Pos} (ha : PEd X a τa) : PEd X (.Compare a [.IsNot] [.Constant .none j pos'] pos) (dUn gNotIs τa) :=
  ⟨PE.imp (pe_cmp (pc_notN ha.p) rfl) fun σ H Q ⟨W, F, ρ, kx, k, tk, R, h, hQ⟩ => ⟨W, F, ρ, kx, _, tk, R, h, fun d ρ1 v1 H1 W1 h1 le1 R1 d1 =>
    hQ _ ρ1 _ H1 W1 h1 le1 R1 (by rw [d1.isN]; simp only [DV])⟩⟩
def gNeg (x : D) (k : D → Prop) : Prop := match x with | .int i => k (.int (-i)) | _ => False
theorem pd_neg (ha : PEd X a τa) : PEd X (.UnaryOp .USub a pos) (dUn gNeg τa) :=
  ⟨PE.imp (pe_un un_neg ha.p) fun σ H Q ⟨W, F, ρ, kx, k, tk, R, h, hQ⟩ => ⟨W, F, ρ, kx, _, tk, R, h, fun d ρ1 v1 H1 W1 h1 le1 R1 d1 => by
    cases d <;> try exact h1.elim
    rename_i i
    simp only [DV] at d1
    exact ⟨i, d1, hQ _ ρ1 _ H1 W1 h1 le1 R1 (by simp only [DV])⟩⟩⟩
def dChain (g g' : G2) (τa τb τc : TD) : TD := fun ρ kx k => τa ρ kx fun x ρ1 => τb ρ1 kx fun y ρ2 => g x y fun z => match z with
  | .bl c => (if c = true then τc ρ2 kx fun w ρ3 => g' y w fun d => k d ρ3 else k (.bl false) ρ2)
  | _ => False
theorem lE.chain {r r' : R2} {g g' : G2} {τc : TD} (od : OpD X r g) (od' : OpD X r' g') : ∀ σ H Q, lE X (dChain g g' τa τb τc) σ H Q → tChain r r' (lE X τa) (lE X τb) (lE X τc) σ H Q := by
  rintro σ H Q ⟨W, F, ρ, kx, k, tk, R, h, hQ⟩
  refine ⟨W, F, ρ, kx, _, tk, R, h, fun dx ρ1 v1 H1 W1 h1 le1 R1 d1 => ?_⟩
  refine ⟨W1, F, ρ1, kx, _, tk.mono le1, R1, h1, fun dy ρ2 v2 H2 W2 h2 le2 R2 d2 => ?_⟩
  refine od W2 F H2 σ ρ2 v1 v2 dx dy _ _ R2 (d1.mono le2) d2 h2 fun d v H3 W3 hk le3 R3 dv => ?_
  cases d <;> try exact hk.elim
  rename_i c
  simp only [DV] at dv
  refine ⟨c, dv, ?_⟩
  cases c with
  | false => exact hQ _ _ _ H3 W3 hk ((le1.trans le2).trans le3) R3 (by simp only [DV])
  | true =>
    refine ⟨W3, F, ρ2, kx, _, tk.mono ((le1.trans le2).trans le3), R3, hk, fun dz ρ4 v4 H4 W4 h4 le4 R4 d4 => ?_⟩
    exact od' W4 F H4 σ ρ4 v2 v4 dy dz _ Q R4 (d2.mono (le3.trans le4)) d4 h4 fun d v H' W' hk le R' dv => hQ d ρ4 v H' W' hk ((((le1.trans le2).trans le3).trans le4).trans le) R' dv
theorem pd_chain {op op' : CmpOp} {r r' : R2} {g g' : G2} {c : Expr} {τc : TD} (ho : OpR X (compareOp op) r) (od : OpD X r g) (ho' : OpR X (compareOp op') r') (od' : OpD X r' g') (ha : PEd X a τa) (hb : PEd X b τb) (hc : PEd X c τc)
    (hm : lastMarks [op, op'] [b, c] = false := by with_unfolding_all rfl) : PEd X (.Compare a [op, op'] [b, c] pos) (dChain g g' τa τb τc) :=
  ⟨PE.imp (pe_chain ho ho' ha.p hb.p hc.p hm) (lE.chain od od')⟩
end
end DL

set_option maxHeartbeats 4000000
/-! DL3: arguments, displays, statements, loops, comprehensions. -/
namespace DL
open PySem PySem.Spec PyProof.Rows L2

section
variable {X : Cx} {a b e : Expr} {es : List Expr} {τ τa τb : TD} {τv : TDs} {τs : TDa} {pos : Pos}

/-! ### arguments -/
def dNil : TDa := fun ρ _ k => k [] ρ
def dCons (τ : TD) (τr : TDa) : TDa := fun ρ kx k => τ ρ kx fun d ρ1 => τr ρ1 kx fun ds ρ2 => k (d :: ds) ρ2
theorem ad_nil : PAd X [] dNil := ⟨PA.imp pa_nil fun σ H Q ⟨W, F, ρ, kx, k, tk, R, h, hQ⟩ => hQ [] ρ [] H W h (Wd.le.refl W) R dvs_nil⟩
theorem ad_cons (ha : PEd X e τ) (hr : PAd X es τs) (hs : starEach (e :: es) X.env = (false, eval e X.env) :: starEach es X.env := by rfl) : PAd X (e :: es) (dCons τ τs) :=
  ⟨PA.imp (pa_cons ha.p hr.p hs) fun σ H Q ⟨W, F, ρ, kx, k, tk, R, h, hQ⟩ => ⟨W, F, ρ, kx, _, tk, R, h, fun d ρ1 v1 H1 W1 h1 le1 R1 d1 =>
    ⟨W1, F, ρ1, kx, _, tk.mono le1, R1, h1, fun ds ρ2 vs H2 W2 h2 le2 R2 d2 => hQ (d :: ds) ρ2 (v1 :: vs) H2 W2 h2 (le1.trans le2) R2 (dvs_cons (d1.mono le2) d2)⟩⟩⟩
theorem kd_nil : PKd X [] dNil := ⟨PK.imp pk_nil fun σ H Q ⟨W, F, ρ, kx, k, tk, R, h, hQ⟩ => hQ [] ρ [] H W h (Wd.le.refl W) R dvs_nil⟩
theorem kd_cons {nm : Option Str} {kpos : Pos} {kws : List Keyword} (ha : PEd X e τ) (hr : PKd X kws τs) : PKd X (⟨nm, e, kpos⟩ :: kws) (dCons τ τs) :=
  ⟨PK.imp (pk_cons ha.p hr.p) fun σ H Q ⟨W, F, ρ, kx, k, tk, R, h, hQ⟩ => ⟨W, F, ρ, kx, _, tk, R, h, fun d ρ1 v1 H1 W1 h1 le1 R1 d1 =>
    ⟨W1, F, ρ1, kx, _, tk.mono le1, R1, h1, fun ds ρ2 vs H2 W2 h2 le2 R2 d2 => hQ (d :: ds) ρ2 (v1 :: vs) H2 W2 h2 (le1.trans le2) R2 (dvs_cons (d1.mono le2) d2)⟩⟩⟩

/-! ### displays; what is owned is frozen -/
def BIG : Nat := 1000000
theorem big_le {n : Nat} (h : n ≤ BIG) : n ≤ sizeLine := Nat.le_trans h (by unfold BIG; rw [sizeLine_eq]; decide)
theorem big_lt {n : Nat} (h : n < BIG) : n < sizeLine := Nat.lt_of_lt_of_le h (by unfold BIG; rw [sizeLine_eq]; decide)
def dTup (τ : TDa) : TD := fun ρ kx k => τ ρ kx fun ds ρ' => ds.length ≤ BIG ∧ k (.tup ds) ρ'
theorem newTup {K : PySem.W.Frag} {mg : Str → Option Value} {W : Wd} {F H : Hp} {σ : L2.St} {ρ : Rho} (R : Rep K mg W F H σ ρ) {ds : List D} {vs : List V} (l : ds.length ≤ BIG) (d : DVs K mg W ds vs) {p : Addr} (hp : H p = none) :
    Rep K mg (W.add p (.tup vs)) F (upd H p (.tup vs)) σ ρ ∧ W.le (W.add p (.tup vs)) ∧ DV K mg (W.add p (.tup vs)) (.tup ds) (.ref p) := by
  have le := Wd.add_le (W := W) (o := .tup vs) (free.fresh R.w hp).1
  refine ⟨R.add hp, le, ?_⟩
  simp only [DV]
  exact ⟨p, vs, rfl, .inl (.inl upd_same), by rw [← dvs_len d]; exact big_le l, DVs.mono le _ _ d⟩
theorem newLst {K : PySem.W.Frag} {mg : Str → Option Value} {W : Wd} {F H : Hp} {σ : L2.St} {ρ : Rho} (R : Rep K mg W F H σ ρ) {ds : List D} {vs : List V} (l : ds.length ≤ BIG) (d : DVs K mg W ds vs) {p : Addr} (hp : H p = none) :
    Rep K mg W F (upd H p (.lst vs)) σ ρ ∧ SV K mg W F (upd H p (.lst vs)) (.own ds) (.ref p) ∧ ∀ i, ¬ OwnsAt σ ρ i p := by
  have fr := free.fresh R.w hp
  have no : ∀ i, ¬ OwnsAt σ ρ i p := fun i h => by
    obtain ⟨s, _, _, _, h1, _⟩ := R.owned h
    obtain ⟨u, e⟩ := h1.there
    rw [hp] at e; cases e
  have ne : ∀ {b : Addr} {u : HO}, H b = some u → b ≠ p := fun e => ne_of_none e hp
  refine ⟨R.go (Wd.le.refl W) ⟨R.w.g.trans (same_upd hp), R.w.f.trans (same_upd hp), R.w.gf, fun q hq => ?_⟩ fun i b h => ?_, ⟨p, rfl, ⟨vs, upd_same, by rw [← dvs_len d]; exact big_le l, d⟩, fr⟩, no⟩
  · obtain ⟨t, g1, g2, f1, f2⟩ := R.w.t q hq
    obtain ⟨n1, n2⟩ := fr.2.2 q hq
    exact ⟨t.keep (upd_ne n1) (upd_ne n2), g1, g2, f1, f2⟩
  · obtain ⟨s, _, _, _, h1, h2⟩ := R.owned h
    obtain ⟨u, e⟩ := h1.there
    exact ⟨upd_ne (ne e), h2⟩
theorem pd_tup {x1 : Nat} (h : PAd X es τs) : PEd X (.Tuple es x1 pos) (dTup τs) :=
  ⟨PE.imp (pe_tup h.p) fun σ H Q ⟨W, F, ρ, kx, k, tk, R, h, hQ⟩ => ⟨W, F, ρ, kx, _, tk, R, h, fun ds ρ1 vs H1 W1 ⟨l, h1⟩ le1 R1 d1 =>
    ⟨by rw [← dvs_len d1]; exact big_le l, fun p hp => by
      obtain ⟨R2, le2, d2⟩ := newTup R1 l d1 hp
      exact hQ _ ρ1 _ _ _ h1 (le1.trans le2) R2 d2⟩⟩⟩
def vLst (τ : TDa) : TDs := fun ρ kx k => τ ρ kx fun ds ρ' => ds.length ≤ BIG ∧ k (.own ds) ρ'
theorem vd_lst (h : PAd X es τs) : PEv X (.List es pos) (vLst τs) :=
  ⟨PE.imp (pe_lst h.p) fun σ H Q ⟨W, F, ρ, kx, k, tk, R, h, hQ⟩ => ⟨W, F, ρ, kx, _, tk, R, h, fun ds ρ1 vs H1 W1 ⟨l, h1⟩ le1 R1 d1 =>
    ⟨by rw [← dvs_len d1]; exact big_le l, fun p hp => by
      obtain ⟨R2, s2, no⟩ := newLst R1 l d1 hp
      exact hQ (.own ds) ρ1 _ _ W1 h1 le1 R2 s2 (fun a i _ ea => by cases ea; exact no i) (by intro z; cases z)⟩⟩⟩
def vDct : TDs := fun ρ kx k => k (.dct []) ρ
theorem newDct {K : PySem.W.Frag} {mg : Str → Option Value} {W : Wd} {F H : Hp} {σ : L2.St} {ρ : Rho} (R : Rep K mg W F H σ ρ) {p : Addr} (hp : H p = none) :
    Rep K mg W F (upd H p (.dK [])) σ ρ ∧ SV K mg W F (upd H p (.dK [])) (.dct []) (.ref p) ∧ ∀ i, ¬ OwnsAt σ ρ i p := by
  have fr := free.fresh R.w hp
  have no : ∀ i, ¬ OwnsAt σ ρ i p := fun i h => by
    obtain ⟨s, _, _, _, h1, _⟩ := R.owned h
    obtain ⟨u, e⟩ := h1.there
    rw [hp] at e; cases e
  refine ⟨R.go (Wd.le.refl W) ⟨R.w.g.trans (same_upd hp), R.w.f.trans (same_upd hp), R.w.gf, fun q hq => ?_⟩ fun i b h => ?_, ⟨p, rfl, ⟨[], upd_same, dvs_nil⟩, fr⟩, no⟩
  · obtain ⟨t, g1, g2, f1, f2⟩ := R.w.t q hq
    obtain ⟨n1, n2⟩ := fr.2.2 q hq
    exact ⟨t.keep (upd_ne n1) (upd_ne n2), g1, g2, f1, f2⟩
  · obtain ⟨s, _, _, _, h1, h2⟩ := R.owned h
    obtain ⟨u, e⟩ := h1.there
    exact ⟨upd_ne (ne_of_none e hp), h2⟩
theorem vd_dict : PEv X (.Dict [] [] pos) vDct :=
  ⟨PE.imp pe_dnewK fun σ H Q ⟨W, F, ρ, kx, k, tk, R, h, hQ⟩ p hp => by
    obtain ⟨R2, s2, no⟩ := newDct R hp
    exact hQ (.dct []) ρ _ _ W h (Wd.le.refl W) R2 s2 (fun a i _ ea => by cases ea; exact no i) (by intro z; cases z)⟩
def S.toD : S → D
  | .val d => d
  | .own ds => .lst ds
  | .dct kvs => .dic (kvs.map (·.1)) (kvs.map (·.2))
  | .slf _ c fs ds => .ins c fs ds
  | .un => .non
theorem SV.freeze {K : PySem.W.Frag} {mg : Str → Option Value} {W : Wd} {F H : Hp} {σ : L2.St} {ρ : Rho} (R : Rep K mg W F H σ ρ) {s : S} {v : V} (h : SV K mg W F H s v) (no : ∀ a i, s.isOwn = true → v = .ref a → ¬ OwnsAt σ ρ i a) (hu : s ≠ .un) :
    ∃ W', W.le W' ∧ Rep K mg W' F H σ ρ ∧ DV K mg W' s.toD v := by
  by_cases o : s.isOwn = true
  · obtain ⟨a, ea, hh, fr⟩ := h.ofOwn o
    obtain ⟨u, eu⟩ := hh.there
    have le : W.le (W.add a u) := Wd.add_le fr.1
    have R2 : Rep K mg (W.add a u) F H σ ρ := R.go le (R.w.frz fr eu) fun i b hb => by
      obtain ⟨t, _, _, _, _, f2⟩ := R.owned hb
      have ne : b ≠ a := fun z => no a i o ea (z ▸ hb)
      exact ⟨rfl, (upd_ne ne).trans f2.1, f2.2.1, f2.2.2⟩
    refine ⟨_, le, R2, ?_⟩
    subst ea
    cases s with
    | un => exact hh.elim
    | val d => exact hh.elim
    | own ds =>
      obtain ⟨vs, e1, l, r⟩ := hh
      rw [eu] at e1; cases e1
      simp only [S.toD, DV]
      exact ⟨a, vs, rfl, upd_same, l, DVs.mono le _ _ r⟩
    | dct kvs =>
      obtain ⟨vs, e1, r⟩ := hh
      rw [eu] at e1; cases e1
      simp only [S.toD, DV]
      refine ⟨a, vs, rfl, upd_same, ?_, DVs.mono le _ _ r⟩
      have := dvs_len r
      rw [List.length_map] at this ⊢
      exact this
    | slf b c fs ds =>
      obtain ⟨_, C, dx, vs, m, e1, l, r⟩ := hh
      rw [eu] at e1; cases e1
      simp only [S.toD, DV]
      exact ⟨a, C, dx, vs, rfl, m, upd_same, l, DVs.mono le _ _ r⟩
  · cases s with
    | un => exact (hu rfl).elim
    | val d => exact ⟨W, Wd.le.refl W, R, h⟩
    | own ds => exact (o rfl).elim
    | dct kvs => exact (o rfl).elim
    | slf b c fs ds => exact (o rfl).elim
def dFz (τ : TDs) : TD := fun ρ kx k => τ ρ kx fun s ρ' => k s.toD ρ'
theorem PEv.d (h : PEv X e τv) : PEd X e (dFz τv) :=
  ⟨PE.imp h.p fun σ H Q ⟨W, F, ρ, kx, k, tk, R, h, hQ⟩ => ⟨W, F, ρ, kx, _, tk, R, h, fun s ρ1 v1 H1 W1 h1 le1 R1 s1 no hu => by
    obtain ⟨W2, le2, R2, d2⟩ := s1.freeze R1 no hu
    exact hQ _ ρ1 v1 H1 W2 h1 (le1.trans le2) R2 d2⟩⟩
def vVal (τ : TD) : TDs := fun ρ kx k => τ ρ kx fun d ρ' => k (.val d) ρ'
theorem PEd.v (h : PEd X e τ) : PEv X e (vVal τ) :=
  ⟨PE.imp h.p fun σ H Q ⟨W, F, ρ, kx, k, tk, R, h, hQ⟩ => ⟨W, F, ρ, kx, _, tk, R, h, fun d ρ1 v1 H1 W1 h1 le1 R1 d1 =>
    hQ (.val d) ρ1 v1 H1 W1 h1 le1 R1 d1 (fun a i o _ => by cases o) (by intro z; cases z)⟩⟩

/-! ### statements -/
variable {st : Stmt} {sts : List Stmt} {t u : TDS}
def sNext : TDS := fun ρ _ k => k.nx ρ
def sSeq (t u : TDS) : TDS := fun ρ kx k => t ρ kx { k with nx := fun ρ' => u ρ' kx k }
theorem bd_nil : PBd X [] sNext := ⟨PSs.imp pss_nil fun D σ H ⟨W, F, ρ, kx, k, tk, R, h, L⟩ => L.nx ρ σ H W h (Wd.le.refl W) R⟩
theorem bd_cons (h1 : PSd X st t) (h2 : PBd X sts u) : PBd X (st :: sts) (sSeq t u) :=
  ⟨PSs.imp (pss_cons h1.p h2.p) fun D σ H ⟨W, F, ρ, kx, k, tk, R, h, L⟩ => ⟨W, F, ρ, kx, _, tk, R, h,
    ⟨fun ρ' σ' H' W' hk le R' => ⟨W', F, ρ', kx, k, tk.mono le, R', hk, L.mono le⟩, L.rt, L.bk, L.ct⟩⟩⟩
theorem bd_one (h1 : PSd X st t) : PBd X [st] t := ⟨pss_one h1.p⟩
theorem sd_pass : PSd X (.Pass pos) sNext := ⟨PS.imp ps_pass fun D σ H ⟨W, F, ρ, kx, k, tk, R, h, L⟩ => L.nx ρ σ H W h (Wd.le.refl W) R⟩
theorem sd_doc {x : Str} {j : Nat} {pos' : Pos} : PSd X (.Expr (.Constant (.str x) j pos) pos') sNext := ⟨PS.imp ps_doc fun D σ H ⟨W, F, ρ, kx, k, tk, R, h, L⟩ => L.nx ρ σ H W h (Wd.le.refl W) R⟩
def sBrk : TDS := fun ρ _ k => k.bk ρ
def sCnt : TDS := fun ρ _ k => k.ct ρ
theorem sd_break : PSd X (.Break pos) sBrk := ⟨PS.imp ps_break fun D σ H ⟨W, F, ρ, kx, k, tk, R, h, L⟩ => L.bk ρ σ H W h (Wd.le.refl W) R⟩
theorem sd_continue : PSd X (.Continue pos) sCnt := ⟨PS.imp ps_continue fun D σ H ⟨W, F, ρ, kx, k, tk, R, h, L⟩ => L.ct ρ σ H W h (Wd.le.refl W) R⟩
def sNever : TDS := fun _ _ _ => False
theorem sd_never : PSd X st sNever := ⟨PS.imp ps_never fun D σ H ⟨_, _, _, _, _, _, _, h, _⟩ => h⟩
theorem bd_never : PBd X sts sNever := ⟨PSs.imp pss_never fun D σ H ⟨_, _, _, _, _, _, _, h, _⟩ => h⟩
def sDrop (τ : TD) : TDS := fun ρ kx k => τ ρ kx fun _ ρ' => k.nx ρ'
theorem sd_expr (he : PEd X e τ) (hs : swapsWith e none pos.line X.env = pure false := by rfl) : PSd X (.Expr e pos) (sDrop τ) :=
  ⟨PS.imp (ps_expr he.p hs) fun D σ H ⟨W, F, ρ, kx, k, tk, R, h, L⟩ => ⟨W, F, ρ, kx, _, tk, R, h, fun d ρ1 v1 H1 W1 h1 le1 R1 d1 => L.nx ρ1 σ H1 W1 h1 le1 R1⟩⟩
def sRet (τ : TD) : TDS := fun ρ kx k => τ ρ kx k.rt
theorem sd_ret (he : PEd X e τ) : PSd X (.Return (some e) pos) (sRet τ) :=
  ⟨PS.imp (ps_ret he.p) fun D σ H ⟨W, F, ρ, kx, k, tk, R, h, L⟩ => ⟨W, F, ρ, kx, _, tk, R, h, fun d ρ1 v1 H1 W1 h1 le1 R1 d1 => L.rt d ρ1 v1 σ H1 W1 h1 le1 R1 d1⟩⟩
def sRetN : TDS := fun ρ _ k => k.rt .non ρ
theorem sd_retN : PSd X (.Return none pos) sRetN :=
  ⟨PS.imp ps_retN fun D σ H ⟨W, F, ρ, kx, k, tk, R, h, L⟩ => L.rt .non ρ .non σ H W h (Wd.le.refl W) R (by simp only [DV])⟩
def sIf (c : TDt) (t u : TDS) : TDS := fun ρ kx k => c ρ kx fun b ρ' => if b = true then t ρ' kx k else u ρ' kx k
theorem sd_if {c : Expr} {τc : TDt} {A B : List Stmt} (hc : PTd X c τc) (ha : PBd X A t) (hb : PBd X B u) : PSd X (.If c A B pos) (sIf τc t u) :=
  ⟨PS.imp (ps_if hc.p ha.p hb.p) fun D σ H ⟨W, F, ρ, kx, k, tk, R, h, L⟩ => ⟨W, F, ρ, kx, _, tk, R, h, fun c ρ1 H1 W1 h1 le1 R1 => by
    cases c with
    | true => exact ⟨W1, F, ρ1, kx, k, tk.mono le1, R1, h1, L.mono le1⟩
    | false => exact ⟨W1, F, ρ1, kx, k, tk.mono le1, R1, h1, L.mono le1⟩⟩⟩
def sAsg (i : Nat) (τ : TDs) : TDS := fun ρ kx k => τ ρ kx fun s ρ' => k.nx (ρ'.set i s)
theorem sd_asg (i : Nat) {x : Str} {pos' : Pos} (hN : X.N.Nodup) (hi : X.N[i]? = some x) (hx : Loc X.env.scope x) (he : PEv X e τv) (hs : swapsWith e (some (.Name x pos')) pos.line X.env = pure false := by rfl)
    (hf : X.fn x = true ∨ X.env.scope.names.lookup x = some .local := by first | exact .inl rfl | exact .inr rfl | assumption) : PSd X (.Assign [.Name x pos'] e pos) (sAsg i τv) :=
  ⟨PS.imp (ps_set hN hi hx he.p hs hf) fun D σ H ⟨W, F, ρ, kx, k, tk, R, h, L⟩ => ⟨W, F, ρ, kx, _, tk, R, h, fun s ρ1 v1 H1 W1 h1 le1 R1 s1 no hu =>
    L.nx _ _ H1 W1 h1 le1 (R1.set s1 fun a j o ev _ => no a j o ev)⟩⟩
def fzR (i : Nat) (ρ : Rho) : Rho := match ρ[i]? with
  | some .un => ρ
  | some s => ρ.set i (.val s.toD)
  | none => ρ
theorem Rep.fz {K : PySem.W.Frag} {mg : Str → Option Value} {W : Wd} {F H : Hp} {σ : L2.St} {ρ : Rho} (R : Rep K mg W F H σ ρ) (i : Nat) : ∃ W', W.le W' ∧ Rep K mg W' F H σ (fzR i ρ) := by
  have same : ∃ W', W.le W' ∧ Rep K mg W' F H σ ρ := ⟨W, Wd.le.refl W, R⟩
  unfold fzR
  cases q : ρ[i]? with
  | none => exact same
  | some s =>
    by_cases hu : s = .un
    · subst hu; exact same
    · have go : ∃ W', W.le W' ∧ Rep K mg W' F H σ (ρ.set i (.val s.toD)) := by
        obtain ⟨v, ev, sv⟩ := R.slot q hu
        -- without the slot i, nobody owns it
        have R0 : Rep K mg W F H (σ.set i (some .non)) (ρ.set i (.val .non)) := R.setVal (by simp only [DV])
        have no : ∀ a j, s.isOwn = true → v = .ref a → ¬ OwnsAt (σ.set i (some .non)) (ρ.set i (.val .non)) j a := by
          intro a j o ea ⟨t, t1, t2, t3⟩
          by_cases ej : i = j
          · subst ej
            have hl : i < ρ.length := (List.getElem?_eq_some_iff.mp q).1
            rw [List.getElem?_set_self hl] at t1
            cases t1
            cases t2
          · rw [List.getElem?_set_ne ej] at t1 t3
            exact R.sep i j a ej ⟨s, q, o, by rw [ev, ea]⟩ ⟨t, t1, t2, t3⟩
        obtain ⟨W2, le2, R2, d2⟩ := sv.freeze R0 no hu
        refine ⟨W2, le2, ?_⟩
        have R3 := R2.setVal (i := i) d2
        rw [List.set_set, List.set_set] at R3
        have es : σ.set i (some v) = σ := by
          have hl : i < σ.length := (List.getElem?_eq_some_iff.mp ev).1
          refine List.ext_getElem? fun j => ?_
          by_cases ej : i = j
          · subst ej
            rw [List.getElem?_set_self hl, ev]
          · rw [List.getElem?_set_ne ej]
        rw [es] at R3
        exact R3
      cases s with
      | un => exact (hu rfl).elim
      | val d => exact go
      | own ds => exact go
      | dct kvs => exact go
      | slf b c fs ds => exact go
def sFz (i : Nat) (t : TDS) : TDS := fun ρ kx k => t (fzR i ρ) kx k
theorem sd_fz (i : Nat) (h : PSd X st t) : PSd X st (sFz i t) :=
  ⟨PS.imp h.p fun D σ H ⟨W, F, ρ, kx, k, tk, R, h, L⟩ => by
    obtain ⟨W', le, R'⟩ := R.fz i
    exact ⟨W', F, _, kx, k, tk.mono le, R', h, L.mono le⟩⟩
end
end DL

set_option maxHeartbeats 4000000
/-! DL4: targets, several values at once, loops, comprehensions. -/
namespace DL
open PySem PySem.Spec PyProof.Rows L2

/-! ### targets -/
abbrev TGd := D → Rho → (Rho → Prop) → Prop
abbrev TGsd := List D → Rho → (Rho → Prop) → Prop
def Out (is : List Nat) (σ σ' : L2.St) : Prop := σ'.length = σ.length ∧ ∀ j, j ∉ is → σ'[j]? = σ[j]?
theorem Out.refl {is : List Nat} (σ : L2.St) : Out is σ σ := ⟨rfl, fun _ _ => rfl⟩
theorem Out.trans {is js : List Nat} {σ σ1 σ2 : L2.St} (a : Out is σ σ1) (b : Out js σ1 σ2) : Out (is ++ js) σ σ2 :=
  ⟨b.1.trans a.1, fun j h => (b.2 j fun z => h (List.mem_append_right _ z)).trans (a.2 j fun z => h (List.mem_append_left _ z))⟩
def ROut (is : List Nat) (ρ ρ' : Rho) : Prop := ρ'.length = ρ.length ∧ ∀ j, j ∉ is → ρ'[j]? = ρ[j]?
theorem ROut.refl {is : List Nat} (ρ : Rho) : ROut is ρ ρ := ⟨rfl, fun _ _ => rfl⟩
theorem ROut.trans {is js : List Nat} {ρ ρ1 ρ2 : Rho} (a : ROut is ρ ρ1) (b : ROut js ρ1 ρ2) : ROut (is ++ js) ρ ρ2 :=
  ⟨b.1.trans a.1, fun j h => (b.2 j fun z => h (List.mem_append_right _ z)).trans (a.2 j fun z => h (List.mem_append_left _ z))⟩
theorem ROut.set {i : Nat} {ρ : Rho} {s : S} : ROut [i] ρ (ρ.set i s) := ⟨List.length_set, fun j h => List.getElem?_set_ne fun z => h (by rw [z]; exact List.mem_singleton.mpr rfl)⟩
theorem Out.set {i : Nat} {σ : L2.St} {v : Option V} : Out [i] σ (σ.set i v) := ⟨List.length_set, fun j h => List.getElem?_set_ne fun z => h (by rw [z]; exact List.mem_singleton.mpr rfl)⟩
def lG (X : Cx) (is : List Nat) (γ : TGd) : TG := fun v σ H Q => ∃ (W : Wd) (F : Hp) (ρ : Rho) (d : D) (k : Rho → Prop), Rep X.K X.mg W F H σ ρ ∧ DV X.K X.mg W d v ∧ γ d ρ k ∧
  ∀ ρ' σ' H' W', k ρ' → W.le W' → Rep X.K X.mg W' F H' σ' ρ' → Out is σ σ' → ROut is ρ ρ' → Q σ' H'
def lGs (X : Cx) (is : List Nat) (γ : TGsd) : TGs := fun vs σ H Q => ∃ (W : Wd) (F : Hp) (ρ : Rho) (ds : List D) (k : Rho → Prop), Rep X.K X.mg W F H σ ρ ∧ DVs X.K X.mg W ds vs ∧ γ ds ρ k ∧
  ∀ ρ' σ' H' W', k ρ' → W.le W' → Rep X.K X.mg W' F H' σ' ρ' → Out is σ σ' → ROut is ρ ρ' → Q σ' H'
structure PGd (X : Cx) (target : Expr) (is : List Nat) (γ : TGd) : Prop where
  p : PG X target (lG X is γ)
structure PGsd (X : Cx) (ts : List Expr) (is : List Nat) (γ : TGsd) : Prop where
  p : PGs X ts (lGs X is γ)
theorem PG.imp {X : Cx} {e : Expr} {t t' : TG} (h : PG X e t) (f : ∀ v σ H Q, t' v σ H Q → t v σ H Q) : PG X e t' := ⟨fun pins s σ H v u Q I r q => h.run pins s σ H v u Q I r (f _ _ _ _ q)⟩
theorem PGs.imp {X : Cx} {e : List Expr} {t t' : TGs} (h : PGs X e t) (f : ∀ v σ H Q, t' v σ H Q → t v σ H Q) : PGs X e t' := ⟨fun pins s σ H v u Q I r q => h.run pins s σ H v u Q I r (f _ _ _ _ q)⟩
section
variable {X : Cx} {e : Expr} {es : List Expr} {γ : TGd} {γs : TGsd} {is js : List Nat} {pos : Pos}
def gN (i : Nat) : TGd := fun d ρ k => k (ρ.set i (.val d))
theorem gd_name (i : Nat) {x : Str} (hN : X.N.Nodup) (hi : X.N[i]? = some x) (hx : Loc X.env.scope x) (hf : X.fn x = true ∨ X.env.scope.names.lookup x = some .local := by first | exact .inl rfl | exact .inr rfl | assumption) :
    PGd X (.Name x pos) [i] (gN i) :=
  ⟨PG.imp (pg_name hN hi hx hf) fun v σ H Q ⟨W, F, ρ, d, k, R, dv, h, hQ⟩ => hQ _ _ H W h (Wd.le.refl W) (R.setVal dv) Out.set ROut.set⟩
def gsN : TGsd := fun ds ρ k => ds = [] ∧ k ρ
def gsC (γ : TGd) (γs : TGsd) : TGsd := fun ds ρ k => match ds with | [] => False | d :: r => γ d ρ fun ρ1 => γs r ρ1 k
theorem gsd_nil : PGsd X [] [] gsN := ⟨PGs.imp pgs_nil fun vs σ H Q ⟨W, F, ρ, ds, k, R, dv, h, hQ⟩ => by
  obtain ⟨e, h⟩ := h
  subst e
  simp only [DVs] at dv
  exact ⟨dv, hQ ρ σ H W h (Wd.le.refl W) R (Out.refl σ) (ROut.refl ρ)⟩⟩
theorem gsd_cons (h1 : PGd X e is γ) (h2 : PGsd X es js γs) (hs : (assignEach (e :: es) X.env).map (·.2) = assign e X.env :: (assignEach es X.env).map (·.2) := by rfl) : PGsd X (e :: es) (is ++ js) (gsC γ γs) :=
  ⟨PGs.imp (pgs_cons h1.p h2.p hs) fun vs σ H Q ⟨W, F, ρ, ds, k, R, dv, h, hQ⟩ => by
    cases ds with
    | nil => exact h.elim
    | cons d r =>
      simp only [DVs] at dv
      obtain ⟨v, vr, e, dv1, dv2⟩ := dv
      refine ⟨v, vr, e, W, F, ρ, d, _, R, dv1, h, fun ρ1 σ1 H1 W1 h1 le1 R1 o1 p1 => ?_⟩
      exact ⟨W1, F, ρ1, r, k, R1, DVs.mono le1 _ _ dv2, h1, fun ρ2 σ2 H2 W2 h2 le2 R2 o2 p2 => hQ ρ2 σ2 H2 W2 h2 (le1.trans le2) R2 (o1.trans o2) (p1.trans p2)⟩⟩
def gT (n : Nat) (γs : TGsd) : TGd := fun d ρ k => match d with | .tup ds => ds.length = n ∧ γs ds ρ k | _ => False
theorem gd_tup {k n : Nat} (hc : X.calm = true) (h : PGsd X es is γs) (hn : (assignEach es X.env).length = n := by rfl) (hst : (assignEach es X.env).findIdx? (·.1) = none := by rfl) : PGd X (.Tuple es k pos) is (gT n γs) :=
  ⟨PG.imp (pg_tup hc h.p hn hst) fun v σ H Q ⟨W, F, ρ, d, k, R, dv, h, hQ⟩ => by
    cases d <;> try exact h.elim
    rename_i ds
    simp only [DV] at dv
    obtain ⟨a, vs, e, sq, l, dvs⟩ := dv
    exact ⟨a, vs, e, seqT_mono R.w.g sq, (dvs_len dvs).symm.trans h.1, W, F, ρ, ds, k, R, dvs, h.2, hQ⟩⟩
def sAsgT (γ : TGd) (τ : TD) : TDS := fun ρ kx k => τ ρ kx fun d ρ' => γ d ρ' k.nx
theorem sd_asgT {tg : Expr} {τ : TD} (he : PEd X e τ) (hg : PGd X tg is γ) (hs : swapsWithSole [tg] e pos.line X.env = pure false := by rfl) (hw : swappedStores [tg] e X.env = pure none := by rfl)
    (h1 : (assignEach [tg] X.env).map (·.2) = [assign tg X.env] := by rfl) : PSd X (.Assign [tg] e pos) (sAsgT γ τ) :=
  ⟨PS.imp (ps_asg he.p hg.p hs hw h1) fun D σ H ⟨W, F, ρ, kx, k, tk, R, h, L⟩ => ⟨W, F, ρ, kx, _, tk, R, h, fun d ρ1 v1 H1 W1 h1 le1 R1 d1 =>
    ⟨W1, F, ρ1, d, _, R1, d1, h1, fun ρ2 σ2 H2 W2 h2 le2 R2 _ _ => L.nx ρ2 σ2 H2 W2 h2 (le1.trans le2) R2⟩⟩⟩
end

/-! ### several values, some owned -/
def SVs (K : PySem.W.Frag) (mg : Str → Option Value) (W : Wd) (F H : Hp) : List S → List V → Prop := Paired fun s v => SV K mg W F H s v ∧ s ≠ .un
def Apart (σ : L2.St) (ρ : Rho) : List S → List V → Prop
  | s :: ss, v :: vs => (∀ a, s.isOwn = true → v = .ref a → (∀ i, ¬ OwnsAt σ ρ i a) ∧ ∀ (j : Nat) (t : S), ss[j]? = some t → t.isOwn = true → vs[j]? ≠ some (.ref a)) ∧ Apart σ ρ ss vs
  | _, _ => True
abbrev TDm := Rho → KX → (List S → Rho → Prop) → Prop
def lM (X : Cx) (τ : TDm) : TA := fun σ H Q => ∃ (W : Wd) (F : Hp) (ρ : Rho) (kx : KX) (k : List S → Rho → Prop), TakesD X W F kx ∧ Rep X.K X.mg W F H σ ρ ∧ τ ρ kx k ∧
  ∀ ss ρ' vs H' W', k ss ρ' → W.le W' → Rep X.K X.mg W' F H' σ ρ' → SVs X.K X.mg W' F H' ss vs → Apart σ ρ' ss vs → Q vs H'
structure PMd (X : Cx) (es : List Expr) (τ : TDm) : Prop where
  p : PA X es (lM X τ)
section
variable {X : Cx} {e : Expr} {es : List Expr} {τ : TDs} {τs : TDm} {pos : Pos}
def mNil : TDm := fun ρ _ k => k [] ρ
def mCons (τ : TDs) (τr : TDm) : TDm := fun ρ kx k => τ ρ kx fun s ρ1 => τr ρ1 kx fun ss ρ2 => k (s :: ss) ρ2
theorem md_nil : PMd X [] mNil := ⟨PA.imp pa_nil fun σ H Q ⟨W, F, ρ, kx, k, tk, R, h, hQ⟩ => hQ [] ρ [] H W h (Wd.le.refl W) R .nil trivial⟩
theorem SVs.weakF {K : PySem.W.Frag} {mg : Str → Option Value} {W : Wd} {F F1 H : Hp} (e : Same F F1) : ∀ {ss : List S} {vs : List V}, SVs K mg W F1 H ss vs → SVs K mg W F H ss vs
  | _, _, .nil => .nil
  | _, _, .cons h t => .cons ⟨h.1.mono (Wd.le.refl W) fun a ea o => ⟨rfl, by
      obtain ⟨b, eb, _, f⟩ := h.1.ofOwn o
      rw [ea] at eb
      cases eb
      refine ⟨f.1, ?_, f.2.2⟩
      cases q : F a with
      | none => rfl
      | some u => exact absurd (e a u q) (by rw [f.2.1]; intro z; cases z)⟩, h.2⟩ (SVs.weakF e t)
theorem md_cons (ha : PEv X e τ) (hr : PMd X es τs) (hs : starEach (e :: es) X.env = (false, eval e X.env) :: starEach es X.env := by rfl) : PMd X (e :: es) (mCons τ τs) :=
  ⟨PA.imp (pa_cons ha.p hr.p hs) fun σ H Q ⟨W, F, ρ, kx, k, tk, R, h, hQ⟩ => ⟨W, F, ρ, kx, _, tk, R, h, fun s ρ1 v1 H1 W1 h1 le1 R1 s1 no hu => by
    by_cases o : s.isOwn = true
    · obtain ⟨a, ea, hh, fr⟩ := s1.ofOwn o
      subst ea
      obtain ⟨u, eu⟩ := hh.there
      have sF : Same F (upd F a u) := same_upd fr.2.1
      have w2 : WOk W1 (upd F a u) H1 := by
        refine ⟨R1.w.g, fun b x eb => ?_, fun b hb => ?_, fun p hp => ?_⟩
        · by_cases z : b = a
          · subst z; rw [upd_same] at eb; cases eb; exact eu
          · rw [upd_ne z] at eb; exact R1.w.f b x eb
        · by_cases z : b = a
          · subst z; exact fr.1
          · rw [upd_ne z] at hb; exact R1.w.gf b hb
        · obtain ⟨t, g1, g2, f1, f2⟩ := R1.w.t p hp
          obtain ⟨n1, n2⟩ := fr.2.2 p hp
          exact ⟨t, g1, g2, (upd_ne n1).trans f1, (upd_ne n2).trans f2⟩
      have R2 : Rep X.K X.mg W1 (upd F a u) H1 σ ρ1 := R1.go (Wd.le.refl _) w2 fun i b hb => by
        obtain ⟨t, _, _, _, _, f2⟩ := R1.owned hb
        have ne : b ≠ a := fun z => no a i o rfl (z ▸ hb)
        exact ⟨rfl, f2.1, (upd_ne ne).trans f2.2.1, f2.2.2⟩
      refine ⟨W1, upd F a u, ρ1, kx, _, (tk.mono le1).anti sF, R2, h1, fun ss ρ2 vs H2 W2 h2 le2 R3 sv ap => ?_⟩
      have eu2 : H2 a = some u := R3.w.f a u upd_same
      have gn : W2.G a = none := R3.w.gf a (by rw [upd_same]; intro z; cases z)
      have tn : ∀ p, W2.T = some p → p.1 ≠ a ∧ p.2 ≠ a := fun p hp => by
        obtain ⟨_, _, _, f1, f2⟩ := R3.w.t p hp
        exact ⟨(fun z => by rw [z, upd_same] at f1; cases f1), (fun z => by rw [z, upd_same] at f2; cases f2)⟩
      have no2 : ∀ i, ¬ OwnsAt σ ρ2 i a := fun i hb => by
        obtain ⟨t, _, _, _, _, f2⟩ := R3.owned hb
        have := f2.2.1
        rw [upd_same] at this; cases this
      refine hQ (s :: ss) ρ2 (.ref a :: vs) H2 W2 h2 (le1.trans le2) (R3.weakF sF) (.cons ⟨SV.toOwn (hh.mono le2 (eu2.trans eu.symm)) ⟨gn, fr.2.1, tn⟩, hu⟩ (sv.weakF sF)) ⟨fun b _ eb => ?_, ap⟩
      cases eb
      refine ⟨no2, fun j t ht ho hv => ?_⟩
      have key : ∀ {ss : List S} {vs : List V} (j : Nat), SVs X.K X.mg W2 (upd F a u) H2 ss vs → ss[j]? = some t → vs[j]? = some (V.ref a) → False := by
        intro ss vs j q
        induction q generalizing j with
        | nil => intro h; simp at h
        | cons p r ih =>
          intro h1 h2
          cases j with
          | zero =>
            simp at h1 h2
            subst h1 h2
            obtain ⟨b, eb, _, f⟩ := p.1.ofOwn ho
            cases eb
            have := f.2.1
            rw [upd_same] at this; cases this
          | succ j => exact ih j (by simpa using h1) (by simpa using h2)
      exact key j sv ht hv
    · refine ⟨W1, F, ρ1, kx, _, tk.mono le1, R1, h1, fun ss ρ2 vs H2 W2 h2 le2 R3 sv ap => ?_⟩
      exact hQ (s :: ss) ρ2 (v1 :: vs) H2 W2 h2 (le1.trans le2) R3 (.cons ⟨s1.mono le2 fun a _ z => (o z).elim, hu⟩ sv) ⟨fun b z _ => (o z).elim, ap⟩⟩⟩
def setV : L2.St → List Nat → List V → L2.St
  | σ, i :: is, v :: vs => setV (σ.set i (some v)) is vs
  | σ, _, _ => σ
def setS : Rho → List Nat → List S → Rho
  | ρ, i :: is, s :: ss => setS (ρ.set i s) is ss
  | ρ, _, _ => ρ
theorem Rep.setAll {K : PySem.W.Frag} {mg : Str → Option Value} {W : Wd} {F H : Hp} : ∀ {is : List Nat} {ss : List S} {vs : List V} {σ : L2.St} {ρ : Rho}, Rep K mg W F H σ ρ → SVs K mg W F H ss vs → Apart σ ρ ss vs → Rep K mg W F H (setV σ is vs) (setS ρ is ss)
  | [], _, _, σ, ρ, R, _, _ => by simpa only [setV, setS] using R
  | i :: is, _, _, σ, ρ, R, .nil, _ => by simpa only [setV, setS] using R
  | i :: is, s :: ss, v :: vs, σ, ρ, R, .cons h t, ap => by
    refine Rep.setAll (is := is) (R.set h.1 fun a j o ev _ => (ap.1 a o ev).1 j) t ?_
    -- nobody new owns what comes later
    have sub : ∀ {ss' : List S} {vs' : List V}, Apart σ ρ ss' vs' → (∀ a, s.isOwn = true → v = .ref a → ∀ (j : Nat) (t : S), ss'[j]? = some t → t.isOwn = true → vs'[j]? ≠ some (.ref a)) → Apart (σ.set i (some v)) (ρ.set i s) ss' vs' := by
      intro ss'
      induction ss' with
      | nil => intro vs' _ _; cases vs' <;> trivial
      | cons s' ss' ih =>
        intro vs' ap' hn
        cases vs' with
        | nil => trivial
        | cons v' vs' =>
          refine ⟨fun a o ev => ⟨fun j hj => ?_, (ap'.1 a o ev).2⟩, ih ap'.2 fun a o ev j t ht ho => hn a o ev (j + 1) t (by simpa using ht) ho⟩
          obtain ⟨t1, q1, q2, q3⟩ := hj
          by_cases e : i = j
          · subst e
            have hl : i < ρ.length := by
              have := (List.getElem?_eq_some_iff.mp q1).1
              rwa [List.length_set] at this
            rw [List.getElem?_set_self hl] at q1
            rw [List.getElem?_set_self (by rw [← R.len]; exact hl)] at q3
            cases q1
            have e3 : v = .ref a := Option.some.inj (Option.some.inj q3)
            exact hn a q2 e3 0 s' rfl o (by rw [← ev]; rfl)
          · rw [List.getElem?_set_ne e] at q1 q3
            exact (ap'.1 a o ev).1 j ⟨t1, q1, q2, q3⟩
    exact sub ap.2 fun a o ev => (ap.1 a o ev).2
def sPar (is : List Nat) (τ : TDm) : TDS := fun ρ kx k => τ ρ kx fun ss ρ' => ss.length = is.length ∧ k.nx (setS ρ' is ss)
theorem SVs.len {K : PySem.W.Frag} {mg : Str → Option Value} {W : Wd} {F H : Hp} {ss : List S} {vs : List V} (h : SVs K mg W F H ss vs) : ss.length = vs.length := Paired.length h
theorem sd_par2 (i j : Nat) {x y : Str} {a b : Expr} {px py pt : Pos} {kt k2 : Nat} {pt2 : Pos} (hc : X.calm = true) (hN : X.N.Nodup) (hi : X.N[i]? = some x) (hj : X.N[j]? = some y) (hij : i ≠ j)
    (hx : X.env.scope.names.lookup x = some .local) (hy : X.env.scope.names.lookup y = some .local) (ha : PMd X [a, b] τs)
    (hw : swappedStores [.Tuple [.Name x px, .Name y py] kt pt] (.Tuple [a, b] k2 pt2) X.env = pure (some [x, y]))
    (hs : swapsWithSole [.Tuple [.Name x px, .Name y py] kt pt] (.Tuple [a, b] k2 pt2) pos.line X.env = pure false := by rfl) :
    PSd X (.Assign [.Tuple [.Name x px, .Name y py] kt pt] (.Tuple [a, b] k2 pt2) pos) (sPar [i, j] τs) :=
  ⟨PS.imp (ps_par hc hN hi hj hij hx hy ha.p hw hs) fun D σ H ⟨W, F, ρ, kx, k, tk, R, h, L⟩ => ⟨W, F, ρ, kx, _, tk, R, h, fun ss ρ1 vs H1 W1 ⟨l, h1⟩ le1 R1 sv ap => by
    have lv := sv.len
    rw [l] at lv
    match vs, lv with
    | [v, w], _ => exact ⟨v, w, rfl, L.nx _ _ H1 W1 h1 le1 (R1.setAll (is := [i, j]) sv ap)⟩⟩⟩
theorem sd_par3 (i j l : Nat) {x y z : Str} {a b c : Expr} {px py pz pt : Pos} {kt k2 : Nat} {pt2 : Pos} (hc : X.calm = true) (hN : X.N.Nodup) (hi : X.N[i]? = some x) (hj : X.N[j]? = some y) (hl : X.N[l]? = some z) (hij : i ≠ j) (hil : i ≠ l) (hjl : j ≠ l)
    (hx : X.env.scope.names.lookup x = some .local) (hy : X.env.scope.names.lookup y = some .local) (hz : X.env.scope.names.lookup z = some .local) (ha : PMd X [a, b, c] τs)
    (hw : swappedStores [.Tuple [.Name x px, .Name y py, .Name z pz] kt pt] (.Tuple [a, b, c] k2 pt2) X.env = pure (some [x, y, z]))
    (hs : swapsWithSole [.Tuple [.Name x px, .Name y py, .Name z pz] kt pt] (.Tuple [a, b, c] k2 pt2) pos.line X.env = pure false := by rfl) :
    PSd X (.Assign [.Tuple [.Name x px, .Name y py, .Name z pz] kt pt] (.Tuple [a, b, c] k2 pt2) pos) (sPar [i, j, l] τs) :=
  ⟨PS.imp (ps_par3 hc hN hi hj hl hij hil hjl hx hy hz ha.p hw hs) fun D σ H ⟨W, F, ρ, kx, k, tk, R, h, L⟩ => ⟨W, F, ρ, kx, _, tk, R, h, fun ss ρ1 vs H1 W1 ⟨l, h1⟩ le1 R1 sv ap => by
    have lv := sv.len
    rw [l] at lv
    match vs, lv with
    | [v, w, u], _ => exact ⟨v, w, u, rfl, L.nx _ _ H1 W1 h1 le1 (R1.setAll (is := [i, j, _]) sv ap)⟩⟩⟩
structure PNs (X : Cx) (ts : List Expr) (is : List Nat) : Prop where
  p : PGs X ts (fun vs σ H Q => vs.length = is.length ∧ Q (setV σ is vs) H)
theorem pn_nil : PNs X [] [] := ⟨PGs.imp pgs_nil fun vs σ H Q ⟨l, q⟩ => by
  cases vs with
  | nil => exact ⟨rfl, q⟩
  | cons v vs => cases l⟩
theorem pn_cons (i : Nat) {x : Str} {p : Pos} {is : List Nat} (hN : X.N.Nodup) (hi : X.N[i]? = some x) (hx : Loc X.env.scope x) (h : PNs X es is)
    (hs : (assignEach (.Name x p :: es) X.env).map (·.2) = assign (.Name x p) X.env :: (assignEach es X.env).map (·.2) := by rfl) (hf : X.fn x = true ∨ X.env.scope.names.lookup x = some .local := by first | exact .inl rfl | exact .inr rfl | assumption) : PNs X (.Name x p :: es) (i :: is) :=
  ⟨PGs.imp (pgs_cons (pg_name hN hi hx hf) h.p hs) fun vs σ H Q ⟨l, q⟩ => by
    cases vs with
    | nil => cases l
    | cons v vs => exact ⟨v, vs, rfl, Nat.succ.inj l, q⟩⟩
theorem sd_parT {ts : List Expr} {is : List Nat} {kt k2 : Nat} {pt pt2 : Pos} (hb : is.length ≤ BIG) (hc : X.calm = true) (ha : PMd X es τs) (hg : PNs X ts is)
    (hn : (assignEach ts X.env).length = is.length := by rfl) (hst : (assignEach ts X.env).findIdx? (·.1) = none := by rfl)
    (hs : swapsWithSole [.Tuple ts kt pt] (.Tuple es k2 pt2) pos.line X.env = pure false := by rfl) (hw : swappedStores [.Tuple ts kt pt] (.Tuple es k2 pt2) X.env = pure none := by rfl)
    (h1 : (assignEach [.Tuple ts kt pt] X.env).map (·.2) = [assign (.Tuple ts kt pt) X.env] := by rfl) :
    PSd X (.Assign [.Tuple ts kt pt] (.Tuple es k2 pt2) pos) (sPar is τs) :=
  ⟨PS.imp (ps_asg (pe_tup ha.p) (pg_tup hc hg.p hn hst) hs hw h1) fun D σ H ⟨W, F, ρ, kx, k, tk, R, h, L⟩ => ⟨W, F, ρ, kx, fun ss ρ' => ss.length = is.length ∧ k.nx (setS ρ' is ss), tk, R, h, fun ss ρ1 vs H1 W1 ⟨l, h1⟩ le1 R1 sv ap => by
    have lv := sv.len
    refine ⟨by rw [← lv, l]; exact big_le hb, fun p hp => ⟨p, vs, rfl, .inl (.inl upd_same), by rw [← lv, l], by rw [← lv, l], ?_⟩⟩
    have fr := free.fresh R1.w hp
    have ne : ∀ {b : Addr} {u : HO}, H1 b = some u → b ≠ p := fun e => ne_of_none e hp
    have R2 : Rep X.K X.mg W1 F (upd H1 p (.tup vs)) σ ρ1 := R1.go (Wd.le.refl W1) ⟨R1.w.g.trans (same_upd hp), R1.w.f.trans (same_upd hp), R1.w.gf, fun q hq => by
      obtain ⟨t, g1, g2, f1, f2⟩ := R1.w.t q hq
      obtain ⟨n1, n2⟩ := fr.2.2 q hq
      exact ⟨t.keep (upd_ne n1) (upd_ne n2), g1, g2, f1, f2⟩⟩ fun i b hb => by
        obtain ⟨s, _, _, _, q1, q2⟩ := R1.owned hb
        obtain ⟨u, e⟩ := q1.there
        exact ⟨upd_ne (ne e), q2⟩
    have sv2 : SVs X.K X.mg W1 F (upd H1 p (.tup vs)) ss vs := by
      have : ∀ {ss : List S} {vs' : List V}, SVs X.K X.mg W1 F H1 ss vs' → SVs X.K X.mg W1 F (upd H1 p (.tup vs)) ss vs' := by
        intro ss vs' q
        induction q with
        | nil => exact .nil
        | cons r _ ih => exact .cons ⟨r.1.mono (Wd.le.refl W1) fun a ea o => by
            obtain ⟨b, eb, hb, fb⟩ := r.1.ofOwn o
            rw [ea] at eb
            cases eb
            obtain ⟨u, e⟩ := hb.there
            exact ⟨upd_ne (ne e), fb⟩, r.2⟩ ih
      exact this sv
    exact L.nx _ _ _ W1 h1 le1 (R2.setAll sv2 ap)⟩⟩
end
end DL

set_option maxHeartbeats 4000000
/-! DL5: what is walked, for, list comprehensions, while. -/
namespace DL
open PySem PySem.Spec PyProof.Rows L2

abbrev TDi := Rho → KX → (List D → Rho → Prop) → Prop
structure WalkD (X : Cx) (W1 : Wd) (items : List D) (J : It) : Prop where
  len : items.length ≤ sizeLine
  w : ∃ (Gc : Hp → Prop) (Y : Nat → Hp → V → Hp → Prop), Walk J items.length Gc Y ∧ (∀ H2 : Hp, Same W1.G H2 → Gc H2) ∧
    ∀ (i : Nat) (H2 H3 : Hp) (x : V) (W2 : Wd) (F : Hp) (σ : L2.St) (ρ : Rho), i < items.length → W1.le W2 → Rep X.K X.mg W2 F H2 σ ρ → Y i H2 x H3 →
      ∃ d W3, items[i]? = some d ∧ W2.le W3 ∧ Rep X.K X.mg W3 F H3 σ ρ ∧ DV X.K X.mg W3 d x
structure PId (X : Cx) (tg iter : Expr) (τ : TDi) : Prop where
  p : ∃ wi : TI, PI X tg iter wi ∧ ∀ (σ : L2.St) (H : Hp) (R : It → Hp → Prop) (W : Wd) (F : Hp) (ρ : Rho) (kx : KX) (k : List D → Rho → Prop), TakesD X W F kx → Rep X.K X.mg W F H σ ρ → τ ρ kx k →
    (∀ items ρ' H1 W1 J, k items ρ' → W.le W1 → Rep X.K X.mg W1 F H1 σ ρ' → WalkD X W1 items J → R J H1) → wi σ H R
section
variable {X : Cx} {tg iter e : Expr} {τ τe : TD} {τi : TDi} {pos : Pos}
def iSeq (τ : TD) : TDi := fun ρ kx k => τ ρ kx fun d ρ' => match d with
  | .lst ds => k ds ρ'
  | _ => False
def iTupD (τ : TD) : TDi := fun ρ kx k => τ ρ kx fun d ρ' => match d with
  | .tup ds => k ds ρ'
  | _ => False
theorem id_list (h : PEd X iter τ) : PId X tg iter (iSeq τ) :=
  ⟨⟨_, pi_list h.p, fun σ H R W F ρ kx k tk Rp hτ hR => ⟨W, F, ρ, kx, _, tk, Rp, hτ, fun d ρ1 v1 H1 W1 h1 le1 R1 d1 => by
    cases d <;> try exact h1.elim
    rename_i ds
    simp only [DV] at d1
    obtain ⟨a, vs, e, g, l, dv⟩ := d1
    have hl := dvs_len dv
    refine ⟨a, e, ⟨vs, .inl (.inl (R1.w.g _ _ g))⟩, hR ds ρ1 H1 W1 _ h1 le1 R1 ⟨by rw [hl]; exact l, (fun H => SqL X.K H a vs), YAt vs, by rw [hl]; exact walk_list, fun H2 s2 => .inl (.inl (s2 _ _ g)), fun i H2 H3 x W2 F2 σ2 ρ2 hi le2 R2 y => ?_⟩⟩
    obtain ⟨e3, hx⟩ := y
    subst e3
    obtain ⟨d, hd, dx⟩ := dvs_getV dv hx
    exact ⟨d, W2, hd, Wd.le.refl _, R2, dx.mono le2⟩⟩⟩⟩
theorem id_tup (h : PEd X iter τ) : PId X tg iter (iTupD τ) :=
  ⟨⟨_, pi_tup h.p, fun σ H R W F ρ kx k tk Rp hτ hR => ⟨W, F, ρ, kx, _, tk, Rp, hτ, fun d ρ1 v1 H1 W1 h1 le1 R1 d1 => by
    cases d <;> try exact h1.elim
    rename_i ds
    simp only [DV] at d1
    obtain ⟨a, vs, e, g, l, dv⟩ := d1
    have hl := dvs_len dv
    refine ⟨a, e, ⟨vs, seqT_mono R1.w.g g⟩, hR ds ρ1 H1 W1 _ h1 le1 R1 ⟨by rw [hl]; exact l, (fun H => SqT X.K H a vs), YAt vs, by rw [hl]; exact walk_tup, fun H2 s2 => seqT_mono s2 g, fun i H2 H3 x W2 F2 σ2 ρ2 hi le2 R2 y => ?_⟩⟩
    obtain ⟨e3, hx⟩ := y
    subst e3
    obtain ⟨d, hd, dx⟩ := dvs_getV dv hx
    exact ⟨d, W2, hd, Wd.le.refl _, R2, dx.mono le2⟩⟩⟩⟩
def rng (lo : Int) (n : Nat) : List D := (List.range n).map fun i => D.int (lo + (i : Nat))
theorem rng_len (lo : Int) (n : Nat) : (rng lo n).length = n := by simp [rng]
theorem rng_get {lo : Int} {n i : Nat} (h : i < n) : (rng lo n)[i]? = some (D.int (lo + (i : Nat))) := by simp [rng, h]
theorem walk_rngD {W1 : Wd} (lo : Int) (n : Nat) (h : n ≤ BIG) : WalkD X W1 (rng lo n) (Itr lo n) :=
  ⟨by rw [rng_len]; exact big_le h, _, _, by rw [rng_len]; exact walk_range, fun _ _ => trivial, fun i H2 H3 x W2 F2 σ2 ρ2 hi le2 R2 y => by
    rw [rng_len] at hi
    obtain ⟨e3, hx⟩ := y
    subst e3
    subst hx
    exact ⟨_, W2, rng_get hi, Wd.le.refl _, R2, by simp only [DV]⟩⟩
def iRg1 (τs : TDa) : TDi := fun ρ kx k => τs ρ kx fun ds ρ' => match ds with
  | [.int j] => (-1000000 ≤ j ∧ j ≤ 1000000) ∧ k (rng 0 j.toNat) ρ'
  | _ => False
def iRg2 (τs : TDa) : TDi := fun ρ kx k => τs ρ kx fun ds ρ' => match ds with
  | [.int i, .int j] => (-1000000 ≤ i ∧ i ≤ 1000000 ∧ -1000000 ≤ j ∧ j ≤ 1000000 ∧ j - i ≤ 1000000) ∧ k (rng i (j - i).toNat) ρ'
  | _ => False
theorem dvs1 {K : PySem.W.Frag} {mg : Str → Option Value} {W : Wd} {d : D} {vs : List V} (h : DVs K mg W [d] vs) : ∃ v, vs = [v] ∧ DV K mg W d v := by
  simp only [DVs] at h
  obtain ⟨v, vr, e, r, t⟩ := h
  subst t
  exact ⟨v, e, r⟩
theorem dvs2 {K : PySem.W.Frag} {mg : Str → Option Value} {W : Wd} {d d2 : D} {vs : List V} (h : DVs K mg W [d, d2] vs) : ∃ v v2, vs = [v, v2] ∧ DV K mg W d v ∧ DV K mg W d2 v2 := by
  simp only [DVs] at h
  obtain ⟨v, vr, e, r, v2, vr2, e2, r2, t⟩ := h
  subst t
  subst e2
  exact ⟨v, v2, e, r, r2⟩
theorem id_range1 {a : Expr} {τs : TDa} {p : Pos} (hg : Gl X "range") (hm : X.mg "range" = none) (ha : PAd X [a] τs) (hs : starEach [a] X.env = [(false, eval a X.env)] := by rfl) : PId X tg (.Call (.Name "range" p) [a] [] pos) (iRg1 τs) :=
  ⟨⟨_, pi_range1 hg hm ha.p hs, fun σ H R W F ρ kx k tk Rp hτ hR => ⟨W, F, ρ, kx, _, tk, Rp, hτ, fun ds ρ1 vs H1 W1 h1 le1 R1 d1 => by
    match ds, h1, d1 with
    | [.int j], h1, d1 =>
      obtain ⟨v, e, r⟩ := dvs1 d1
      simp only [DV] at r
      subst r
      have b := h1.1
      exact ⟨j, e, by omega, by omega, hR _ ρ1 H1 W1 _ h1.2 le1 R1 (walk_rngD 0 j.toNat (by unfold BIG; omega))⟩⟩⟩⟩
theorem id_range2 {a b : Expr} {τs : TDa} {p : Pos} (hg : Gl X "range") (hm : X.mg "range" = none) (ha : PAd X [a, b] τs) (hs : starEach [a, b] X.env = [(false, eval a X.env), (false, eval b X.env)] := by rfl) (hs2 : starEach [b] X.env = [(false, eval b X.env)] := by rfl) :
    PId X tg (.Call (.Name "range" p) [a, b] [] pos) (iRg2 τs) :=
  ⟨⟨_, pi_range2 hg hm ha.p hs hs2, fun σ H R W F ρ kx k tk Rp hτ hR => ⟨W, F, ρ, kx, _, tk, Rp, hτ, fun ds ρ1 vs H1 W1 h1 le1 R1 d1 => by
    match ds, h1, d1 with
    | [.int i, .int j], h1, d1 =>
      obtain ⟨v, v2, e, r, r2⟩ := dvs2 d1
      simp only [DV] at r r2
      subst r
      subst r2
      have b := h1.1
      exact ⟨i, j, e, by omega, hR _ ρ1 H1 W1 _ h1.2 le1 R1 (walk_rngD i (j - i).toNat (by unfold BIG; omega))⟩⟩⟩⟩

/-! ### for -/
variable {γ : TGd} {is : List Nat} {body : List Stmt} {tb : TDS}
def forD (γ : TGd) (tb : TDS) : List D → TDS
  | [] => fun ρ _ k => k.nx ρ
  | d :: ds => fun ρ kx k => γ d ρ fun ρ1 => tb ρ1 kx { nx := fun ρ' => forD γ tb ds ρ' kx k, ct := fun ρ' => forD γ tb ds ρ' kx k, bk := k.nx, rt := k.rt }
def sFor (τi : TDi) (γ : TGd) (tb : TDS) : TDS := fun ρ kx k => τi ρ kx fun ds ρ' => forD γ tb ds ρ' kx k
theorem sd_for (hp : PassesOwn (model X.prog X.w) X.A X.env X.xe) (hc : X.calm = true) (hi : PId X tg iter τi) (hg : PGd X tg is γ) (hb : PBd X body tb) (hs : ∀ x, foldedSetIterable iter X.env x = pure x := by intro _; rfl) :
    PSd X (.For tg iter body [] pos) (sFor τi γ tb) := by
  obtain ⟨wi, pi, hi⟩ := hi.p
  refine ⟨PS.imp (ps_for hp hc pi hg.p hb.p hs) fun D σ H ⟨W, F, ρ, kx, k, tk, R, h, L⟩ => ?_⟩
  refine hi σ H _ W F ρ kx _ tk R h fun items ρ1 H1 W1 J h1 le1 R1 wd => ?_
  obtain ⟨len, Gc, Y, wk, hG, hY⟩ := wd
  refine for_it wk (fun i σ' H' => ∃ W' ρ', W1.le W' ∧ Rep X.K X.mg W' F H' σ' ρ' ∧ forD γ tb (items.drop i) ρ' kx k) ⟨W1, ρ1, Wd.le.refl _, R1, by simpa using h1⟩ (fun i σ' H' _ ⟨W', ρ', le, R', _⟩ => hG H' (le.g.trans R'.w.g)) ?_ ?_
  · rintro i x σ' H' H'' hi' ⟨W', ρ', le', R', q⟩ y
    obtain ⟨d, W3, hd, le3, R3, d3⟩ := hY i H' H'' x W' F σ' ρ' hi' le' R' y
    have ed : items.drop i = d :: items.drop (i + 1) := by
      have hlt := (List.getElem?_eq_some_iff.mp hd)
      obtain ⟨hl, e⟩ := hlt
      rw [← List.getElem_cons_drop hl, e]
    rw [ed] at q
    have q : γ d ρ' fun ρ1 => tb ρ1 kx { nx := fun ρ' => forD γ tb (items.drop (i + 1)) ρ' kx k, ct := fun ρ' => forD γ tb (items.drop (i + 1)) ρ' kx k, bk := k.nx, rt := k.rt } := q
    refine ⟨W3, F, ρ', d, _, R3, d3, q, fun ρ4 σ4 H4 W4 h4 le4 R4 _ _ => ?_⟩
    have le14 : W1.le W4 := (le'.trans le3).trans le4
    refine ⟨W4, F, ρ4, kx, _, tk.mono (le1.trans le14), R4, h4, ⟨fun ρ5 σ5 H5 W5 h5 le5 R5 => ⟨W5, ρ5, le14.trans le5, R5, h5⟩, fun d5 ρ5 v5 σ5 H5 W5 h5 le5 R5 dv5 => L.rt d5 ρ5 v5 σ5 H5 W5 h5 ((le1.trans le14).trans le5) R5 dv5,
      fun ρ5 σ5 H5 W5 h5 le5 R5 => L.nx ρ5 σ5 H5 W5 h5 ((le1.trans le14).trans le5) R5, fun ρ5 σ5 H5 W5 h5 le5 R5 => ⟨W5, ρ5, le14.trans le5, R5, h5⟩⟩⟩
  · rintro σ' H' ⟨W', ρ', le', R', q⟩
    rw [List.drop_length] at q
    exact L.nx ρ' σ' H' W' q (le1.trans le') R'

/-! ### list comprehensions -/
def wipeR (ρ : Rho) : List Nat → Rho
  | [] => ρ
  | v :: vs => (wipeR ρ vs).set v .un
def nown (ρ : Rho) (vs : List Nat) : Bool := vs.all fun i => match ρ[i]? with | some s => !s.isOwn | none => true
theorem wipe_get (σ : L2.St) (j : Nat) : ∀ vs : List Nat, (wipe σ vs)[j]? = if j ∈ vs ∧ j < σ.length then some none else σ[j]?
  | [] => by simp [wipe]
  | v :: vs => by
    have ih := wipe_get σ j vs
    unfold wipe
    by_cases e : v = j
    · subst e
      by_cases hl : v < σ.length
      · rw [List.getElem?_set_self (by rw [wipe_length]; exact hl), if_pos ⟨List.mem_cons_self, hl⟩]
      · rw [if_neg fun z => hl z.2, List.getElem?_eq_none (by rw [List.length_set, wipe_length]; omega), List.getElem?_eq_none (by omega)]
    · rw [List.getElem?_set_ne e, ih]
      by_cases hm : j ∈ vs ∧ j < σ.length
      · rw [if_pos hm, if_pos ⟨List.mem_cons_of_mem _ hm.1, hm.2⟩]
      · rw [if_neg hm, if_neg]
        rintro ⟨h1, h2⟩
        rcases List.mem_cons.mp h1 with z | z
        · exact e z.symm
        · exact hm ⟨z, h2⟩
theorem wipeR_len (ρ : Rho) : ∀ vs : List Nat, (wipeR ρ vs).length = ρ.length
  | [] => rfl
  | v :: vs => by unfold wipeR; rw [List.length_set, wipeR_len ρ vs]
theorem wipeR_get (ρ : Rho) (j : Nat) : ∀ vs : List Nat, (wipeR ρ vs)[j]? = if j ∈ vs ∧ j < ρ.length then some .un else ρ[j]?
  | [] => by simp [wipeR]
  | v :: vs => by
    have ih := wipeR_get ρ j vs
    unfold wipeR
    by_cases e : v = j
    · subst e
      by_cases hl : v < ρ.length
      · rw [List.getElem?_set_self (by rw [wipeR_len]; exact hl), if_pos ⟨List.mem_cons_self, hl⟩]
      · rw [if_neg fun z => hl z.2, List.getElem?_eq_none (by rw [List.length_set, wipeR_len]; omega), List.getElem?_eq_none (by omega)]
    · rw [List.getElem?_set_ne e, ih]
      by_cases hm : j ∈ vs ∧ j < ρ.length
      · rw [if_pos hm, if_pos ⟨List.mem_cons_of_mem _ hm.1, hm.2⟩]
      · rw [if_neg hm, if_neg]
        rintro ⟨h1, h2⟩
        rcases List.mem_cons.mp h1 with z | z
        · exact e z.symm
        · exact hm ⟨z, h2⟩
section
variable {K : PySem.W.Frag} {mg : Str → Option Value} {W W' : Wd} {F H H' : Hp} {σ : L2.St} {ρ : Rho}
theorem Rep.wipe (R : Rep K mg W F H σ ρ) (vs : List Nat) : Rep K mg W F H (L2.wipe σ vs) (wipeR ρ vs) := by
  have sub : ∀ {i : Nat} {a : Addr}, OwnsAt (L2.wipe σ vs) (wipeR ρ vs) i a → OwnsAt σ ρ i a := fun {i a} ⟨s, h1, h2, h3⟩ => by
    rw [wipeR_get] at h1
    split at h1
    · cases h1; cases h2
    · rename_i q
      rw [wipe_get, ← R.len, if_neg q] at h3
      exact ⟨s, h1, h2, h3⟩
  refine ⟨R.w, by rw [wipeR_len, wipe_length]; exact R.len, fun i s h => ?_, fun i j a ne h1 h2 => R.sep i j a ne (sub h1) (sub h2)⟩
  rw [wipeR_get] at h
  split at h
  · cases h; exact .inl rfl
  · rename_i q
    rw [wipe_get, ← R.len, if_neg q]
    exact R.sl i s h
theorem Rep.unwipe (R0 : Rep K mg W F H σ ρ) (le : W.le W') {vs : List Nat} (R : Rep K mg W' F H' (L2.wipe σ vs) (wipeR ρ vs)) (n : nown ρ vs = true) : Rep K mg W' F H' σ ρ := by
  have nn : ∀ {i : Nat} {s : S}, i ∈ vs → ρ[i]? = some s → s.isOwn = false := fun {i s} hi hs => by
    have := List.all_eq_true.mp n i hi
    rw [hs] at this
    simpa using this
  have up : ∀ {i : Nat} {a : Addr}, OwnsAt σ ρ i a → OwnsAt (L2.wipe σ vs) (wipeR ρ vs) i a := fun {i a} ⟨s, h1, h2, h3⟩ => by
    have hi : ¬ (i ∈ vs ∧ i < ρ.length) := fun z => by rw [nn z.1 h1] at h2; cases h2
    exact ⟨s, by rw [wipeR_get, if_neg hi]; exact h1, h2, by rw [wipe_get, ← R0.len, if_neg hi]; exact h3⟩
  refine ⟨R.w, R0.len, fun i s h => ?_, fun i j a ne h1 h2 => R.sep i j a ne (up h1) (up h2)⟩
  by_cases hi : i ∈ vs ∧ i < ρ.length
  · rcases R0.sl i s h with e | ⟨v, e, r⟩
    · exact .inl e
    · refine .inr ⟨v, e, ?_⟩
      have o := nn hi.1 h
      exact r.mono le fun a _ z => by rw [o] at z; cases z
  · have := R.sl i s (by rw [wipeR_get, if_neg hi]; exact h)
    rw [wipe_get, ← R0.len, if_neg hi] at this
    exact this
end
abbrev nokx : KX := fun _ _ => False
def tYesD : TDt := fun ρ _ k => k true ρ
structure PTsd (X : Cx) (ifs : List Expr) (τ : TDt) : Prop where
  p : PTs X ifs (lT X τ)
theorem tsd_nil : PTsd X [] tYesD := ⟨⟨fun pins s σ H Q I ⟨W, F, ρ, kx, k, tk, R, h, hQ⟩ => pts_nil.run pins s σ H Q I (hQ true ρ H W h (Wd.le.refl W) R)⟩⟩
theorem tsd_one {c : Expr} {τc : TDt} (h : PTd X c τc) : PTsd X [c] τc := ⟨pts_one h.p⟩
def lcD (γ : TGd) (tt : TDt) (te : TD) (ρ0 : Rho) : List D → (List D → Prop) → Prop
  | [], k => k []
  | d :: ds, k => γ d ρ0 fun ρ1 => tt ρ1 nokx fun b ρ2 => ρ2 = ρ1 ∧ if b = true then te ρ1 nokx fun y ρ3 => ρ3 = ρ1 ∧ lcD γ tt te ρ0 ds fun ys => k (y :: ys) else lcD γ tt te ρ0 ds k
def vLc (τi : TDi) (γ : TGd) (tt : TDt) (te : TD) (vs : List Nat) : TDs := fun ρ kx k => τi ρ kx fun ds ρ' => nown ρ' vs = true ∧ lcD γ tt te (wipeR ρ' vs) ds fun ys => k (.own ys) ρ'
theorem takesNo {X : Cx} {W : Wd} {F : Hp} : TakesD X W F nokx := Takes.imp (W := fun _ _ _ _ => False) (fun u s' h => by
  obtain ⟨_, _, _, _, _, _, _, _, _, _, _, _, _, _, _, _, z⟩ := h
  exact z.elim) fun _ _ _ _ ⟨_, _, _, q, _⟩ => q
theorem Out.wipe {is vs : List Nat} {σ σ' : L2.St} (o : Out is (L2.wipe σ vs) σ') (h : ∀ i ∈ is, i ∈ vs) : L2.wipe σ' vs = L2.wipe σ vs := by
  refine List.ext_getElem? fun j => ?_
  rw [wipe_get, wipe_get]
  have hl : σ'.length = σ.length := by rw [o.1, wipe_length]
  rw [hl]
  split
  · rfl
  · rename_i q
    by_cases hj : j ∈ is
    · have := h j hj
      have : ¬ j < σ.length := fun z => q ⟨this, z⟩
      rw [List.getElem?_eq_none (by omega), List.getElem?_eq_none (by omega)]
    · rw [o.2 j hj, wipe_get, if_neg q]
theorem ROut.wipe {is vs : List Nat} {ρ ρ' : Rho} (o : ROut is (wipeR ρ vs) ρ') (h : ∀ i ∈ is, i ∈ vs) : wipeR ρ' vs = wipeR ρ vs := by
  refine List.ext_getElem? fun j => ?_
  rw [wipeR_get, wipeR_get]
  have hl : ρ'.length = ρ.length := by rw [o.1, wipeR_len]
  rw [hl]
  split
  · rfl
  · rename_i q
    by_cases hj : j ∈ is
    · have := h j hj
      have : ¬ j < ρ.length := fun z => q ⟨this, z⟩
      rw [List.getElem?_eq_none (by omega), List.getElem?_eq_none (by omega)]
    · rw [o.2 j hj, wipeR_get, if_neg q]
def lTn (K : PySem.W.Frag) (mg : Str → Option Value) (τ : TDt) : TT := fun σ H Q => ∃ (W : Wd) (F : Hp) (ρ : Rho) (k : Bool → Rho → Prop), Rep K mg W F H σ ρ ∧ τ ρ nokx k ∧ ∀ b ρ' H' W', k b ρ' → W.le W' → Rep K mg W' F H' σ ρ' → Q b H'
def lEn (K : PySem.W.Frag) (mg : Str → Option Value) (τ : TD) : TE := fun σ H Q => ∃ (W : Wd) (F : Hp) (ρ : Rho) (k : KE), Rep K mg W F H σ ρ ∧ τ ρ nokx k ∧ ∀ d ρ' v H' W', k d ρ' → W.le W' → Rep K mg W' F H' σ ρ' → DV K mg W' d v → Q v H'
theorem lTn.to {τ : TDt} : ∀ σ H Q, lTn X.K X.mg τ σ H Q → lT X τ σ H Q := fun σ H Q ⟨W, F, ρ, k, R, h, hQ⟩ => ⟨W, F, ρ, nokx, k, takesNo, R, h, hQ⟩
theorem lEn.to {τ : TD} : ∀ σ H Q, lEn X.K X.mg τ σ H Q → lE X τ σ H Q := fun σ H Q ⟨W, F, ρ, k, R, h, hQ⟩ => ⟨W, F, ρ, nokx, k, takesNo, R, h, hQ⟩
theorem lc_sound {tt : TDt} {te : TD} {vs : List Nat} (hsub : ∀ i ∈ is, i ∈ vs) {wi : TI}
    (hi : ∀ (σ : L2.St) (H : Hp) (R : It → Hp → Prop) (W : Wd) (F : Hp) (ρ : Rho) (kx : KX) (k : List D → Rho → Prop), TakesD X W F kx → Rep X.K X.mg W F H σ ρ → τi ρ kx k →
      (∀ items ρ' H1 W1 J, k items ρ' → W.le W1 → Rep X.K X.mg W1 F H1 σ ρ' → WalkD X W1 items J → R J H1) → wi σ H R) :
    ∀ σ H Q, lV X (vLc τi γ tt te vs) σ H Q → tLc wi (lG X is γ) (lTn X.K X.mg tt) (lEn X.K X.mg te) vs σ H Q := by
  rintro σ H Q ⟨W, F, ρ, kx, k, tk, R, h, hQ⟩
  refine hi σ H _ W F ρ kx _ tk R h fun items ρ1 H1 W1 J ⟨hn, h1⟩ le1 R1 wd => fun D hD => ?_
  obtain ⟨len, Gc, Y, wk, hG, hY⟩ := wd
  obtain ⟨Ra, sa, na⟩ := newLst (R1.wipe vs) (ds := []) (vs := []) (by unfold BIG; simp) dvs_nil hD
  have fa : free W1 F D := free.fresh R1.w hD
  refine lc_it wk (fun i H' => ∃ W' acc accV, W1.le W' ∧ Rep X.K X.mg W' F H' (L2.wipe σ vs) (wipeR ρ1 vs) ∧ H' D = some (.lst accV) ∧ DVs X.K X.mg W' acc accV ∧ acc.length ≤ i ∧ free W' F D ∧ (∀ i, ¬ OwnsAt (L2.wipe σ vs) (wipeR ρ1 vs) i D) ∧
    lcD γ tt te (wipeR ρ1 vs) (items.drop i) (fun ys => k (.own (acc ++ ys)) ρ1)) ⟨W1, [], [], Wd.le.refl _, Ra, upd_same, dvs_nil, Nat.le_refl _, fa, na, by simpa using h1⟩ (fun i H' _ ⟨W', acc, accV, le, R', _⟩ => hG H' (le.g.trans R'.w.g)) ?_ ?_
  · rintro i x H' H'' hi' ⟨W', acc, accV, le', R', hD', dacc, lacc, fD, nD, q⟩ y
    have sF : Same F (upd F D (.lst accV)) := same_upd fD.2.1
    have R1' : Rep X.K X.mg W' (upd F D (.lst accV)) H' (L2.wipe σ vs) (wipeR ρ1 vs) := by
      refine R'.go (Wd.le.refl _) ⟨R'.w.g, fun b x eb => ?_, fun b hb => ?_, fun p hp => ?_⟩ fun i b hb => ?_
      · by_cases z : b = D
        · subst z; rw [upd_same] at eb; cases eb; exact hD'
        · rw [upd_ne z] at eb; exact R'.w.f b x eb
      · by_cases z : b = D
        · subst z; exact fD.1
        · rw [upd_ne z] at hb; exact R'.w.gf b hb
      · obtain ⟨t, g1, g2, f1, f2⟩ := R'.w.t p hp
        obtain ⟨n1, n2⟩ := fD.2.2 p hp
        exact ⟨t, g1, g2, (upd_ne n1).trans f1, (upd_ne n2).trans f2⟩
      · obtain ⟨t, _, _, _, _, f2⟩ := R'.owned hb
        have ne : b ≠ D := fun z => nD i (z ▸ hb)
        exact ⟨rfl, f2.1, (upd_ne ne).trans f2.2.1, f2.2.2⟩
    obtain ⟨d, W3, hd, le3, R3, d3⟩ := hY i H' H'' x W' _ _ _ hi' le' R1' y
    have ed : items.drop i = d :: items.drop (i + 1) := by
      obtain ⟨hl, e⟩ := (List.getElem?_eq_some_iff.mp hd)
      rw [← List.getElem_cons_drop hl, e]
    rw [ed] at q
    unfold lcD at q
    -- a turn's end, nothing added to the slots
    have fin : ∀ {H6 : Hp} {W6 : Wd} {σ4 : L2.St} {ρ4 : Rho}, W'.le W6 → Rep X.K X.mg W6 (upd F D (.lst accV)) H6 σ4 ρ4 → Out is (L2.wipe σ vs) σ4 → ROut is (wipeR ρ1 vs) ρ4 →
        Rep X.K X.mg W6 F H6 (L2.wipe σ vs) (wipeR ρ1 vs) ∧ H6 D = some (.lst accV) ∧ free W6 F D ∧ (∀ i, ¬ OwnsAt (L2.wipe σ vs) (wipeR ρ1 vs) i D) := by
      intro H6 W6 σ4 ρ4 le6 R6 o4 p4
      have R7 := R6.wipe vs
      rw [o4.wipe hsub, p4.wipe hsub] at R7
      refine ⟨R7.weakF sF, R6.w.f D _ upd_same, ⟨R6.w.gf D (by rw [upd_same]; intro z; cases z), fD.2.1, fun p hp => ?_⟩, nD⟩
      obtain ⟨_, _, _, f1, f2⟩ := R6.w.t p hp
      exact ⟨(fun z => by rw [z, upd_same] at f1; cases f1), (fun z => by rw [z, upd_same] at f2; cases f2)⟩
    refine ⟨W3, _, _, d, _, R3, d3, q, fun ρ4 σ4 H4 W4 h4 le4 R4 o4 p4 => ⟨o4.wipe hsub, ?_⟩⟩
    refine ⟨W4, _, ρ4, _, R4, h4, fun b ρ5 H5 W5 ⟨e5, h5⟩ le5 R5 => ?_⟩
    subst e5
    cases b with
    | false =>
      obtain ⟨a1, a2, a3, a4⟩ := fin ((le3.trans le4).trans le5) R5 o4 p4
      exact ⟨W5, acc, accV, ((le'.trans le3).trans le4).trans le5, a1, a2, DVs.mono ((le3.trans le4).trans le5) _ _ dacc, Nat.le_succ_of_le lacc, a3, a4, h5⟩
    | true =>
      refine ⟨W5, _, ρ5, _, R5, h5, fun y ρ6 v6 H6 W6 ⟨e6, h6⟩ le6 R6 d6 => ?_⟩
      subst e6
      have leW : W'.le W6 := ((le3.trans le4).trans le5).trans le6
      obtain ⟨a1, a2, a3, a4⟩ := fin leW R6 o4 p4
      have dacc6 := DVs.mono leW _ _ dacc
      refine ⟨accV, a2, by rw [← dvs_len dacc6]; omega, W6, acc ++ [y], accV ++ [v6], le'.trans leW, ?_, upd_same, dvs_app dacc6 (dvs_cons d6 dvs_nil), by rw [List.length_append]; simp; omega, a3, a4, by simpa only [List.append_assoc, List.singleton_append] using h6⟩
      refine a1.go (Wd.le.refl _) ⟨fun b u e => ?_, fun b u e => ?_, a1.w.gf, fun p hp => ?_⟩ fun i b hb => ?_
      · have ne : b ≠ D := fun z => by rw [z, a3.1] at e; cases e
        rw [upd_ne ne]; exact a1.w.g b u e
      · have ne : b ≠ D := fun z => by rw [z, a3.2.1] at e; cases e
        rw [upd_ne ne]; exact a1.w.f b u e
      · obtain ⟨t, g1, g2, f1, f2⟩ := a1.w.t p hp
        obtain ⟨n1, n2⟩ := a3.2.2 p hp
        exact ⟨t.keep (upd_ne n1) (upd_ne n2), g1, g2, f1, f2⟩
      · obtain ⟨t, _, _, _, _, f2⟩ := a1.owned hb
        exact ⟨upd_ne fun z => a4 i (z ▸ hb), f2⟩
  · rintro H' ⟨W', acc, accV, le', R', hD', dacc, lacc, fD, nD, q⟩
    rw [List.drop_length] at q
    unfold lcD at q
    rw [List.append_nil] at q
    have R2 := R1.unwipe le' R' hn
    refine hQ (.own acc) ρ1 _ H' W' q (le1.trans le') R2 ⟨D, rfl, ⟨accV, hD', by rw [← dvs_len dacc]; exact Nat.le_trans lacc len, dacc⟩, fD⟩ (fun a i _ ea hb => ?_) (by intro z; cases z)
    cases ea
    obtain ⟨s, h1, h2, h3⟩ := hb
    have hv : ¬ (i ∈ vs ∧ i < ρ1.length) := fun z => by
      have := List.all_eq_true.mp hn i z.1
      rw [h1] at this
      simp [h2] at this
    exact nD i ⟨s, by rw [wipeR_get, if_neg hv]; exact h1, h2, by rw [wipe_get, ← R1.len, if_neg hv]; exact h3⟩
theorem vd_lc {elt : Expr} {ifs : List Expr} {scope : Scope} {own : List (Str × Nat)} {tt : TDt} {te : TD} (hc : X.calm = true) (hN : X.N.Nodup) (hi : PId X tg iter τi) (ok : BlkOk X.N X.env.scope scope own) (hsub : ∀ i ∈ is, i ∈ own.map (·.2))
    (hg : ∀ (s : Shared) (H : Hp) (C : Addr) (cl : List (Str × Addr)) (fp : List Addr), PGd (X.blk s H scope (compEnvC scope cl C X.env) fp) tg is γ) (ht : ∀ (s : Shared) (H : Hp) (C : Addr) (cl : List (Str × Addr)) (fp : List Addr), PTsd (X.blk s H scope (compEnvC scope cl C X.env) fp) ifs tt)
    (he : ∀ (s : Shared) (H : Hp) (C : Addr) (cl : List (Str × Addr)) (fp : List Addr), PEd (X.blk s H scope (compEnvC scope cl C X.env) fp) elt te) (hs : ∀ x, foldedSetIterable iter X.env x = pure x := by intro _; rfl) :
    PEv X (.ListComp elt [⟨tg, iter, ifs, 0⟩] scope pos) (vLc τi γ tt te (own.map (·.2))) := by
  obtain ⟨wi, pi, hi⟩ := hi.p
  refine ⟨PE.imp (pe_lc (g := lG X is γ) (tt := lTn X.K X.mg tt) (te := lEn X.K X.mg te) hc hN pi ok (fun s H C cl fp => (hg s H C cl fp).p) (fun s H C cl fp => ?_) (fun s H C cl fp => ?_) hs) (lc_sound hsub hi)⟩
  · exact ⟨fun pins s' σ H' Q I q => (ht s H C cl fp).p.run pins s' σ H' Q I (lTn.to (X := X.blk s H scope (compEnvC scope cl C X.env) fp) σ H' Q q)⟩
  · exact ⟨fun pins s' σ H' Q I q => (he s H C cl fp).p.run pins s' σ H' Q I (lEn.to (X := X.blk s H scope (compEnvC scope cl C X.env) fp) σ H' Q q)⟩
theorem sd_lc {i : Nat} {y : Str} {py : Pos} {elt : Expr} {ifs : List Expr} {scope : Scope} {own : List (Str × Nat)} {spos : Pos} {tt : TDt} {te : TD} (hc : X.calm = true) (hN : X.N.Nodup) (hy : X.N[i]? = some y) (hyl : X.env.scope.names.lookup y = some .local)
    (hsw : swapsWith (.ListComp elt [⟨tg, iter, ifs, 0⟩] scope pos) (some (.Name y py)) spos.line X.env = pure true) (hi : PId X tg iter τi) (ok : BlkOk X.N X.env.scope scope own) (hsub : ∀ i ∈ is, i ∈ own.map (·.2))
    (hg : ∀ (s : Shared) (H : Hp) (C : Addr) (cl : List (Str × Addr)) (fp : List Addr), PGd (X.blk s H scope (compEnvC scope cl C X.env) fp) tg is γ) (ht : ∀ (s : Shared) (H : Hp) (C : Addr) (cl : List (Str × Addr)) (fp : List Addr), PTsd (X.blk s H scope (compEnvC scope cl C X.env) fp) ifs tt)
    (he : ∀ (s : Shared) (H : Hp) (C : Addr) (cl : List (Str × Addr)) (fp : List Addr), PEd (X.blk s H scope (compEnvC scope cl C X.env) fp) elt te) (hs : ∀ x, foldedSetIterable iter X.env x = pure x := by intro _; rfl) :
    PSd X (.Assign [.Name y py] (.ListComp elt [⟨tg, iter, ifs, 0⟩] scope pos) spos) (sAsg i (vLc τi γ tt te (own.map (·.2)))) := by
  obtain ⟨wi, pi, hi⟩ := hi.p
  refine ⟨PS.imp (ps_setLc (g := lG X is γ) (tt := lTn X.K X.mg tt) (te := lEn X.K X.mg te) hc hN hy hyl hsw pi ok (fun s H C cl fp => (hg s H C cl fp).p) (fun s H C cl fp => ?_) (fun s H C cl fp => ?_) hs) fun D σ H ⟨W, F, ρ, kx, k, tk, R, h, L⟩ => ?_⟩
  · exact ⟨fun pins s' σ H' Q I q => (ht s H C cl fp).p.run pins s' σ H' Q I (lTn.to (X := X.blk s H scope (compEnvC scope cl C X.env) fp) σ H' Q q)⟩
  · exact ⟨fun pins s' σ H' Q I q => (he s H C cl fp).p.run pins s' σ H' Q I (lEn.to (X := X.blk s H scope (compEnvC scope cl C X.env) fp) σ H' Q q)⟩
  · exact lc_sound hsub hi σ H _ ⟨W, F, ρ, kx, _, tk, R, h, fun s ρ1 v1 H1 W1 h1 le1 R1 s1 no hu => L.nx _ _ H1 W1 h1 le1 (R1.set s1 fun a j o ev _ => no a j o ev)⟩
end
end DL

set_option maxHeartbeats 4000000
/-! DL6: defs, calls, instances. -/
namespace DL
open PySem PySem.Spec PyProof.Rows L2

/-! ### a callee's world -/
open Classical in
noncomputable def FO (σ : L2.St) (ρ : Rho) (H F : Hp) : Hp := fun a => if ∃ i, OwnsAt σ ρ i a then H a else F a
section
variable {K : PySem.W.Frag} {mg : Str → Option Value} {W W' : Wd} {F H H' : Hp} {σ : L2.St} {ρ : Rho}
theorem FO.own {i : Nat} {a : Addr} (h : OwnsAt σ ρ i a) : FO σ ρ H F a = H a := by unfold FO; rw [if_pos ⟨i, h⟩]
theorem FO.not {a : Addr} (h : ∀ i, ¬ OwnsAt σ ρ i a) : FO σ ρ H F a = F a := by unfold FO; rw [if_neg (fun ⟨i, z⟩ => h i z)]
theorem Rep.enter (R : Rep K mg W F H σ ρ) : WOk W (FO σ ρ H F) H := by
  refine ⟨R.w.g, fun a o e => ?_, fun a h => ?_, fun p hp => ?_⟩
  · by_cases q : ∃ i, OwnsAt σ ρ i a
    · obtain ⟨i, q⟩ := q
      rw [FO.own q] at e; exact e
    · rw [FO.not (fun i z => q ⟨i, z⟩)] at e; exact R.w.f a o e
  · by_cases q : ∃ i, OwnsAt σ ρ i a
    · obtain ⟨i, q⟩ := q
      obtain ⟨_, _, _, _, _, f⟩ := R.owned q
      exact f.1
    · rw [FO.not (fun i z => q ⟨i, z⟩)] at h; exact R.w.gf a h
  · obtain ⟨t, g1, g2, f1, f2⟩ := R.w.t p hp
    have no : ∀ a, (a = p.1 ∨ a = p.2) → ∀ i, ¬ OwnsAt σ ρ i a := fun a ha i z => by
      obtain ⟨_, _, _, _, _, f⟩ := R.owned z
      obtain ⟨n1, n2⟩ := f.2.2 p hp
      rcases ha with e | e
      · exact n1 e.symm
      · exact n2 e.symm
    exact ⟨t, g1, g2, (FO.not (no _ (.inl rfl))).trans f1, (FO.not (no _ (.inr rfl))).trans f2⟩
theorem Rep.back (R : Rep K mg W F H σ ρ) (le : W.le W') (w : WOk W' (FO σ ρ H F) H') : Rep K mg W' F H' σ ρ := by
  have ownF : ∀ {i : Nat} {a : Addr}, OwnsAt σ ρ i a → F a = none := fun z => by
    obtain ⟨_, _, _, _, _, f⟩ := R.owned z
    exact f.2.1
  have nF : ∀ {a : Addr} {o : HO}, F a = some o → ∀ i, ¬ OwnsAt σ ρ i a := fun e i z => by rw [ownF z] at e; cases e
  refine R.go le ⟨w.g, fun a o e => w.f a o ((FO.not (nF e)).trans e), fun a h => ?_, fun p hp => ?_⟩ fun i a h => ?_
  · obtain ⟨o, e⟩ : ∃ o, F a = some o := by
      cases q : F a with
      | none => exact (h q).elim
      | some o => exact ⟨o, rfl⟩
    exact w.gf a (by rw [FO.not (nF e), e]; intro z; cases z)
  · obtain ⟨t, g1, g2, f1, f2⟩ := w.t p hp
    have no : ∀ {a : Addr}, FO σ ρ H F a = none → F a = none := fun {a} h => by
      cases q : F a with
      | none => rfl
      | some o => rw [FO.not (nF q), q] at h; cases h
    exact ⟨t, g1, g2, no f1, no f2⟩
  · obtain ⟨s, _, _, _, hh, f⟩ := R.owned h
    obtain ⟨o, e⟩ := hh.there
    have eo : FO σ ρ H F a = some o := (FO.own h).trans e
    refine ⟨(w.f a o eo).trans e.symm, w.gf a (by rw [eo]; intro z; cases z), f.2.1, fun p hp => ?_⟩
    obtain ⟨_, _, _, f1, f2⟩ := w.t p hp
    exact ⟨(fun z => by rw [z, eo] at f1; cases f1), (fun z => by rw [z, eo] at f2; cases f2)⟩
end

/-! ### defs -/
abbrev FD := List D → (XD → Prop) → (D → Prop) → Prop
def SpD (K : PySem.W.Frag) (mg : Str → Option Value) (n : Nat) (m : FD) : Sp := fun vs H Q E => vs.length = n ∧ ∃ (W : Wd) (F : Hp) (ds : List D) (kx : XD → Prop) (k : D → Prop), WOk W F H ∧ DVs K mg W ds vs ∧ m ds kx k ∧
  (∀ d v H' W', k d → W.le W' → WOk W' F H' → DV K mg W' d v → Q v H') ∧ (∀ x cls dx H' W', kx x → W.le W' → WOk W' F H' → XV K mg W' x cls dx → E cls dx H')
def startR (n : Nat) (ds : List D) : Rho := ds.map S.val ++ List.replicate (n - ds.length) .un
theorem start_rep {K : PySem.W.Frag} {mg : Str → Option Value} {W : Wd} {F H : Hp} {N : List Str} {ds : List D} {vs : List V} (w : WOk W F H) (d : DVs K mg W ds vs) : Rep K mg W F H (L2.start N vs) (startR N.length ds) := by
  have hl := dvs_len d
  have nown : ∀ (i : Nat) (s : S), (startR N.length ds)[i]? = some s → s = .un ∨ ∃ d', s = .val d' ∧ ds[i]? = some d' := fun i s h => by
    unfold startR at h
    by_cases hi : i < ds.length
    · rw [List.getElem?_append_left (by simpa using hi), List.getElem?_map] at h
      obtain ⟨d', e, q⟩ := Option.map_eq_some_iff.mp h
      exact .inr ⟨d', q.symm, e⟩
    · rw [List.getElem?_append_right (by simpa using Nat.le_of_not_lt hi)] at h
      exact .inl (List.eq_of_mem_replicate (List.mem_of_getElem? h))
  refine ⟨w, by unfold startR L2.start; simp [hl], fun i s h => ?_, fun i j a _ ⟨s, h1, h2, _⟩ => ?_⟩
  · rcases nown i s h with e | ⟨d', e, q⟩
    · exact .inl e
    · subst e
      obtain ⟨v, hv, dv⟩ := dvs_get d q
      refine .inr ⟨v, ?_, dv⟩
      unfold L2.start
      have hi := (List.getElem?_eq_some_iff.mp hv).1
      rw [List.getElem?_append_left (by simpa using hi), List.getElem?_map, hv]
      rfl
  · rcases nown i s h1 with e | ⟨d', e, q⟩ <;> (subst e; cases h2)
def fnm (n : Nat) (τ : TDS) : FD := fun ds kx k => τ (startR n ds) (fun x _ => kx x) { nx := fun _ => k .non, rt := fun d _ => k d }
section
variable {P : Program} {w : World} {K : PySem.W.Frag} {mg : Str → Option Value} {base : Heap}
theorem fn_d {x qual : Str} {params : Arguments} {body : List Stmt} {scope : Scope} {dvs : List V} {kws : List (Str × V)} {f : Addr} {fd : FuncData} {N ps : List Str} {k : Nat} {τ : TDS} (F : FunD K x qual params body scope dvs kws f fd) (S : FnScope N ps scope)
    (hb : ∀ (cdv : Value) (A : Around) (outer : List PySem.Env) (s : Shared) (H : Hp) (E : XK), Room k (A.deeper (envOfC qual scope s.heap.objs.size f cdv)) → PBd (cxOf (L2.CX P w) P w K mg base N qual scope f cdv A outer s H E) body τ) :
    FnOk P w K mg base (L2.CX P w) (k + 1) f fd ps (SpD K mg ps.length (fnm N.length τ)) := by
  refine F.ok S (fun vs H Q E h => h.1) fun cdv A outer s H vs Q E hr h => ?_
  obtain ⟨hl, W, F', ds, kx, kk, wok, dv, hm, hQ, hE⟩ := h
  refine ⟨_, (hb cdv A outer s H E hr).p, W, F', startR N.length ds, _, _, ?_, start_rep wok dv, hm, ⟨fun ρ' σ' H' W' hk le R => ?_, fun d ρ' v σ' H' W' hk le R dv => hQ d v H' W' hk le R.w dv, fun _ _ _ _ z => z.elim, fun _ _ _ _ z => z.elim⟩⟩
  · exact Takes.imp (takes_of (X := cxOf (L2.CX P w) P w K mg base N qual scope f cdv A outer s H E) rfl rfl rfl rfl) fun cls dx σ H' ⟨xd, ρ, W', hk, le, R, xv⟩ => hE xd cls dx H' W' hk le R.w xv
  · exact hQ .non .non H' W' hk le R.w (by simp only [DV])
end

/-! ### arguments put in order -/
def pickD (idx : List Nat) (l : List D) : List D := idx.map fun i => l.getD i .non
def pickV (idx : List Nat) (l : List V) : List V := idx.map fun i => l.getD i .non
def pickU (idx : List Nat) (l : List Value) : List Value := idx.map fun i => l.getD i .none
theorem pick_rel {l : List V} {u : List Value} (h : Vals l u) : ∀ idx : List Nat, Vals (pickV idx l) (pickU idx u)
  | [] => .nil
  | i :: idx => by
    refine .cons (show RelV (l.getD i .non) (u.getD i .none) from ?_) (pick_rel h idx)
    cases q : l[i]? with
    | none =>
      have q2 := h.none_of q
      rw [List.getD_eq_getElem?_getD, List.getD_eq_getElem?_getD, q, q2]
      exact rfl
    | some x =>
      obtain ⟨y, q2, r⟩ := h.get q
      rw [List.getD_eq_getElem?_getD, List.getD_eq_getElem?_getD, q, q2]
      exact r
theorem pick_dv {K : PySem.W.Frag} {mg : Str → Option Value} {W : Wd} {ds : List D} {l : List V} (h : DVs K mg W ds l) : ∀ idx : List Nat, DVs K mg W (pickD idx ds) (pickV idx l)
  | [] => dvs_nil
  | i :: idx => by
    refine dvs_cons (show DV K mg W (ds.getD i .non) (l.getD i .non) from ?_) (pick_dv h idx)
    cases q : ds[i]? with
    | none =>
      have q2 : l[i]? = none := by
        have := dvs_len h
        rw [List.getElem?_eq_none_iff] at q ⊢
        omega
      rw [List.getD_eq_getElem?_getD, List.getD_eq_getElem?_getD, q, q2]
      simp only [Option.getD_none, DV]
    | some x =>
      obtain ⟨y, q2, r⟩ := dvs_get h q
      rw [List.getD_eq_getElem?_getD, List.getD_eq_getElem?_getD, q, q2]
      exact r
structure BindD (K : PySem.W.Frag) (fd : FuncData) (ps : List Str) (n : Nat) (ks : List Str) (idx : List Nat) (dvs : List V) : Prop where
  b : ∃ its : List Value, Vals dvs its ∧ ∀ (s : Shared) (us ws : List Value), K.In s.heap → us.length = n → ws.length = ks.length → BindsTo s fd ⟨us, ks.zip ws⟩ (ps.zip (pickU idx (us ++ its ++ ws)))
  len : idx.length = ps.length
section
variable {K : PySem.W.Frag} {x qual : Str} {params : Arguments} {body : List Stmt} {scope : Scope} {dvs : List V} {kws : List (Str × V)} {f : Addr} {fd : FuncData} {ps : List Str}
theorem bind_all (F : FunD K x qual params body scope [] kws f fd) (n : Nat) (ks : List Str) (idx : List Nat) (hl : idx.length = ps.length)
    (h : ∀ (kV doc pm : Value) (an : Option Addr) (cdv ct : Value) (us ws : List Value), us.length = n → ws.length = ks.length →
      bindArgs (PySem.W.fnOf x qual params body scope .none kV doc pm an cdv ct) ⟨us, ks.zip ws⟩ = pure (ps.zip (pickU idx (us ++ ws)))) : BindD K fd ps n ks idx [] := by
  obtain ⟨oc, od, dV, kV, doc, pm, an, cdv, ct, osl, rfl, lk, hcd, hD, _⟩ := F.ex
  rcases hD with ⟨_, rfl⟩ | ⟨z, _⟩
  · exact ⟨⟨[], .nil, fun s us ws X l1 l2 => .of_eq (by rw [List.append_nil]; exact h kV doc pm an cdv ct us ws l1 l2)⟩, hl⟩
  · exact absurd rfl z
theorem bind_def (F : FunD K x qual params body scope dvs kws f fd) (hd : dvs ≠ []) (n : Nat) (ks : List Str) (idx : List Nat) (hl : idx.length = ps.length)
    (h : ∀ (T : Addr) (kV doc pm : Value) (an : Option Addr) (cdv ct : Value) (us its ws : List Value), us.length = n → its.length = dvs.length → ws.length = ks.length →
      ∃ k, bindArgs (PySem.W.fnOf x qual params body scope (.ref T) kV doc pm an cdv ct) ⟨us, ks.zip ws⟩ = seqItems? (.ref T) >>= k ∧ k (some its.toArray) = pure (ps.zip (pickU idx (us ++ its ++ ws)))) : BindD K fd ps n ks idx dvs := by
  obtain ⟨oc, od, dV, kV, doc, pm, an, cdv, ct, osl, rfl, lk, hcd, hD, hK⟩ := F.ex
  rcases hD with ⟨e, _⟩ | ⟨_, T, o, its, m, rfl, lT, oT, rT⟩
  · exact absurd e hd
  · refine ⟨⟨its, rT, fun s us ws X l1 l2 => ?_⟩, hl⟩
    obtain ⟨k, e1, e2⟩ := h T kV doc pm an cdv ct us its ws l1 rT.length.symm l2
    refine BindsTo.of_looks fun M => ?_
    rw [e1]
    exact looks_items X lT oT (.of_pure e2)
end

/-! ### calls of defs -/
section
variable {X : Cx} {k : Nat} {f C : Addr} {fd : FuncData} {ps : List Str} {x : Str} {p pos : Pos} {e : Expr} {es : List Expr} {kws : List Keyword} {τs τk : TDa} {m : FD}
theorem WOk.ofRep {K : PySem.W.Frag} {mg : Str → Option Value} {W : Wd} {F H : Hp} {σ : L2.St} {ρ : Rho} (R : Rep K mg W F H σ ρ) : WOk W F H := R.w
theorem run_d {pins : List (Addr × Obj)} {σ : L2.St} {ρ : Rho} {H : Hp} {s : Shared} {Q : VK} {us : List Value} {vs : List V} {ds : List D} {args : Args} {W : Wd} {F : Hp} {kx : KX} {kk : KE} (G : FnOk X.prog X.w X.K X.mg X.base (L2.CX X.prog X.w) k f fd ps (SpD X.K X.mg ps.length m)) (hr : Room k X.A)
    (I : Inv X pins σ H s) (hb : BindsTo s fd args (ps.zip us)) (r : Vals vs us) (hl : vs.length = ps.length) (tk : TakesD X W F kx) (R : Rep X.K X.mg W F H σ ρ) (dv : DVs X.K X.mg W ds vs) (hm : m ds (fun x => kx x ρ) (fun d => kk d ρ))
    (hQ : ∀ d v H' W', kk d ρ → W.le W' → Rep X.K X.mg W' F H' σ ρ → DV X.K X.mg W' d v → Q v H') : wpAny (model X.prog X.w) X.A (call (.ref f) args.pos args.kw) (EP X pins σ Q) X.xe s := by
  have hsp : SpD X.K X.mg ps.length m vs H Q (fun cls dx H' => ∃ xd ρ W', kx xd ρ ∧ W.le W' ∧ Rep X.K X.mg W' F H' σ ρ ∧ XV X.K X.mg W' xd cls dx) :=
    ⟨hl, W, FO σ ρ H F, ds, _, _, R.enter, dv, hm, fun d v H' W' hk le w dv => hQ d v H' W' hk le (R.back le w) dv, fun xd cls dx H' W' hk le w xv => ⟨xd, ρ, W', hk, le, R.back le w, xv⟩⟩
  refine wpAny_call (codeAny_mono (G.run X.A X.stack s H ⟨args.pos, args.kw⟩ us vs Q _ hr I.env0 hb r hsp) fun r s' hq => ?_)
  cases r with
  | error e => exact passAt tk σ pins H s e s' I hq
  | ok fl =>
    cases fl with
    | ret u => exact I.after hq
    | next => exact False.elim hq
    | brk => exact False.elim hq
    | cont => exact False.elim hq
def dCall (m : FD) (idx : List Nat) (dds : List D) (τs τk : TDa) : TD := fun ρ kx k => τs ρ kx fun ds ρ1 => τk ρ1 kx fun ks ρ2 => m (pickD idx (ds ++ dds ++ ks)) (fun x => kx x ρ2) fun d => k d ρ2
theorem pickV_len (idx : List Nat) (l : List V) : (pickV idx l).length = idx.length := by simp [pickV]
theorem PAd.len0 {σ : L2.St} : True := trivial
variable {n nk : Nat} {ks : List Str} {idx : List Nat} {dvs : List V} {dds : List D}
def cnt (n : Nat) (τ : TDa) : TDa := fun ρ kx k => τ ρ kx fun ds ρ' => ds.length = n ∧ k ds ρ'
theorem pd_call (G : FnOk X.prog X.w X.K X.mg X.base (L2.CX X.prog X.w) k f fd ps (SpD X.K X.mg ps.length m)) (hr : Room k X.A) (hg : Gl X x) (hm : X.mg x = some (.ref f)) (hk : PySem.W.keepIn X.K (.ref f) = true) (hb : BindD X.K fd ps n [] idx dvs) (hd : ∀ W, DVs X.K X.mg W dds dvs)
    (ha : PAd X (e :: es) τs) (hdb : (x == ("__debug__" : Str)) = false := by decide) (he : starEach (e :: es) X.env = (false, eval e X.env) :: starEach es X.env := by rfl) (hpl : (backTo pos (starEach es X.env)).any (·.1) = false := by rfl) :
    PEd X (.Call (.Name x p) (e :: es) [] pos) (dCall m idx dds (cnt n τs) dNil) := by
  refine ⟨⟨fun pins s σ H Q I ⟨W, F, ρ, kx, kk, tk, R, h, hQ⟩ => ?_⟩⟩
  refine wpAny_Call_Name_kw (ld_glob I hg hm ?_ hdb)
  refine PySem.W.callWith_K (h₀ := X.base) I.ok.mod.kin hk (thn (ha.p.run pos pins s σ H _ I ⟨W, F, ρ, kx, _, tk, R, h, fun ds ρ1 vs H1 W1 h1 le1 R1 d1 =>
    (⟨ds, ρ1, W1, h1, le1, R1, d1⟩ : ∃ ds ρ1 W1, (ds.length = n ∧ m (pickD idx (ds ++ dds ++ [])) (fun x => kx x ρ1) fun d => kk d ρ1) ∧ W.le W1 ∧ Rep X.K X.mg W1 F H1 σ ρ1 ∧ DVs X.K X.mg W1 ds vs)⟩) fun us s1 ⟨vs, H1, I1, r, ds, ρ1, W1, ⟨hn, h1⟩, le1, R1, d1⟩ => ⟨I1.kIn, ?_⟩) he hpl
  obtain ⟨its, ri, hbt⟩ := hb.b
  have l1 : us.length = n := by rw [← r.length, ← dvs_len d1, hn]
  refine run_d (args := ⟨us, []⟩) (us := pickU idx (us ++ its ++ [])) (vs := pickV idx (vs ++ dvs ++ [])) G hr I1 (hbt s1 us [] I1.kIn l1 rfl) (pick_rel ((r.append ri).append .nil) idx) (by rw [pickV_len]; exact hb.len) (tk.mono le1) R1
    (pick_dv (dvs_app (dvs_app d1 (hd W1)) dvs_nil) idx) h1 fun d v H' W' hk le R' dv => hQ d ρ1 v H' W' hk (le1.trans le) R' dv
theorem pd_call0 (G : FnOk X.prog X.w X.K X.mg X.base (L2.CX X.prog X.w) k f fd ps (SpD X.K X.mg ps.length m)) (hr : Room k X.A) (hg : Gl X x) (hm : X.mg x = some (.ref f)) (hk : PySem.W.keepIn X.K (.ref f) = true) (hb : BindD X.K fd ps 0 [] idx dvs) (hd : ∀ W, DVs X.K X.mg W dds dvs)
    (hdb : (x == ("__debug__" : Str)) = false := by decide) : PEd X (.Call (.Name x p) [] [] pos) (dCall m idx dds dNil dNil) := by
  refine ⟨⟨fun pins s σ H Q I ⟨W, F, ρ, kx, kk, tk, R, h, hQ⟩ => ?_⟩⟩
  refine wpAny_Call_Name_kw (ld_glob I hg hm ?_ hdb)
  obtain ⟨its, ri, hbt⟩ := hb.b
  exact PySem.W.callWith_K0 I.kIn hk (run_d (args := ⟨[], []⟩) (us := pickU idx ([] ++ its ++ [])) (vs := pickV idx ([] ++ dvs ++ [])) G hr I (hbt s [] [] I.kIn rfl rfl) (pick_rel ((Vals.append (.nil : Vals [] []) ri).append .nil) idx) (by rw [pickV_len]; exact hb.len) tk R
    (pick_dv (dvs_app (dvs_app dvs_nil (hd W)) dvs_nil) idx) h fun d v H' W' hk le R' dv => hQ d ρ v H' W' hk le R' dv)
theorem pd_callK (G : FnOk X.prog X.w X.K X.mg X.base (L2.CX X.prog X.w) k f fd ps (SpD X.K X.mg ps.length m)) (hr : Room k X.A) (hg : Gl X x) (hm : X.mg x = some (.ref f)) (hk : PySem.W.keepIn X.K (.ref f) = true) (hb : BindD X.K fd ps n ks idx dvs) (hd : ∀ W, DVs X.K X.mg W dds dvs)
    (ha : PAd X (e :: es) τs) (hkw : PKd X kws τk) (hall : (backToKw pos (keywordEach kws X.env)).all (·.1.isSome) = true := by rfl) (hks : (backToKw pos (keywordEach kws X.env)).filterMap (·.1) = ks := by rfl) (hnk : ks.length = nk := by rfl)
    (hdb : (x == ("__debug__" : Str)) = false := by decide) (he : starEach (e :: es) X.env = (false, eval e X.env) :: starEach es X.env := by rfl)
    (hpl : ((backTo pos (starEach (e :: es) X.env)).any (·.1) || (backToKw pos (keywordEach kws X.env)).any (·.1.isNone)) = false := by rfl) :
    PEd X (.Call (.Name x p) (e :: es) kws pos) (dCall m idx dds (cnt n τs) (cnt nk τk)) := by
  refine ⟨⟨fun pins s σ H Q I ⟨W, F, ρ, kx, kk, tk, R, h, hQ⟩ => ?_⟩⟩
  refine wpAny_Call_Name_kw (ld_glob I hg hm ?_ hdb)
  refine PySem.W.callWith_KW (h₀ := X.base) I.ok.mod.kin hk hall (thn (ha.p.run pos pins s σ H _ I ⟨W, F, ρ, kx, _, tk, R, h, fun ds ρ1 vs H1 W1 h1 le1 R1 d1 =>
    (⟨ds, ρ1, W1, h1, le1, R1, d1⟩ : ∃ ds ρ1 W1, (ds.length = n ∧ cnt nk τk ρ1 kx fun ks' ρ2 => m (pickD idx (ds ++ dds ++ ks')) (fun x => kx x ρ2) fun d => kk d ρ2) ∧ W.le W1 ∧ Rep X.K X.mg W1 F H1 σ ρ1 ∧ DVs X.K X.mg W1 ds vs)⟩) fun us s1 ⟨vs, H1, I1, r, ds, ρ1, W1, ⟨hn, h1⟩, le1, R1, d1⟩ => ?_) hpl he
  refine thn (hkw.p.run pos pins s1 σ H1 _ I1 ⟨W1, F, ρ1, kx, _, tk.mono le1, R1, h1, fun ds2 ρ2 vs2 H2 W2 h2 le2 R2 d2 =>
    (⟨ds2, ρ2, W2, h2, le2, R2, d2⟩ : ∃ ds2 ρ2 W2, (ds2.length = nk ∧ m (pickD idx (ds ++ dds ++ ds2)) (fun x => kx x ρ2) fun d => kk d ρ2) ∧ W1.le W2 ∧ Rep X.K X.mg W2 F H2 σ ρ2 ∧ DVs X.K X.mg W2 ds2 vs2)⟩) fun ws s2 ⟨zs, H2, I2, rz, ds2, ρ2, W2, ⟨hn2, h2⟩, le2, R2, d2⟩ => ⟨I2.kIn, ?_⟩
  rw [hks]
  obtain ⟨its, ri, hbt⟩ := hb.b
  have l1 : us.length = n := by rw [← r.length, ← dvs_len d1, hn]
  have l2 : ws.length = ks.length := by rw [← rz.length, ← dvs_len d2, hn2, hnk]
  exact run_d (args := ⟨us, ks.zip ws⟩) (us := pickU idx (us ++ its ++ ws)) (vs := pickV idx (vs ++ dvs ++ zs)) G hr I2 (hbt s2 us ws I2.kIn l1 l2) (pick_rel ((r.append ri).append rz) idx) (by rw [pickV_len]; exact hb.len) (tk.mono (le1.trans le2)) R2
    (pick_dv (dvs_app (dvs_app (DVs.mono le2 _ _ d1) (hd W2)) d2) idx) h2 fun d v H' W' hk le R' dv => hQ d ρ2 v H' W' hk ((le1.trans le2).trans le) R' dv
theorem pd_callK0 (G : FnOk X.prog X.w X.K X.mg X.base (L2.CX X.prog X.w) k f fd ps (SpD X.K X.mg ps.length m)) (hr : Room k X.A) (hg : Gl X x) (hm : X.mg x = some (.ref f)) (hk : PySem.W.keepIn X.K (.ref f) = true) (hb : BindD X.K fd ps 0 ks idx dvs) (hd : ∀ W, DVs X.K X.mg W dds dvs)
    (hkw : PKd X kws τk) (hall : (backToKw pos (keywordEach kws X.env)).all (·.1.isSome) = true := by rfl) (hks : (backToKw pos (keywordEach kws X.env)).filterMap (·.1) = ks := by rfl) (hnk : ks.length = nk := by rfl)
    (hdb : (x == ("__debug__" : Str)) = false := by decide)
    (hpl : ((backTo pos (starEach [] X.env)).any (·.1) || (backToKw pos (keywordEach kws X.env)).any (·.1.isNone)) = false := by rfl) :
    PEd X (.Call (.Name x p) [] kws pos) (dCall m idx dds dNil (cnt nk τk)) := by
  refine ⟨⟨fun pins s σ H Q I ⟨W, F, ρ, kx, kk, tk, R, h, hQ⟩ => ?_⟩⟩
  refine wpAny_Call_Name_kw (ld_glob I hg hm ?_ hdb)
  refine PySem.W.callWith_KW0 (h₀ := X.base) I.ok.mod.kin hk hall (thn (hkw.p.run pos pins s σ H _ I ⟨W, F, ρ, kx, _, tk, R, h, fun ds2 ρ2 vs2 H2 W2 h2 le2 R2 d2 =>
    (⟨ds2, ρ2, W2, h2, le2, R2, d2⟩ : ∃ ds2 ρ2 W2, (ds2.length = nk ∧ m (pickD idx ([] ++ dds ++ ds2)) (fun x => kx x ρ2) fun d => kk d ρ2) ∧ W.le W2 ∧ Rep X.K X.mg W2 F H2 σ ρ2 ∧ DVs X.K X.mg W2 ds2 vs2)⟩) fun ws s2 ⟨zs, H2, I2, rz, ds2, ρ2, W2, ⟨hn2, h2⟩, le2, R2, d2⟩ => ⟨I2.kIn, ?_⟩) hpl
  rw [hks]
  obtain ⟨its, ri, hbt⟩ := hb.b
  have l2 : ws.length = ks.length := by rw [← rz.length, ← dvs_len d2, hn2, hnk]
  exact run_d (args := ⟨[], ks.zip ws⟩) (us := pickU idx ([] ++ its ++ ws)) (vs := pickV idx ([] ++ dvs ++ zs)) G hr I2 (hbt s2 [] ws I2.kIn rfl l2) (pick_rel ((Vals.append (.nil : Vals [] []) ri).append rz) idx) (by rw [pickV_len]; exact hb.len) (tk.mono le2) R2
    (pick_dv (dvs_app (dvs_app dvs_nil (hd W2)) d2) idx) h2 fun d v H' W' hk le R' dv => hQ d ρ2 v H' W' hk (le2.trans le) R' dv
end
end DL

set_option maxHeartbeats 4000000
/-! DL7: equality of data, truth, built-in calls. -/
namespace DL
open PySem PySem.Spec PyProof.Rows L2

/-! ### equality -/
mutual
def toPy : D → PyData
  | .non => .none
  | .bl b => .bool b
  | .int i => .int i
  | .str x => .str x
  | .tup ds => .tuple (toPys ds)
  | .lst ds => .list (toPys ds)
  | .ins _ _ _ => .none
  | .dic _ _ => .none
  | .exc _ _ _ => .none
  | .town => .none
  | .scr _ => .none
def toPys : List D → List PyData
  | [] => []
  | d :: ds => toPy d :: toPys ds
end
mutual
def pln : Nat → D → Bool
  | _, .non => true
  | _, .bl _ => true
  | _, .int _ => true
  | _, .str _ => true
  | n, .tup ds => match n with | 0 => false | n + 1 => plns n ds
  | n, .lst ds => match n with | 0 => false | n + 1 => plns n ds
  | _, .ins _ _ _ => false
  | _, .dic _ _ => false
  | _, .exc _ _ _ => false
  | _, .town => false
  | _, .scr _ => false
def plns : Nat → List D → Bool
  | _, [] => true
  | n, d :: ds => pln n d && plns n ds
end
section
variable {K : PySem.W.Frag} {mg : Str → Option Value} {W : Wd} {H : Hp}
mutual
theorem DV.dp (g : Same W.G H) : ∀ (d : D) (n : Nat) (v : V), DV K mg W d v → pln n d = true → Dp K H v (toPy d) ∧ PyData.canLay0 (toPy d) = true ∧ PyData.depth (toPy d) ≤ n
  | .non, n, v, x, _ => by simp only [DV] at x; subst x; simp only [toPy, PyData.canLay0, PyData.depth]; exact ⟨.non, trivial, Nat.zero_le _⟩
  | .bl b, n, v, x, _ => by simp only [DV] at x; subst x; simp only [toPy, PyData.canLay0, PyData.depth]; exact ⟨.bl b, trivial, Nat.zero_le _⟩
  | .int b, n, v, x, _ => by simp only [DV] at x; subst x; simp only [toPy, PyData.canLay0, PyData.depth]; exact ⟨.int b, trivial, Nat.zero_le _⟩
  | .str b, n, v, x, _ => by
    simp only [DV] at x
    obtain ⟨e, h1, h2⟩ := x
    subst e
    simp only [toPy, PyData.canLay0, PyData.depth]
    exact ⟨.str b, h2, Nat.zero_le _⟩
  | .tup ds, n, v, x, p => by
    simp only [DV] at x
    obtain ⟨a, vs, e, s, l, r⟩ := x
    subst e
    cases n with
    | zero => simp [pln] at p
    | succ n =>
      simp only [pln] at p
      obtain ⟨h1, h2, h3⟩ := DVs.dp g ds n vs r p
      simp only [toPy, PyData.canLay0, PyData.depth]
      exact ⟨.tup (seqT_mono g s) h1, h2, Nat.succ_le_succ h3⟩
  | .lst ds, n, v, x, p => by
    simp only [DV] at x
    obtain ⟨a, vs, e, s, l, r⟩ := x
    subst e
    cases n with
    | zero => simp [pln] at p
    | succ n =>
      simp only [pln] at p
      obtain ⟨h1, h2, h3⟩ := DVs.dp g ds n vs r p
      simp only [toPy, PyData.canLay0, PyData.depth]
      exact ⟨.lst (.inl (.inl (g _ _ s))) h1, h2, Nat.succ_le_succ h3⟩
  | .ins _ _ _, n, v, x, p => by simp [pln] at p
  | .dic _ _, n, v, x, p => by simp [pln] at p
  | .exc _ _ _, n, v, x, p => by simp [pln] at p
  | .town, n, v, x, p => by simp [pln] at p
  | .scr _, n, v, x, p => by simp [pln] at p
theorem DVs.dp (g : Same W.G H) : ∀ (ds : List D) (n : Nat) (vs : List V), DVs K mg W ds vs → plns n ds = true → DpAll K H vs (toPys ds) ∧ PyData.canLayAll0 (toPys ds) = true ∧ PyData.depthAll (toPys ds) ≤ n
  | [], n, vs, x, _ => by
    simp only [DVs] at x
    subst x
    simp only [toPys, PyData.canLayAll0, PyData.depthAll]
    exact ⟨.nil, trivial, Nat.zero_le _⟩
  | d :: ds, n, vs, x, p => by
    simp only [DVs] at x
    obtain ⟨v, vr, e, r, t⟩ := x
    subst e
    simp only [plns, Bool.and_eq_true] at p
    obtain ⟨h1, h2, h3⟩ := DV.dp g d n v r p.1
    obtain ⟨k1, k2, k3⟩ := DVs.dp g ds n vr t p.2
    simp only [toPys, PyData.canLayAll0, PyData.depthAll, Bool.and_eq_true]
    exact ⟨.cons h1 k1, ⟨h2, k2⟩, Nat.max_le.mpr ⟨h3, k3⟩⟩
end
end
def deq (d e : D) : Bool := PyData.eqv (toPy d) (toPy e)
def deqs (ds es : List D) : Bool := PyData.eqvAll (toPys ds) (toPys es)
theorem shaped_of {d : D} {n : Nat} (hn : n ≤ 64) (h1 : PyData.canLay0 (toPy d) = true) (h2 : PyData.depth (toPy d) ≤ n) : SeqAt.shaped (toPy d) = true := by
  unfold SeqAt.shaped
  rw [h1, Bool.true_and]
  exact decide_eq_true (Nat.le_trans h2 hn)
section
variable {X : Cx} {a b e : Expr} {τ τa τb : TD} {τs : TDa} {pos : Pos}
def gEq : G2 := fun x y k => pln 9 x = true ∧ pln 9 y = true ∧ k (.bl (deq x y))
def gNe : G2 := fun x y k => pln 9 x = true ∧ pln 9 y = true ∧ k (.bl (!deq x y))
theorem od_eq : OpD X (rEqD X.K) gEq := by
  intro W F H σ ρ x y dx dy k Q R hx hy ⟨p1, p2, hk⟩ hQ
  obtain ⟨h1, h2, h3⟩ := hx.dp R.w.g dx 9 x p1
  obtain ⟨k1, k2, k3⟩ := hy.dp R.w.g dy 9 y p2
  exact ⟨_, _, h1, k1, shaped_of (by decide) h2 h3, shaped_of (by decide) k2 k3, hQ _ _ H W hk (Wd.le.refl W) R (by simp only [DV, deq])⟩
theorem od_ne : OpD X (rNeD X.K) gNe := by
  intro W F H σ ρ x y dx dy k Q R hx hy ⟨p1, p2, hk⟩ hQ
  obtain ⟨h1, h2, h3⟩ := hx.dp R.w.g dx 9 x p1
  obtain ⟨k1, k2, k3⟩ := hy.dp R.w.g dy 9 y p2
  exact ⟨_, _, h1, k1, shaped_of (by decide) h2 h3, shaped_of (by decide) k2 k3, hQ _ _ H W hk (Wd.le.refl W) R (by simp only [DV, deq])⟩
theorem pd_eq {k : Nat} (hr : Room k X.A) (ha : PEd X a τa) (hb : PEd X b τb) : PEd X (.Compare a [.Eq] [b] pos) (dOp gEq τa τb) := pd_cmp (op_eqD hr.units) od_eq ha hb (nomark _)
theorem pd_ne {k : Nat} (hr : Room k X.A) (ha : PEd X a τa) (hb : PEd X b τb) : PEd X (.Compare a [.NotEq] [b] pos) (dOp gNe τa τb) := pd_cmp (op_neD hr.units) od_ne ha hb (nomark _)
theorem td_eq {k : Nat} (hr : Room k X.A) (ha : PEd X a τa) (hb : PEd X b τb) : PTd X (.Compare a [.Eq] [b] pos) (dTest (dOp gEq τa τb)) := td_cmp (op_eqD hr.units) od_eq ha hb (nomark _)
theorem td_ne {k : Nat} (hr : Room k X.A) (ha : PEd X a τa) (hb : PEd X b τb) : PTd X (.Compare a [.NotEq] [b] pos) (dTest (dOp gNe τa τb)) := td_cmp (op_neD hr.units) od_ne ha hb (nomark _)

/-! ### truth -/
def truD : D → Option Bool
  | .non => some false
  | .bl b => some b
  | .int i => some (i != 0)
  | .str x => some ((x.length : Int) != 0)
  | .tup ds => some (!ds.isEmpty)
  | .lst ds => some (!ds.isEmpty)
  | .scr ns => some (!ns.isEmpty)
  | .dic ks _ => some (!ks.isEmpty)
  | _ => none
def dTru (τ : TD) : TDt := fun ρ kx k => τ ρ kx fun d ρ' => ∃ b, truD d = some b ∧ k b ρ'
theorem dvs_empty {K : PySem.W.Frag} {mg : Str → Option Value} {W : Wd} {ds : List D} {vs : List V} (h : DVs K mg W ds vs) : ds.isEmpty = vs.isEmpty := by
  have := dvs_len h
  cases ds <;> cases vs <;> simp at this ⊢
theorem zip_empty {α β : Type} {ks : List α} {vs : List β} (l : ks.length = vs.length) : (ks.zip vs).isEmpty = ks.isEmpty := by
  cases ks <;> cases vs <;> simp at l ⊢
theorem td_tru (ha : PEd X a τ) (he : ∀ whole, isTrue a X.env whole = (do let v ← whole; standAt a.pos; holding [v] (truthy v)) := by intro _; rfl) : PTd X a (dTru τ) :=
  ⟨PT.imp (pt_truth ha.p he) fun σ H Q ⟨W, F, ρ, kx, k, tk, R, h, hQ⟩ => ⟨W, F, ρ, kx, _, tk, R, h, fun d ρ1 v1 H1 W1 ⟨b, hb, h1⟩ le1 R1 d1 => by
    refine ⟨b, ?_, hQ b ρ1 H1 W1 h1 le1 R1⟩
    cases d <;> simp only [truD, Option.some.injEq, reduceCtorEq] at hb <;> simp only [DV] at d1
    · subst d1; exact hb.symm
    · subst d1; exact hb.symm
    · subst d1; exact hb.symm
    · obtain ⟨e, h1, _⟩ := d1; subst e; exact ⟨h1, hb.symm⟩
    · obtain ⟨a, vs, e, s, l, r⟩ := d1; subst e; exact .inr (.inl ⟨vs, seqT_mono R1.w.g s, by rw [← hb, dvs_empty r]⟩)
    · obtain ⟨a, vs, e, s, l, r⟩ := d1; subst e; exact .inl ⟨vs, .inl (.inl (R1.w.g _ _ s)), by rw [← hb, dvs_empty r]⟩
    · obtain ⟨a, vs, e, s, l, r⟩ := d1
      subst e
      exact .inr (.inr ⟨_, R1.w.g _ _ s, by rw [← hb, zip_empty l]⟩)
    · obtain ⟨a, e, s, _⟩ := d1; subst e; exact .inl ⟨_, seqL_mono R1.w.g s, by rw [← hb]; simp⟩⟩⟩

/-! ### built-in calls -/
abbrev GC := List D → (D → Prop) → Prop
def CallD (X : Cx) (r : List V → Hp → VK → Prop) (g : GC) : Prop := ∀ (W : Wd) (F H : Hp) (σ : L2.St) (ρ : Rho) (vs : List V) (ds : List D) (k : D → Prop) (Q : VK), Rep X.K X.mg W F H σ ρ → DVs X.K X.mg W ds vs → g ds k →
  (∀ d v H' W', k d → W.le W' → Rep X.K X.mg W' F H' σ ρ → DV X.K X.mg W' d v → Q v H') → r vs H Q
def dBC (g : GC) (τs : TDa) : TD := fun ρ kx k => τs ρ kx fun ds ρ' => g ds fun d => k d ρ'
theorem lE.bc {r : List V → Hp → VK → Prop} {g : GC} (cd : CallD X r g) : ∀ σ H Q, lE X (dBC g τs) σ H Q → tCB r (lA X τs) σ H Q := by
  rintro σ H Q ⟨W, F, ρ, kx, k, tk, R, h, hQ⟩
  refine ⟨W, F, ρ, kx, _, tk, R, h, fun ds ρ1 vs H1 W1 h1 le1 R1 d1 => ?_⟩
  exact cd W1 F H1 σ ρ1 vs ds _ Q R1 d1 h1 fun d v H' W' hk le R' dv => hQ d ρ1 v H' W' hk (le1.trans le) R' dv
variable {x : Str} {p : Pos} {es : List Expr} {id : String} {T : String} {r : List V → Hp → VK → Prop} {g : GC}
theorem pd_bc (hc : CallR X (.builtin id) r) (cd : CallD X r g) (hg : Gl X x) (hm : X.mg x = none) (hv : bootBuiltins x = some (.builtin id)) (ha : PAd X (e :: es) τs) (hn : x ≠ "__name__" := by decide) (hdb : (x == ("__debug__" : Str)) = false := by decide)
    (he : starEach (e :: es) X.env = (false, eval e X.env) :: starEach es X.env := by rfl) (hpl : (backTo pos (starEach es X.env)).any (·.1) = false := by rfl) : PEd X (.Call (.Name x p) (e :: es) [] pos) (dBC g τs) :=
  ⟨PE.imp (pe_callB hc hg hm hv ha.p hn hdb he hpl) (lE.bc cd)⟩
theorem pd_tc (hc : CallR X (.type T) r) (cd : CallD X r g) (hg : Gl X x) (hm : X.mg x = none) (hv : bootBuiltins x = some (.type T)) (ha : PAd X (e :: es) τs) (hn : x ≠ "__name__" := by decide) (hdb : (x == ("__debug__" : Str)) = false := by decide)
    (he : starEach (e :: es) X.env = (false, eval e X.env) :: starEach es X.env := by rfl) (hpl : (backTo pos (starEach es X.env)).any (·.1) = false := by rfl) : PEd X (.Call (.Name x p) (e :: es) [] pos) (dBC g τs) :=
  ⟨PE.imp (pe_callTy hc hg hm hv ha.p hn hdb he hpl) (lE.bc cd)⟩
def cMin2 : GC := fun ds k => match ds with | [.int i, .int j] => k (.int (min i j)) | _ => False
def cMax2 : GC := fun ds k => match ds with | [.int i, .int j] => k (.int (max i j)) | _ => False
theorem cd_min2 : CallD X (fun xs H Q => ∃ i j, xs = [.int i, .int j] ∧ Q (.int (if j < i then j else i)) H) cMin2 := by
  intro W F H σ ρ vs ds k Q R dv hg hQ
  match ds, hg, dv with
  | [.int i, .int j], hg, dv =>
    obtain ⟨v, v2, e, r, r2⟩ := dvs2 dv
    simp only [DV] at r r2
    subst r
    subst r2
    refine ⟨i, j, e, ?_⟩
    have q : (if j < i then j else i) = min i j := by split <;> omega
    rw [q]
    exact hQ _ _ H W hg (Wd.le.refl W) R (by simp only [DV])
theorem cd_max2 : CallD X (fun xs H Q => ∃ i j, xs = [.int i, .int j] ∧ Q (.int (if j > i then j else i)) H) cMax2 := by
  intro W F H σ ρ vs ds k Q R dv hg hQ
  match ds, hg, dv with
  | [.int i, .int j], hg, dv =>
    obtain ⟨v, v2, e, r, r2⟩ := dvs2 dv
    simp only [DV] at r r2
    subst r
    subst r2
    refine ⟨i, j, e, ?_⟩
    have q : (if j > i then j else i) = max i j := by split <;> omega
    rw [q]
    exact hQ _ _ H W hg (Wd.le.refl W) R (by simp only [DV])
def cLen : GC := fun ds k => match ds with
  | [.tup xs] => k (.int (xs.length : Nat))
  | [.lst xs] => k (.int (xs.length : Nat))
  | [.str x] => k (.int (x.length : Nat))
  | [.scr ns] => k (.int (ns.length : Nat))
  | _ => False
theorem cd_len : CallD X (fun xs H Q => ∃ x n, xs = [x] ∧ LenV X.K x H n ∧ Q (.int n) H) cLen := by
  intro W F H σ ρ vs ds k Q R dv hg hQ
  have fin : ∀ n : Nat, k (.int (n : Nat)) → Q (.int (n : Nat)) H := fun n h => hQ _ _ H W h (Wd.le.refl W) R (by simp only [DV])
  match ds, hg, dv with
  | [.tup xs], hg, dv =>
    obtain ⟨v, e, r⟩ := dvs1 dv
    simp only [DV] at r
    obtain ⟨a, us, ea, s, l, r⟩ := r
    subst ea
    exact ⟨_, xs.length, e, .inr ⟨us, seqT_mono R.w.g s, dvs_len r⟩, fin _ hg⟩
  | [.lst xs], hg, dv =>
    obtain ⟨v, e, r⟩ := dvs1 dv
    simp only [DV] at r
    obtain ⟨a, us, ea, s, l, r⟩ := r
    subst ea
    exact ⟨_, xs.length, e, .inl ⟨us, .inl (.inl (R.w.g _ _ s)), dvs_len r⟩, fin _ hg⟩
  | [.str x], hg, dv =>
    obtain ⟨v, e, r⟩ := dvs1 dv
    simp only [DV] at r
    obtain ⟨ea, l, _⟩ := r
    subst ea
    exact ⟨_, x.length, e, ⟨l, rfl⟩, fin _ hg⟩
  | [.scr ns], hg, dv =>
    obtain ⟨v, e, r⟩ := dvs1 dv
    simp only [DV] at r
    obtain ⟨a, ea, s, l⟩ := r
    subst ea
    exact ⟨_, ns.length, e, .inl ⟨_, seqL_mono R.w.g s, by simp⟩, fin _ hg⟩
end
/-! ### the town's deeds -/
def drawM : FD := fun ds _ k => match ds with
  | [.scr _, .town, .int n] => (0 < n ∧ n < 100000) ∧ ∀ v : Int, 0 ≤ v → v < n → k (.int v)
  | _ => False
def begunM : FD := fun ds _ k => ds = [] ∧ k .town
theorem nodup_le : ∀ (m : Nat) (l : List Key), l.Nodup → (∀ p ∈ l, ∃ k : Int, p = Sum.inl k ∧ 0 ≤ k ∧ k < (m : Int)) → l.length ≤ m
  | 0, l, _, h => by
    cases l with
    | nil => exact Nat.le_refl _
    | cons p r => obtain ⟨k, _, h1, h2⟩ := h p List.mem_cons_self; omega
  | m + 1, l, nd, h => by
    have h1 : (l.filter fun p => decide (p ≠ Sum.inl (m : Int))).length ≤ m := nodup_le m _ (nd.filter _) fun p hp => by
      obtain ⟨h2, h3⟩ := List.mem_filter.mp hp
      obtain ⟨k, e, k1, k2⟩ := h p h2
      refine ⟨k, e, k1, ?_⟩
      have : k ≠ (m : Int) := fun z => by subst z; rw [e] at h3; simp at h3
      omega
    have h2 : l.length ≤ (l.filter fun p => decide (p ≠ Sum.inl (m : Int))).length + 1 := by
      have aux : ∀ l : List Key, l.Nodup → l.length ≤ (l.filter fun p => decide (p ≠ Sum.inl (m : Int))).length + 1 := by
        intro l
        induction l with
        | nil => intro _; simp
        | cons p r ih =>
          intro nd
          obtain ⟨n1, n2⟩ := List.nodup_cons.mp nd
          by_cases e : p = Sum.inl (m : Int)
          · have : r.filter (fun p => decide (p ≠ Sum.inl (m : Int))) = r := List.filter_eq_self.mpr fun q hq => decide_eq_true fun z => n1 (by rw [e, ← z]; exact hq)
            rw [List.filter_cons, if_neg (by simp [e]), this]
            simp
          · rw [List.filter_cons, if_pos (by simpa using e)]
            have := ih n2
            simp only [List.length_cons]
            omega
      exact aux l nd
    omega
end DL

set_option maxHeartbeats 4000000
/-! DL8: the town's two dicts. -/
namespace DL
open PySem PySem.Spec PyProof.Rows L2
abbrev kCount : Key := Sum.inr "count"
abbrev kRests : Key := Sum.inr "rests"
theorem cr_ne : ¬ (kCount = kRests) := by decide +kernel
def tk (c : Int) (r : Addr) : List (Key × V) := [(kCount, .int c), (kRests, .ref r)]
theorem tk_count (c : Int) (r : Addr) : valV (tk c r) kCount = some (.int c) := valV_pos rfl
theorem tk_rests (c : Int) (r : Addr) : valV (tk c r) kRests = some (.ref r) := by
  unfold tk
  rw [valV_neg cr_ne, valV_pos rfl]
theorem tk_put (c c' : Int) (r : Addr) : putK (tk c r) kCount (.int c') = tk c' r := by
  unfold putK tk
  rw [if_pos (by simp)]
  simp [Ne.symm cr_ne]
theorem townAt_of {H : Hp} {a r : Addr} {c : Int} {kvs : List (Key × V)} (n : a ≠ r) (h1 : H a = some (.dK (tk c r))) (h2 : H r = some (.dK kvs)) (h3 : ∀ p ∈ kvs, ∃ k n : Int, p = (Sum.inl k, V.int n) ∧ 0 ≤ k ∧ k < 64) (h4 : (kvs.map (·.1)).Nodup) : TownAt H a r := by
  refine ⟨n, c, kvs, h1, h2, ?_, h3, h4⟩
  have := nodup_le 64 (kvs.map (·.1)) h4 fun p hp => by
    obtain ⟨q, hq, e⟩ := List.mem_map.mp hp
    obtain ⟨k, m, e2, k1, k2⟩ := h3 q hq
    exact ⟨k, by rw [← e, e2], k1, k2⟩
  rwa [List.length_map] at this
theorem WOk.town {W : Wd} {F H H' : Hp} {a r : Addr} (w : WOk W F H) (ht : W.T = some (a, r)) (h : ∀ b, b ≠ a → b ≠ r → H' b = H b) (t : TownAt H' a r) : WOk W F H' := by
  obtain ⟨_, g1, g2, f1, f2⟩ := w.t _ ht
  have ne : ∀ {H0 : Hp} {b : Addr} {o : HO}, H0 a = none → H0 r = none → H0 b = some o → b ≠ a ∧ b ≠ r := fun {H0 b o} n1 n2 e =>
    ⟨(fun z => by rw [z, n1] at e; cases e), (fun z => by rw [z, n2] at e; cases e)⟩
  refine ⟨fun b o e => ?_, fun b o e => ?_, w.gf, fun p hp => ?_⟩
  · obtain ⟨q1, q2⟩ := ne g1 g2 e
    exact (h b q1 q2).trans (w.g b o e)
  · obtain ⟨q1, q2⟩ := ne f1 f2 e
    exact (h b q1 q2).trans (w.f b o e)
  · rw [ht] at hp
    cases hp
    exact ⟨t, g1, g2, f1, f2⟩
def Rests (kvs : List (Key × V)) : Prop := (∀ p ∈ kvs, ∃ k n : Int, p = (Sum.inl k, V.int n) ∧ 0 ≤ k ∧ k < 64) ∧ (kvs.map (·.1)).Nodup
theorem Rests.len {kvs : List (Key × V)} (h : Rests kvs) : kvs.length ≤ 64 := by
  have := nodup_le 64 (kvs.map (·.1)) h.2 fun p hp => by
    obtain ⟨q, hq, e⟩ := List.mem_map.mp hp
    obtain ⟨k, m, e2, k1, k2⟩ := h.1 q hq
    exact ⟨k, by rw [← e, e2], k1, k2⟩
  rwa [List.length_map] at this
theorem Rests.get {kvs : List (Key × V)} (h : Rests kvs) (i d : Int) : ∃ m : Int, (valV kvs (Sum.inl i)).getD (.int d) = .int m := by
  unfold valV
  cases q : kvs.find? fun kv => decide (kv.1 = Sum.inl i) with
  | none => exact ⟨d, rfl⟩
  | some p =>
    obtain ⟨k, n, e, _⟩ := h.1 p (List.mem_of_find?_eq_some q)
    exact ⟨n, by rw [e]; rfl⟩
theorem Rests.put {kvs : List (Key × V)} (h : Rests kvs) {i m : Int} (h0 : 0 ≤ i) (h1 : i < 64) : Rests (putK kvs (Sum.inl i) (.int m)) := by
  unfold putK
  split
  · refine ⟨fun p hp => ?_, ?_⟩
    · obtain ⟨q, hq, e⟩ := List.mem_map.mp hp
      obtain ⟨k, n, e2, k1, k2⟩ := h.1 q hq
      subst e2
      by_cases z : (Sum.inl k : Key) = Sum.inl i
      · have e' : p = (Sum.inl k, V.int m) := by rw [← e]; simp [z]
        exact ⟨k, m, e', k1, k2⟩
      · have e' : p = (Sum.inl k, V.int n) := by rw [← e]; simp only [if_neg z]
        exact ⟨k, n, e', k1, k2⟩
    · have : (kvs.map fun kv => if kv.1 = Sum.inl i then (kv.1, V.int m) else kv).map (·.1) = kvs.map (·.1) := by
        rw [List.map_map]
        refine List.map_congr_left fun q _ => ?_
        by_cases z : q.1 = Sum.inl i
        · simp [z]
        · simp [z]
      rw [this]; exact h.2
  · rename_i hn
    have hn' : ∀ x ∈ kvs, ¬ x.1 = Sum.inl i := fun x hx z => hn (by rw [List.any_eq_true]; exact ⟨x, hx, by simpa using z⟩)
    refine ⟨fun p hp => ?_, ?_⟩
    · rcases List.mem_append.mp hp with q | q
      · exact h.1 p q
      · have : p = (Sum.inl i, V.int m) := by simpa using q
        exact ⟨i, m, this, h0, h1⟩
    · rw [List.map_append, List.nodup_append]
      refine ⟨h.2, by simp, fun x hx y hy => ?_⟩
      have ey : y = Sum.inl i := by simpa using hy
      obtain ⟨q, hq, e⟩ := List.mem_map.mp hx
      rw [ey, ← e]
      exact hn' q hq
theorem emod_lt' (i : Int) {n : Int} (h : 0 < n) : 0 ≤ i % n ∧ i % n < n := ⟨Int.emod_nonneg _ (by omega), Int.emod_lt_of_pos _ h⟩
end DL

set_option maxHeartbeats 4000000
/-! DL9: the law itself. -/
namespace DL
open PySem PySem.Spec PyProof.Rows L2
def SpB : Sp := fun vs H Q _ => vs = [] ∧ ∀ (a r : Addr) (H' : Hp), a ≠ r → H a = none → H r = none → H' a = some (.dK (tk 0 r)) → H' r = some (.dK []) → (∀ b, b ≠ a → b ≠ r → H' b = H b) → Q (.ref a) H'
theorem begun_read {H : Hp} {Q : VK} {σ : L2.St} (h : ∀ (a r : Addr) (H' : Hp), a ≠ r → H a = none → H r = none → H' a = some (.dK (tk 0 r)) → H' r = some (.dK []) → (∀ b, b ≠ a → b ≠ r → H' b = H b) → Q (.ref a) H') :
    tDisp [(tC (.str "count"), tC (.int 0)), (tC (.str "rests"), tDNewK)] σ H Q := by
  intro p hp r hr
  have npr : p ≠ r := fun z => by rw [z, upd_same] at hr; cases hr
  have hr0 : H r = none := by rw [upd_ne (Ne.symm npr)] at hr; exact hr
  refine ⟨(upd_ne npr).trans upd_same, [(kCount, .int 0), (kRests, .ref r)], rfl, by simp, ?_⟩
  refine h p r _ npr hp hr0 (upd_same.trans ?_) ((upd_ne (Ne.symm npr)).trans upd_same) fun b b1 b2 => (upd_ne b1).trans ((upd_ne b2).trans (upd_ne b1))
  have : mergeK [] [(kCount, V.int 0), (kRests, V.ref r)] = tk 0 r := by
    unfold mergeK
    rw [List.foldl_cons, List.foldl_cons, List.foldl_nil, putK_new _ rfl]
    show putK [(kCount, V.int 0)] kRests (V.ref r) = _
    rw [putK_new _ (by rw [valV_neg cr_ne]; rfl)]
    rfl
  rw [this]
def spLaw (K : PySem.W.Frag) : Sp := fun vs H Q _ => ∃ (a : Addr) (ns : List Int), vs = [.ref a] ∧ SqL K H a (ns.map V.int) ∧ ns.length ≤ 63 ∧ ∀ H', Q (.bl true) H'
def KL : KS := { nx := fun _ => False, rt := fun d _ => d = .bl true }
def rhoL (n : Nat) (ns : List Int) : Rho := .val (.scr ns) :: .val .town :: List.replicate (n - 2) .un
section
variable {P : Program} {w : World} {K : PySem.W.Frag} {mg : Str → Option Value} {base : Heap}
theorem fn_law {params : Arguments} {s0 : Stmt} {rest : List Stmt} {scope : Scope} {f : Addr} {fd : FuncData} {N : List Str} {k : Nat} {τ : TDS} (F : FunD K "law" "law" params (s0 :: rest) scope [] [] f fd) (S : FnScope N ["_law_script"] scope) (hN : 2 ≤ N.length)
    (hτ : ∀ ns : List Int, ns.length ≤ 63 → τ (rhoL N.length ns) nokx KL)
    (hb : ∀ (cdv : Value) (A : Around) (outer : List PySem.Env) (s : Shared) (H : Hp) (E : XK), Room k (A.deeper (envOfC "law" scope s.heap.objs.size f cdv)) →
      PS (cxOf (L2.CX P w) P w K mg base N "law" scope f cdv A outer s H E) s0 (tAsg (tCall SpB [] E0 tNil) (L2.gName 1)) ∧ PBd (cxOf (L2.CX P w) P w K mg base N "law" scope f cdv A outer s H E) rest τ) :
    FnOk P w K mg base (L2.CX P w) (k + 1) f fd ["_law_script"] (spLaw K) := by
  refine F.ok S (fun vs H Q E h => by obtain ⟨a, ns, e, _⟩ := h; rw [e]; rfl) fun cdv A outer s H vs Q E hr h => ?_
  obtain ⟨a, ns, rfl, hS, hl, hQ⟩ := h
  obtain ⟨h0, hrest⟩ := hb cdv A outer s H E hr
  refine ⟨_, pss_cons h0 hrest.p, ⟨rfl, fun ta tr H' ne na nr h1 h2 h3 => ?_⟩⟩
  have sm : Same H H' := fun b o e => (h3 b (ne_of_none e na) (ne_of_none e nr)).trans e
  have wok : WOk { G := H, T := some (ta, tr) } (fun _ => none) H' := ⟨sm, (fun _ _ e => by cases e), (fun _ e => (e rfl).elim), fun p hp => by
    cases hp
    exact ⟨townAt_of ne h1 h2 (fun p hp => by simp at hp) (by simp), na, nr, rfl, rfl⟩⟩
  refine ⟨{ G := H, T := some (ta, tr) }, fun _ => none, rhoL N.length ns, nokx, KL, takesNo, ?_, hτ ns hl, ⟨fun _ _ _ _ z => z.elim, fun d ρ' v σ' H2 W2 hk _ _ dv => ?_, fun _ _ _ _ z => z.elim, fun _ _ _ _ z => z.elim⟩⟩
  · refine ⟨wok, ?_, fun i s hs => ?_, fun i j b _ ⟨t, t1, t2, _⟩ => ?_⟩
    · unfold rhoL L2.start
      simp
      omega
    · have eσ : L2.start N [V.ref a] = some (V.ref a) :: List.replicate (N.length - 1) none := rfl
      rw [eσ]
      match i, hs with
      | 0, hs =>
        have : s = .val (.scr ns) := by unfold rhoL at hs; simpa using hs.symm
        subst this
        refine .inr ⟨.ref a, ?_, ?_⟩
        · rw [List.getElem?_set_ne (by decide)]; rfl
        · show DV K mg _ (.scr ns) (.ref a)
          simp only [DV]
          exact ⟨a, rfl, hS, hl⟩
      | 1, hs =>
        have : s = .val .town := by unfold rhoL at hs; simpa using hs.symm
        subst this
        refine .inr ⟨.ref ta, ?_, ?_⟩
        · rw [List.getElem?_set_self (by simp; omega)]
        · show DV K mg _ .town (.ref ta)
          simp only [DV]
          exact ⟨ta, tr, rfl, rfl⟩
      | i + 2, hs =>
        refine .inl ?_
        unfold rhoL at hs
        have : (List.replicate (N.length - 2) DL.S.un)[i]? = some s := by simpa using hs
        exact List.eq_of_mem_replicate (List.mem_of_getElem? this)
    · have hh : t = .val (.scr ns) ∨ t = .val .town ∨ t = .un := by
        have hm := List.mem_of_getElem? t1
        unfold rhoL at hm
        rcases List.mem_cons.mp hm with e | hm
        · exact .inl e
        · rcases List.mem_cons.mp hm with e | hm
          · exact .inr (.inl e)
          · exact .inr (.inr (List.eq_of_mem_replicate hm))
      rcases hh with e | e | e <;> (subst e; cases t2)
  · have hk : d = .bl true := hk
    subst hk
    simp only [DV] at dv
    subst dv
    exact hQ H2
end
theorem law_nox {P : Program} {w : World} {H : Hp} {s : Shared} {e : Value} {s' : Shared} (h : L2.CX P w [] H s (fun _ _ _ => False) e s') : False := by
  obtain ⟨_, _, _, _, _, _, _, _, _, _, _, _, z⟩ := h
  exact z
theorem walkL {l : PySem.W.OpenLaw} {q : Program} {loose : List Str} {XP : (Str → Option Value) → Heap → Prop} {YP : World → Heap → Prop} {d : DefRec} {K : Params → PySem.W.Frag} {k : Nat} (hr : Room k callerA) (hn : l.most = some 63) (hdf : d.params.defaults = [])
    (hY : ∀ (w : World) (h : Heap), YP w h → (K w.params).In h)
    (F : ∀ (w : World) (mg : Str → Option Value) (fa : Addr) (h : Heap), (K w.params).In h → h.Ns mainGlobals mg → mg d.name = some (.ref fa) →
      ∃ fd : FuncData, (∀ (s : Shared) (u : Value), BindsTo s fd ⟨[u], []⟩ [("_law_script", u)]) ∧ ∀ base : Heap, (K w.params).In base → base.Ns mainGlobals mg → FnOk l.prog w (K w.params) mg base (L2.CX l.prog w) k fa fd ["_law_script"] (spLaw (K w.params))) :
    PySem.W.WalkO q loose XP YP l.row.toRowW d [] (fun f vs => PySem.call f vs) :=
  L2.walk_of (n := 63) (k := k) (x := "_law_script") (CX := fun w => L2.CX l.prog w) (sp := fun w => spLaw (K w.params)) hn (by decide) hdf hr hY F (fun _ _ a ns hl _ hS => ⟨a, ns, rfl, hS, hl, fun _ => rfl⟩) fun _ _ _ _ _ z => law_nox z
end DL

set_option maxHeartbeats 4000000
namespace DL
open PySem PySem.Spec PyProof.Rows L2
theorem Fun_binds0 {K : PySem.W.Frag} {x qual : Str} {params : Arguments} {body : List Stmt} {scope : Scope} {kws : List (Str × V)} {f : Addr} {fd : FuncData} (F : FunD K x qual params body scope [] kws f fd)
    (h : ∀ {kV doc pm : Value} {an : Option Addr} {cdv ct : Value}, bindArgs (PySem.W.fnOf x qual params body scope .none kV doc pm an cdv ct) ⟨[], []⟩ = pure []) : Binds K fd [] [] := by
  obtain ⟨oc, od, dV, kV, doc, pm, an, cdv, ct, osl, rfl, lk, hcd, hD, _⟩ := F.ex
  rcases hD with ⟨_, rfl⟩ | ⟨z, _⟩
  · exact .all fun us hl => by
      cases us with
      | nil => exact h
      | cons a b => cases hl
  · exact absurd rfl z
section
variable {X : Cx} {a b : Expr} {τa τb : TD} {pos : Pos}
def gAdd : G2 := gAddI
theorem pd_add (ha : PEd X a τa) (hb : PEd X b τb) : PEd X (.BinOp a .Add b pos) (dOp gAdd τa τb) := pd_addI ha hb
def gMult : G2 := gMul
theorem pd_mult (ha : PEd X a τa) (hb : PEd X b τb) : PEd X (.BinOp a .Mult b pos) (dOp gMult τa τb) := pd_mul ha hb
def gLt : G2 := gLtI
theorem pd_lt {k : Nat} (hr : Room k X.A) (ha : PEd X a τa) (hb : PEd X b τb) : PEd X (.Compare a [.Lt] [b] pos) (dOp gLt τa τb) := pd_cmp op_lt od_ltI ha hb (nomark _)
theorem td_lt {k : Nat} (hr : Room k X.A) (ha : PEd X a τa) (hb : PEd X b τb) : PTd X (.Compare a [.Lt] [b] pos) (dTest (dOp gLt τa τb)) := td_cmp op_lt od_ltI ha hb (nomark _)
end
end DL

set_option maxHeartbeats 4000000
namespace DL
open PySem PySem.Spec PyProof.Rows L2
/-! ### the steps of a reading -/
section
variable {ρ ρ' : Rho} {kx : KX} {k : KE} {kv : KV} {kt : Bool → Rho → Prop} {ka : List D → Rho → Prop} {km : List S → Rho → Prop} {kd : D → Prop}
variable {τ τa τb τc : TD} {τs : TDs} {τl τk τr : TDa} {τi : TDi} {ta tb : TDt} {t u : TDS} {τm : TDm} {γ : TGd} {γs : TGsd}
variable {n r0 b0 : Rho → Prop} {r : D → Rho → Prop} {b c : Rho → Prop} {g : G2} {x y : D} {i : Nat} {d : D} {ds : List D} {s : S} {m : FD} {A B : Prop}
theorem x_var (e : ρ[i]? = some (.val d)) (h : k d ρ) : dVar i ρ kx k := ⟨d, e, h⟩
theorem x_C (h : k d ρ) : dC d ρ kx k := h
theorem x_op (h : τa ρ kx fun x ρ1 => τb ρ1 kx fun y ρ2 => g x y fun d => k d ρ2) : dOp g τa τb ρ kx k := h
theorem x_un {g : D → (D → Prop) → Prop} (h : τ ρ kx fun d ρ' => g d fun d' => k d' ρ') : dUn g τ ρ kx k := h
theorem x_sub {i j : Int} (h : kd (.int (i - j))) : gSub (.int i) (.int j) kd := ⟨trivial, h⟩
theorem x_mul {i j : Int} (c : CMul i j) (h : kd (.int (i * j))) : gMul (.int i) (.int j) kd := ⟨c, h⟩
theorem x_mult {i j : Int} (c : CMul i j) (h : kd (.int (i * j))) : gMult (.int i) (.int j) kd := ⟨c, h⟩
theorem x_div {i j : Int} (c : CDivN i j) (h : kd (.int (i.fdiv j))) : gDiv (.int i) (.int j) kd := ⟨c, h⟩
theorem x_mod {i j : Int} (c : j ≠ 0) (h : kd (.int (i.fmod j))) : gMod (.int i) (.int j) kd := ⟨c, h⟩
theorem x_add {i j : Int} (h : kd (.int (i + j))) : gAdd (.int i) (.int j) kd := ⟨trivial, h⟩
theorem x_lt {i j : Int} (h : kd (.bl (decide (i < j)))) : gLt (.int i) (.int j) kd := ⟨trivial, h⟩
theorem x_ltI {i j : Int} (h : kd (.bl (decide (i < j)))) : gLtI (.int i) (.int j) kd := ⟨trivial, h⟩
theorem x_leI {i j : Int} (h : kd (.bl (decide (i ≤ j)))) : gLeI (.int i) (.int j) kd := ⟨trivial, h⟩
theorem x_gtI {i j : Int} (h : kd (.bl (decide (j < i)))) : gGtI (.int i) (.int j) kd := ⟨trivial, h⟩
theorem x_geI {i j : Int} (h : kd (.bl (decide (j ≤ i)))) : gGeI (.int i) (.int j) kd := ⟨trivial, h⟩
theorem x_is (h : kd (.bl (gIsN d))) : gIs d kd := h
theorem x_notis (h : kd (.bl (!gIsN d))) : gNotIs d kd := h
theorem x_neg {i : Int} (h : kd (.int (-i))) : gNeg (.int i) kd := h
theorem x_eqI {i j : Int} (h : kd (.bl (decide (i = j)))) : gEq (.int i) (.int j) kd := ⟨rfl, rfl, h⟩
theorem x_neI {i j : Int} (h : kd (.bl (!decide (i = j)))) : gNe (.int i) (.int j) kd := ⟨rfl, rfl, h⟩
theorem x_eq (p : pln 9 x = true) (q : pln 9 y = true) (h : kd (.bl (deq x y))) : gEq x y kd := ⟨p, q, h⟩
theorem x_ne (p : pln 9 x = true) (q : pln 9 y = true) (h : kd (.bl (!deq x y))) : gNe x y kd := ⟨p, q, h⟩
theorem x_test {b : Bool} (h : kt b ρ) : (fun (d : D) (ρ' : Rho) => match d with | .bl b => kt b ρ' | _ => False) (.bl b) ρ := h
theorem x_dtest (h : τ ρ kx fun d ρ' => match d with | .bl b => kt b ρ' | _ => False) : dTest τ ρ kx kt := h
theorem x_and (h : ta ρ kx fun c ρ' => if c = true then tb ρ' kx kt else kt false ρ') : dAnd ta tb ρ kx kt := h
theorem x_or (h : ta ρ kx fun c ρ' => if c = true then kt true ρ' else tb ρ' kx kt) : dOr ta tb ρ kx kt := h
theorem x_not (h : ta ρ kx fun c ρ' => kt (!c) ρ') : dNot ta ρ kx kt := h
theorem x_dif (h : ta ρ kx fun c ρ' => if c = true then τa ρ' kx k else τb ρ' kx k) : dIf ta τa τb ρ kx k := h
theorem x_ite {p : Bool} (h1 : p = true → A) (h2 : p = false → B) : if p = true then A else B := by cases p <;> simp_all
theorem x_iteD {p : Prop} [Decidable p] (h1 : p → A) (h2 : ¬p → B) : if decide p = true then A else B := by by_cases h : p <;> simp_all
theorem x_iteN {p : Prop} [Decidable p] (h1 : p → B) (h2 : ¬p → A) : if (!decide p) = true then A else B := by by_cases h : p <;> simp_all
theorem x_no {p : Prop} [Decidable p] (e : ¬p) (h : B) : if decide p = true then A else B := by rw [decide_eq_false e]; exact h
theorem x_yes {p : Prop} [Decidable p] (e : p) (h : A) : if decide p = true then A else B := by rw [decide_eq_true e]; exact h
theorem x_noN {p : Prop} [Decidable p] (e : p) (h : B) : if (!decide p) = true then A else B := by rw [decide_eq_true e]; exact h
theorem x_yesN {p : Prop} [Decidable p] (e : ¬p) (h : A) : if (!decide p) = true then A else B := by rw [decide_eq_false e]; exact h
theorem x_T (h : A) : if true = true then A else B := by simpa using h
theorem x_F (h : B) : if false = true then A else B := by simpa using h
theorem x_nT (h : B) : if (!true) = true then A else B := by simpa using h
theorem x_nF (h : A) : if (!false) = true then A else B := by simpa using h
theorem x_nil (h : ka [] ρ) : dNil ρ kx ka := h
theorem x_cons (h : τ ρ kx fun d ρ1 => τr ρ1 kx fun ds ρ2 => ka (d :: ds) ρ2) : dCons τ τr ρ kx ka := h
theorem x_cnt {n : Nat} (h : τl ρ kx fun ds ρ' => ds.length = n ∧ ka ds ρ') : DL.cnt n τl ρ kx ka := h
theorem x_and' (e : A) (h : B) : A ∧ B := ⟨e, h⟩
theorem x_tup (h : τl ρ kx fun ds ρ' => ds.length ≤ BIG ∧ k (.tup ds) ρ') : dTup τl ρ kx k := h
theorem x_lst (h : τl ρ kx fun ds ρ' => ds.length ≤ BIG ∧ kv (.own ds) ρ') : vLst τl ρ kx kv := h
theorem x_dct (h : kv (.dct []) ρ) : vDct ρ kx kv := h
theorem x_fz (h : τs ρ kx fun s ρ' => k s.toD ρ') : dFz τs ρ kx k := h
theorem x_val (h : τ ρ kx fun d ρ' => kv (.val d) ρ') : vVal τ ρ kx kv := h
theorem x_call {idx : List Nat} {dds : List D} (h : τl ρ kx fun ds ρ1 => τk ρ1 kx fun ks ρ2 => m (pickD idx (ds ++ dds ++ ks)) (fun x => kx x ρ2) fun d => k d ρ2) : dCall m idx dds τl τk ρ kx k := h
theorem x_pick {idx : List Nat} {as : List D} {kx : XD → Prop} {k : D → Prop} (e : pickD idx ds = as) (h : m as kx k) : m (pickD idx ds) kx k := e ▸ h
theorem x_bc {g : GC} (h : τl ρ kx fun ds ρ' => g ds fun d => k d ρ') : dBC g τl ρ kx k := h
theorem x_min2 {i j : Int} (h : kd (.int (min i j))) : cMin2 [.int i, .int j] kd := h
theorem x_max2 {i j : Int} (h : kd (.int (max i j))) : cMax2 [.int i, .int j] kd := h
theorem x_next (h : n ρ) : sNext ρ kx ⟨n, r, b, c⟩ := h
theorem x_brk (h : b ρ) : sBrk ρ kx ⟨n, r, b, c⟩ := h
theorem x_cont (h : c ρ) : sCnt ρ kx ⟨n, r, b, c⟩ := h
theorem x_seq (h : t ρ kx ⟨fun ρ' => u ρ' kx ⟨n, r, b, c⟩, r, b, c⟩) : sSeq t u ρ kx ⟨n, r, b, c⟩ := h
theorem x_drop (h : τ ρ kx fun _ ρ' => n ρ') : sDrop τ ρ kx ⟨n, r, b, c⟩ := h
theorem x_ret (h : τ ρ kx r) : sRet τ ρ kx ⟨n, r, b, c⟩ := h
theorem x_retN (h : r .non ρ) : sRetN ρ kx ⟨n, r, b, c⟩ := h
theorem x_if (h : ta ρ kx fun b' ρ' => if b' = true then t ρ' kx ⟨n, r, b, c⟩ else u ρ' kx ⟨n, r, b, c⟩) : sIf ta t u ρ kx ⟨n, r, b, c⟩ := h
theorem x_asg (h : τs ρ kx fun s ρ' => n (ρ'.set i s)) : sAsg i τs ρ kx ⟨n, r, b, c⟩ := h
theorem x_set (e : ρ.set i s = ρ') (h : n ρ') : n (ρ.set i s) := e ▸ h
theorem x_asgT (h : τ ρ kx fun d ρ' => γ d ρ' n) : sAsgT γ τ ρ kx ⟨n, r, b, c⟩ := h
theorem x_gN (e : ρ.set i (.val d) = ρ') (h : n ρ') : gN i d ρ n := by unfold gN; rw [e]; exact h
theorem x_gsN (h : n ρ) : gsN [] ρ n := ⟨rfl, h⟩
theorem x_gsC (h : γ d ρ fun ρ1 => γs ds ρ1 n) : gsC γ γs (d :: ds) ρ n := h
theorem x_gT {m : Nat} (e : ds.length = m) (h : γs ds ρ n) : gT m γs (.tup ds) ρ n := ⟨e, h⟩
theorem x_mNil (h : km [] ρ) : mNil ρ kx km := h
theorem x_mCons (h : τs ρ kx fun s ρ1 => τm ρ1 kx fun ss ρ2 => km (s :: ss) ρ2) : mCons τs τm ρ kx km := h
theorem x_par {is : List Nat} (h : τm ρ kx fun ss ρ' => ss.length = is.length ∧ n (setS ρ' is ss)) : sPar is τm ρ kx ⟨n, r, b, c⟩ := h
theorem x_setS {is : List Nat} {ss : List S} (e : setS ρ is ss = ρ') (h : n ρ') : n (setS ρ is ss) := e ▸ h
theorem x_for (h : τi ρ kx fun ds ρ' => forD γ t ds ρ' kx ⟨n, r, b, c⟩) : sFor τi γ t ρ kx ⟨n, r, b, c⟩ := h
theorem x_rg1' (h : τ ρ kx fun d ρ' => match d with | .int j => (-1000000 ≤ j ∧ j ≤ 1000000) ∧ ka (rng 0 j.toNat) ρ' | _ => False) : iRg1 (dCons τ dNil) ρ kx ka := by
  unfold iRg1 dCons dNil
  have e : (fun (d : D) (ρ' : Rho) => match d with | .int j => (-1000000 ≤ j ∧ j ≤ 1000000) ∧ ka (rng 0 j.toNat) ρ' | _ => False) = (fun (d : D) (ρ' : Rho) => match [d] with | [.int j] => (-1000000 ≤ j ∧ j ≤ 1000000) ∧ ka (rng 0 j.toNat) ρ' | _ => False) := by
    funext d ρ'
    cases d <;> rfl
  rw [e] at h
  exact h
theorem x_draw {ns : List Int} {N : Int} {kx : XD → Prop} (h0 : 0 < N ∧ N < 100000) (h : ∀ v : Int, 0 ≤ v → v < N → kd (.int v)) : drawM [.scr ns, .town, .int N] kx kd := ⟨h0, h⟩
theorem x_for_ind (I : List D → Rho → Prop) (h0 : I ds ρ) (hn : ∀ ρ, I [] ρ → n ρ) (hs : ∀ d ds ρ (P : Rho → Prop), I (d :: ds) ρ → (∀ ρ', I ds ρ' → P ρ') → γ d ρ fun ρ1 => t ρ1 kx ⟨P, r, n, P⟩) : forD γ t ds ρ kx ⟨n, r, b, c⟩ := by
  induction ds generalizing ρ with
  | nil => exact hn ρ h0
  | cons d ds ih => exact hs d ds ρ _ h0 fun ρ' q => ih q
theorem x_for_rng (I : Nat → Rho → Prop) {lo : Int} {N : Nat} (h0 : I 0 ρ) (hn : ∀ ρ, I N ρ → n ρ) (hs : ∀ (i : Nat) ρ (P : Rho → Prop), i < N → I i ρ → (∀ ρ', I (i + 1) ρ' → P ρ') → γ (.int (lo + i)) ρ fun ρ1 => t ρ1 kx ⟨P, r, n, P⟩) : forD γ t (rng lo N) ρ kx ⟨n, r, b, c⟩ := by
  have key : ∀ (m j : Nat) (ρ : Rho), j + m = N → I j ρ → forD γ t ((List.range' j m).map fun i => D.int (lo + (i : Nat))) ρ kx ⟨n, r, b, c⟩ := by
    intro m
    induction m with
    | zero => intro j ρ e h; exact hn ρ (by rw [← e]; exact h)
    | succ m ih => intro j ρ e h; exact hs j ρ _ (by omega) h fun ρ' q => ih (j + 1) ρ' (by omega) q
  unfold rng
  rw [List.range_eq_range']
  exact key N 0 ρ (by omega) h0
def testK (kt : Bool → Rho → Prop) : KE := fun d ρ' => match d with | .bl b => kt b ρ' | _ => False
theorem x_dtestK (h : τ ρ kx (testK kt)) : dTest τ ρ kx kt := h
theorem x_testK {b : Bool} (h : kt b ρ) : testK kt (.bl b) ρ := h
def rg1K (ka : List D → Rho → Prop) : List D → Rho → Prop := fun ds ρ' => match ds with
  | [.int j] => (-1000000 ≤ j ∧ j ≤ 1000000) ∧ ka (rng 0 j.toNat) ρ'
  | _ => False
def rg2K (ka : List D → Rho → Prop) : List D → Rho → Prop := fun ds ρ' => match ds with
  | [.int i, .int j] => (-1000000 ≤ i ∧ i ≤ 1000000 ∧ -1000000 ≤ j ∧ j ≤ 1000000 ∧ j - i ≤ 1000000) ∧ ka (rng i (j - i).toNat) ρ'
  | _ => False
theorem x_rg1 (h : τl ρ kx (rg1K ka)) : iRg1 τl ρ kx ka := h
theorem x_rg2 (h : τl ρ kx (rg2K ka)) : iRg2 τl ρ kx ka := h
theorem x_rg1K {j : Int} (e : -1000000 ≤ j ∧ j ≤ 1000000) (h : ka (rng 0 j.toNat) ρ) : rg1K ka [.int j] ρ := ⟨e, h⟩
theorem x_rg2K {i j : Int} (e : -1000000 ≤ i ∧ i ≤ 1000000 ∧ -1000000 ≤ j ∧ j ≤ 1000000 ∧ j - i ≤ 1000000) (h : ka (rng i (j - i).toNat) ρ) : rg2K ka [.int i, .int j] ρ := ⟨e, h⟩
def andK (f : Rho → Prop) (k : KE) : KE := fun d ρ' => match d with | .bl c => (if c = true then f ρ' else k (.bl false) ρ') | _ => False
def orK (f : Rho → Prop) (k : KE) : KE := fun d ρ' => match d with | .bl c => (if c = true then k (.bl true) ρ' else f ρ') | _ => False
def notK (k : KE) : KE := fun d ρ' => match d with | .bl c => k (.bl (!c)) ρ' | _ => False
theorem x_andV (h : τa ρ kx (andK (fun ρ' => τb ρ' kx k) k)) : dAndV τa τb ρ kx k := h
theorem x_orV (h : τa ρ kx (orK (fun ρ' => τb ρ' kx k) k)) : dOrV τa τb ρ kx k := h
theorem x_notV (h : τa ρ kx (notK k)) : dNotV τa ρ kx k := h
theorem x_andK {c : Bool} {f : Rho → Prop} (h : if c = true then f ρ else k (.bl false) ρ) : andK f k (.bl c) ρ := h
theorem x_orK {c : Bool} {f : Rho → Prop} (h : if c = true then k (.bl true) ρ else f ρ) : orK f k (.bl c) ρ := h
theorem x_notK {c : Bool} (h : k (.bl (!c)) ρ) : notK k (.bl c) ρ := h
def lens (n : Nat) (ka : List D → Rho → Prop) : List D → Rho → Prop := fun ds ρ' => ds.length = n ∧ ka ds ρ'
theorem x_cntK {n : Nat} (h : τl ρ kx (lens n ka)) : DL.cnt n τl ρ kx ka := h
theorem x_lens (e : ds.length = i) (h : ka ds ρ) : lens i ka ds ρ := ⟨e, h⟩
def tupK (k : KE) : List D → Rho → Prop := fun ds ρ' => ds.length ≤ BIG ∧ k (.tup ds) ρ'
theorem x_tupK (h : τl ρ kx (tupK k)) : dTup τl ρ kx k := h
theorem x_tupD (e : ds.length ≤ BIG) (h : k (.tup ds) ρ) : tupK k ds ρ := ⟨e, h⟩
def lstK (k : KV) : List D → Rho → Prop := fun ds ρ' => ds.length ≤ BIG ∧ k (.own ds) ρ'
theorem x_lstK (h : τl ρ kx (lstK kv)) : vLst τl ρ kx kv := h
theorem x_lstD (e : ds.length ≤ BIG) (h : kv (.own ds) ρ) : lstK kv ds ρ := ⟨e, h⟩
def parK (is : List Nat) (n : Rho → Prop) : List S → Rho → Prop := fun ss ρ' => ss.length = is.length ∧ n (setS ρ' is ss)
theorem x_parK {is : List Nat} (h : τm ρ kx (parK is n)) : sPar is τm ρ kx ⟨n, r, b, c⟩ := h
theorem x_parD {is : List Nat} {ss : List S} (e1 : ss.length = is.length) (e : setS ρ is ss = ρ') (h : n ρ') : parK is n ss ρ := ⟨e1, e ▸ h⟩
def setK (i : Nat) (n : Rho → Prop) : KV := fun s ρ' => n (ρ'.set i s)
theorem x_asgK (h : τs ρ kx (setK i n)) : sAsg i τs ρ kx ⟨n, r, b, c⟩ := h
theorem x_setK (e : ρ.set i s = ρ') (h : n ρ') : setK i n s ρ := by unfold setK; rw [e]; exact h
def callK (m : FD) (idx : List Nat) (dds ds : List D) (kx : KX) (k : KE) : List D → Rho → Prop := fun ks ρ2 => m (pickD idx (ds ++ dds ++ ks)) (fun x => kx x ρ2) fun d => k d ρ2
theorem x_callK {idx : List Nat} {dds : List D} (h : τl ρ kx fun ds ρ1 => τk ρ1 kx (callK m idx dds ds kx k)) : dCall m idx dds τl τk ρ kx k := h
theorem x_callD {idx : List Nat} {dds ks as : List D} (e : pickD idx (ds ++ dds ++ ks) = as) (h : m as (fun x => kx x ρ) fun d => k d ρ) : callK m idx dds ds kx k ks ρ := by unfold callK; rw [e]; exact h
def nxK (k : D → Prop) : Rho → Prop := fun _ => k .non
theorem x_fn {kx : XD → Prop} {k : D → Prop} {N : Nat} (e : startR N ds = ρ) (h : t ρ (fun x _ => kx x) ⟨fun _ => k .non, fun d _ => k d, fun _ => False, fun _ => False⟩) : fnm N t ds kx k := by unfold fnm; rw [e]; exact h
end
theorem relInt {i : Int} {t : Nat} : RelV (.int i) (.int i t) := ⟨t, rfl⟩
theorem relStr {x : Str} {t : Nat} : RelV (.str x) (.str x t) := ⟨t, rfl⟩
theorem relBl {b : Bool} : RelV (.bl b) (.bool b) := rfl
theorem relNon : RelV .non .none := rfl
end DL

set_option maxHeartbeats 4000000
namespace L17
open PySem PySem.Spec PyProof.Rows L2 DL
def top (i : Nat) : Stmt := PySem.Challenge.pw_strokesgiven_k17_whole_held.main.body.getD i (.Pass ⟨0, 0, 0, 0⟩)
/-! the draw, the beginning -/
abbrev s_draw : Stmt := top 5
abbrev N_draw : List Str := ["_law_script", "_law_town", "_law_many", "_law_at", "_law_rest", "_law_number"]
abbrev ps_draw : List Str := ["_law_script", "_law_town", "_law_many"]
theorem sc_draw : FnScope N_draw ps_draw (defScope s_draw) := ⟨rfl, rfl, rfl, by decide +kernel, rfl, by decide +kernel, by decide +kernel⟩
theorem draw_len {vs : List V} {ns : List Int} (h : (!(ns.map V.int).isEmpty) = true) : ns ≠ [] := by
  intro z; subst z; simp at h
section
variable {P : Program} {w : World} {K : PySem.W.Frag} {mg : Str → Option Value} {base : Heap}
theorem ok_draw {fa : Addr} {fd : FuncData} (F : FunD K "_law_draw" "_law_draw" (defArgs s_draw) (defBody s_draw) (defScope s_draw) [] [] fa fd) (lenN : mg "len" = none) : FnOk P w K mg base (L2.CX P w) 1 fa fd ps_draw (SpD K mg 3 drawM) := by
  refine F.ok sc_draw (fun vs H Q E h => h.1) fun cdv A outer s H vs Q E hr h => ?_
  obtain ⟨hl, W, Fx, ds, kx, kk, wok, dv, hm, hQ, _⟩ := h
  have hu := hu_of hr
  match ds, hm, dv with
  | [.scr ns, .town, .int n], hm, dv =>
    obtain ⟨⟨hn0, hn1⟩, hk⟩ := hm
    simp only [DVs, DV] at dv
    obtain ⟨_, _, e1, ⟨sa, e2, hS, lS⟩, _, _, e3, ⟨ta, tr, e4, hT⟩, _, _, e5, e6, e7⟩ := dv
    subst e2 e4 e6 e7 e5 e3 e1
    obtain ⟨tn, c, kvs, h1, h2, _, h3, h4⟩ := (wok.t _ hT).1
    have hS0 : SqL K H sa (ns.map V.int) := seqL_mono wok.g hS
    have ntr : tr ≠ ta := Ne.symm tn
    have rs : Rests kvs := ⟨h3, h4⟩
    -- the script is none of the town's dicts
    have keepS : ∀ {H' : Hp}, (∀ b, b ≠ ta → b ≠ tr → H' b = H b) → SqL K H' sa (ns.map V.int) := fun {H'} hb => by
      obtain ⟨_, g1, g2, _, _⟩ := wok.t _ hT
      have ne : ∀ {o : HO}, W.G sa = some o → sa ≠ ta ∧ sa ≠ tr := fun e => ⟨(fun z => by rw [z, g1] at e; cases e), (fun z => by rw [z, g2] at e; cases e)⟩
      rcases hS with (z | ⟨o, z⟩) | z
      · exact .inl (.inl ((hb sa (ne z).1 (ne z).2).trans (wok.g _ _ z)))
      · exact .inl (.inr ⟨o, (hb sa (ne z).1 (ne z).2).trans (wok.g _ _ z)⟩)
      · exact .inr z
    let H1 : Hp := upd H ta (.dK (tk (c + 1) tr))
    have a1 : H1 ta = some (.dK (tk (c + 1) tr)) := upd_same
    have a2 : H1 tr = some (.dK kvs) := (upd_ne ntr).trans h2
    have aS : SqL K H1 sa (ns.map V.int) := keepS fun b b1 _ => upd_ne b1
    have done : ∀ (H' : Hp) (kvs' : List (Key × V)) (v : Int), Rests kvs' → H' ta = some (.dK (tk (c + 1) tr)) → H' tr = some (.dK kvs') → (∀ b, b ≠ ta → b ≠ tr → H' b = H b) → 0 ≤ v → v < n → Q (.int v) H' := fun H' kvs' v rs' b1 b2 b3 v0 v1 =>
      hQ (.int v) (.int v) H' W (hk v v0 v1) (Wd.le.refl W) (wok.town hT b3 (townAt_of tn b1 b2 rs'.1 rs'.2)) (by simp only [DV])
    refine ⟨_, (pss_cons (ps_dput hu (pv 1) pe_str (pe_op op_add (pe_dget hu (pv 1) pe_str (fun _ _ => rfl)) pe_int) rfl)
      (pss_cons (ps_set (i := 3) sc_draw.nd rfl (Or.inl rfl) (pe_ifExp (pt_truth (pv 0) (by intro _; rfl)) (pe_op op_mod (pe_dget hu (pv 1) pe_str (fun _ _ => rfl)) (pe_callB call_len (by rfl) lenN PySem.boot_len (pa_cons (pv 0) pa_nil))) pe_int))
      (pss_cons (ps_set (i := 4) sc_draw.nd rfl (Or.inl rfl) (pe_dget2 hu (pe_dget hu (pv 1) pe_str (fun _ _ => rfl)) (pv 3) (pe_ifExp (pt_truth (pv 0) (by intro _; rfl)) (pe_ix ix_list (pv 0) (pv 3) (fun _ _ => rfl)) pe_int) ⟨rfl, rfl, rfl, rfl⟩))
      (pss_cons (ps_if (pt_cmpR op_ge (pv 4) (pe_op op_pow pe_int pe_int) (nomark _))
          (pss_cons (ps_dput hu (pe_dget hu (pv 1) pe_str (fun _ _ => rfl)) (pv 3) (pe_op op_fdivN (pv 4) (pv 2)) rfl)
          (pss_one (ps_ret (pe_op op_mod (pv 4) (pv 2))))) pss_nil)
      (pss_cons (ps_set (i := 5) sc_draw.nd rfl (Or.inl rfl) (pe_op op_mod (pe_op op_add (pv 4) (pe_op op_mul pe_int (pe_dget hu (pv 1) pe_str (fun _ _ => rfl)))) pe_int))
      (pss_cons (ps_set (i := 5) sc_draw.nd rfl (Or.inl rfl) (pe_op op_mod (pe_op op_pow (pv 5) pe_int) pe_int))
      (pss_one (ps_ret (pe_op op_mod (pe_op op_fdivN (pe_op op_mod (pe_op op_add (pe_op op_mul (pe_op op_fdivN (pv 5) pe_int) pe_int) (pv 5)) pe_int) pe_int) (pv 2)))))))))), ?_⟩
    refine ⟨_, rfl, ta, _, rfl, (by have q := DGet.k (k := kCount) h1; rw [show valV ([(kCount, V.int c), (kRests, V.ref tr)] : List (Key × V)) kCount = some (.int c) from tk_count c tr] at q; exact q), _, _, rfl, rfl, _, rfl, ta, _, rfl,
      (by have q := DPut.k (k := kCount) (v := V.int (c + 1)) h1 (by show 2 < sizeLine; rw [sizeLine_eq]; decide); rw [show putK ([(kCount, V.int c), (kRests, V.ref tr)] : List (Key × V)) kCount (.int (c + 1)) = tk (c + 1) tr from tk_put c (c + 1) tr] at q; exact q), ?_⟩
    have gC : DGet H1 ta (.str "count") (some (.int (c + 1))) := by have q := DGet.k (k := kCount) a1; rw [tk_count] at q; exact q
    have gR : DGet H1 ta (.str "rests") (some (.ref tr)) := by have q := DGet.k (k := kRests) a1; rw [tk_rests] at q; exact q
    -- from a place and a rest on
    have tail : ∀ (i m : Int), 0 ≤ i → i < 64 → ∀ σ : L2.St, σ[0]? = some (some (.ref sa)) → σ[1]? = some (some (.ref ta)) → σ[2]? = some (some (.int n)) → σ[3]? = some (some (.int i)) → σ[4]? = some (some (.int m)) → σ.length = 6 →
        tSeq (tIfS (tTest (tOp (rI0 fun i j => .bl (decide (j ≤ i))) (tVar 4) (tOp (rI CPow fun i j => .int (i ^ j.toNat)) (tC (.int 10)) (tC (.int 18)))))
          (tSeq (sDPut (tDGet (tVar 1) (tC (.str "rests"))) (tVar 3) (tOp (rI CDivN fun i j => .int (i.fdiv j)) (tVar 4) (tVar 2))) (tRet (tOp (rI (fun _ j => 0 < j) fun i j => .int (i % j)) (tVar 4) (tVar 2)))) tNext)
          (tSeq (tAsg (tOp (rI (fun _ j => 0 < j) fun i j => .int (i % j)) (tOp (rI0 fun i j => .int (i + j)) (tVar 4) (tOp (rI CMul fun i j => .int (i * j)) (tC (.int 104729)) (tDGet (tVar 1) (tC (.str "count"))))) (tC (.int 4294967291))) (gName 5))
          (tSeq (tAsg (tOp (rI (fun _ j => 0 < j) fun i j => .int (i % j)) (tOp (rI CPow fun i j => .int (i ^ j.toNat)) (tVar 5) (tC (.int 5))) (tC (.int 4294967279))) (gName 5))
          (tRet (tOp (rI (fun _ j => 0 < j) fun i j => .int (i % j)) (tOp (rI CDivN fun i j => .int (i.fdiv j)) (tOp (rI (fun _ j => 0 < j) fun i j => .int (i % j)) (tOp (rI0 fun i j => .int (i + j)) (tOp (rI CMul fun i j => .int (i * j)) (tOp (rI CDivN fun i j => .int (i.fdiv j)) (tVar 5) (tC (.int 64))) (tC (.int 69621))) (tVar 5)) (tC (.int 4294967231))) (tC (.int 8))) (tVar 2)))))
          { nx := fun _ H' => Q .non H', rt := Q } σ H1 := by
      intro i m i0 i1 σ s0 s1 s2 s3 s4 sl
      refine ⟨_, s4, _, _, rfl, rfl, (by unfold CPow; decide), _, _, rfl, rfl, _, rfl, ite2 (fun _ => ?_) (fun _ => ?_)⟩
      · refine ⟨_, s4, _, s2, _, _, rfl, rfl, ⟨by omega, by omega⟩, _, s1, ta, _, rfl, gR, _, s3, tr, _, rfl, DPut.k (k := Sum.inl i) a2 (by have := rs.len; rw [sizeLine_eq]; omega), ?_⟩
        refine ⟨_, s4, _, s2, _, _, rfl, rfl, hn0, ?_⟩
        exact done _ (putK kvs (Sum.inl i) (.int (m.fdiv n))) _ (rs.put i0 i1) ((upd_ne tn).trans a1) upd_same (fun b b1 b2 => (upd_ne b2).trans (upd_ne b1)) (emod_lt' m hn0).1 (emod_lt' m hn0).2
      · refine ⟨_, s4, _, s1, ta, _, rfl, gC, _, _, rfl, rfl, (.inl ⟨by decide, by decide⟩), _, _, rfl, rfl, _, _, rfl, rfl, (by show (0 : Int) < 4294967291; decide), ?_⟩
        have r1 := emod_lt' (m + 104729 * (c + 1)) (n := 4294967291) (by decide)
        have t5 : (σ.set 5 (some (V.int ((m + 104729 * (c + 1)) % 4294967291))))[5]? = some (some (.int ((m + 104729 * (c + 1)) % 4294967291))) := List.getElem?_set_self (by rw [sl]; decide)
        refine ⟨_, t5, _, _, rfl, rfl, ⟨by decide, by decide, (by show ((m + 104729 * (c + 1)) % 4294967291).natAbs < 2 ^ 64; omega)⟩, _, _, rfl, rfl, (by show (0 : Int) < 4294967279; decide), ?_⟩
        have u5 : ((σ.set 5 (some (V.int ((m + 104729 * (c + 1)) % 4294967291)))).set 5 (some (V.int (((m + 104729 * (c + 1)) % 4294967291) ^ (5 : Int).toNat % 4294967279))))[5]? = some (some (.int (((m + 104729 * (c + 1)) % 4294967291) ^ (5 : Int).toNat % 4294967279))) := List.getElem?_set_self (by rw [List.length_set, sl]; decide)
        have u2 : ((σ.set 5 (some (V.int ((m + 104729 * (c + 1)) % 4294967291)))).set 5 (some (V.int (((m + 104729 * (c + 1)) % 4294967291) ^ (5 : Int).toNat % 4294967279))))[2]? = some (some (.int n)) := by rw [List.getElem?_set_ne (by decide), List.getElem?_set_ne (by decide)]; exact s2
        refine ⟨_, u5, _, _, rfl, rfl, ⟨by decide, by decide⟩, _, _, rfl, rfl, (.inr ⟨by decide, by decide⟩), _, u5, _, _, rfl, rfl, _, _, rfl, rfl, (by show (0 : Int) < 4294967231; decide), _, _, rfl, rfl, ⟨by decide, by decide⟩, _, u2, _, _, rfl, rfl, hn0, ?_⟩
        exact done H1 kvs _ rs a1 a2 (fun b b1 _ => upd_ne b1) (emod_lt' _ hn0).1 (emod_lt' _ hn0).2
    have place : 0 ≤ (c + 1) % ((ns.map V.int).length : Nat) ∨ True := .inr trivial
    cases hE : ns with
    | nil =>
      subst hE
      refine ⟨_, rfl, false, .inl ⟨_, aS, rfl⟩, ?_⟩
      refine ⟨_, rfl, ta, _, rfl, gR, tr, rfl, .inl ⟨_, .inl a2⟩, _, rfl, _, rfl, false, .inl ⟨_, aS, rfl⟩, _, DGet.k (k := Sum.inl 0) a2, ?_⟩
      obtain ⟨m, em⟩ := rs.get 0 0
      rw [em]
      exact tail 0 m (by decide) (by decide) _ rfl rfl rfl rfl rfl rfl
    | cons n0 nr =>
      have ne : (!(ns.map V.int).isEmpty) = true := by rw [hE]; rfl
      have lp : 0 < ns.length := by rw [hE]; exact Nat.succ_pos _
      have lI : (0 : Int) < ((ns.map V.int).length : Nat) := by rw [List.length_map]; omega
      have rp := emod_lt' (c + 1) lI
      refine ⟨_, rfl, true, .inl ⟨_, aS, ne.symm⟩, ?_⟩
      refine ⟨_, rfl, ta, _, rfl, gC, _, rfl, _, (ns.map V.int).length, rfl, .inl ⟨_, aS, rfl⟩, _, _, rfl, rfl, lI, ?_⟩
      have lI2 : ((ns.map V.int).length : Int) = ns.length := by rw [List.length_map]
      obtain ⟨j, hj2⟩ : ∃ j : Nat, (c + 1) % ((ns.map V.int).length : Int) = (j : Int) := ⟨((c + 1) % ((ns.map V.int).length : Int)).toNat, by omega⟩
      have hj : j < ns.length := by omega
      have at_ : atI (ns.map V.int) ((j : Nat) : Int) = some (.int ns[j]) := atI_nat (by rw [List.getElem?_map, List.getElem?_eq_getElem hj]; rfl)
      refine ⟨_, rfl, ta, _, rfl, gR, tr, rfl, .inl ⟨_, .inl a2⟩, _, rfl, _, rfl, true, .inl ⟨_, aS, ne.symm⟩, ?_⟩
      refine ⟨_, rfl, _, rfl, sa, _, _, _, rfl, rfl, aS, (by rw [hj2]; exact at_), _, (by show DGet H1 tr (.int ((c + 1) % ((ns.map V.int).length : Int))) _; rw [hj2]; exact DGet.k (k := Sum.inl (j : Int)) a2), ?_⟩
      obtain ⟨m, em⟩ := rs.get (j : Int) ns[j]
      rw [em]
      exact tail ((c + 1) % ((ns.map V.int).length : Int)) m (by omega) (by omega) _ rfl rfl rfl rfl rfl rfl
end

abbrev dv_law_draw : List V := []
abbrev s_law_draw : Stmt := s_draw
abbrev ps_law_draw : List Str := ps_draw
abbrev m_law_draw : FD := drawM
abbrev s_nearest : Stmt := top 1
abbrev N_nearest : List Str := ["top", "bottom"]
abbrev ps_nearest : List Str := ["top", "bottom"]
theorem sc_nearest : FnScope N_nearest ps_nearest (defScope s_nearest) := ⟨rfl, rfl, rfl, by decide +kernel, rfl, by decide +kernel, by decide +kernel⟩
abbrev dv_nearest : List V := []
abbrev s_held : Stmt := top 3
abbrev N_held : List Str := ["new", "low", "soft", "hard", "more"]
abbrev ps_held : List Str := ["new", "low", "soft", "hard"]
theorem sc_held : FnScope N_held ps_held (defScope s_held) := ⟨rfl, rfl, rfl, by decide +kernel, rfl, by decide +kernel, by decide +kernel⟩
abbrev dv_held : List V := [(V.int 30), (V.int 50)]
abbrev s_law_begun : Stmt := top 6
abbrev N_law_begun : List Str := []
abbrev ps_law_begun : List Str := []
theorem sc_law_begun : FnScope N_law_begun ps_law_begun (defScope s_law_begun) := ⟨rfl, rfl, rfl, by decide +kernel, rfl, by decide +kernel, by decide +kernel⟩
abbrev dv_law_begun : List V := []
abbrev s_law_nearest : Stmt := top 7
abbrev N_law_nearest : List Str := ["_law_top", "_law_bottom", "_law_deep"]
abbrev ps_law_nearest : List Str := ["_law_top", "_law_bottom"]
theorem sc_law_nearest : FnScope N_law_nearest ps_law_nearest (defScope s_law_nearest) := ⟨rfl, rfl, rfl, by decide +kernel, rfl, by decide +kernel, by decide +kernel⟩
abbrev dv_law_nearest : List V := []
abbrev s_law_meant : Stmt := top 8
abbrev N_law_meant : List Str := ["_law_fresh", "_law_deep", "_law_mild", "_law_high"]
abbrev ps_law_meant : List Str := ["_law_fresh", "_law_deep", "_law_mild", "_law_high"]
theorem sc_law_meant : FnScope N_law_meant ps_law_meant (defScope s_law_meant) := ⟨rfl, rfl, rfl, by decide +kernel, rfl, by decide +kernel, by decide +kernel⟩
abbrev dv_law_meant : List V := []
abbrev s_law : Stmt := top 9
abbrev N_law : List Str := ["_law_script", "_law_town", "_law_k", "_law_deep", "_law_fresh", "_law_mild", "_law_high", "_law_told", "_law_more"]
abbrev ps_law : List Str := ["_law_script"]
theorem sc_law : FnScope N_law ps_law (defScope s_law) := ⟨rfl, rfl, rfl, by decide +kernel, rfl, by decide +kernel, by decide +kernel⟩
abbrev dv_law : List V := []
structure Txt (K : PySem.W.Frag) (mg : Str → Option Value) where
  a_nearest : Addr
  d_nearest : FuncData
  F_nearest : FunD K "nearest" "nearest" (defArgs s_nearest) (defBody s_nearest) (defScope s_nearest) dv_nearest [] a_nearest d_nearest
  g_nearest : mg "nearest" = some (.ref a_nearest)
  a_held : Addr
  d_held : FuncData
  F_held : FunD K "held" "held" (defArgs s_held) (defBody s_held) (defScope s_held) dv_held [] a_held d_held
  g_held : mg "held" = some (.ref a_held)
  a_law_draw : Addr
  d_law_draw : FuncData
  F_law_draw : FunD K "_law_draw" "_law_draw" (defArgs s_law_draw) (defBody s_law_draw) (defScope s_law_draw) dv_law_draw [] a_law_draw d_law_draw
  g_law_draw : mg "_law_draw" = some (.ref a_law_draw)
  a_law_begun : Addr
  d_law_begun : FuncData
  F_law_begun : FunD K "_law_begun" "_law_begun" (defArgs s_law_begun) (defBody s_law_begun) (defScope s_law_begun) dv_law_begun [] a_law_begun d_law_begun
  g_law_begun : mg "_law_begun" = some (.ref a_law_begun)
  a_law_nearest : Addr
  d_law_nearest : FuncData
  F_law_nearest : FunD K "_law_nearest" "_law_nearest" (defArgs s_law_nearest) (defBody s_law_nearest) (defScope s_law_nearest) dv_law_nearest [] a_law_nearest d_law_nearest
  g_law_nearest : mg "_law_nearest" = some (.ref a_law_nearest)
  a_law_meant : Addr
  d_law_meant : FuncData
  F_law_meant : FunD K "_law_meant" "_law_meant" (defArgs s_law_meant) (defBody s_law_meant) (defScope s_law_meant) dv_law_meant [] a_law_meant d_law_meant
  g_law_meant : mg "_law_meant" = some (.ref a_law_meant)
  a_law : Addr
  d_law : FuncData
  F_law : FunD K "law" "law" (defArgs s_law) (defBody s_law) (defScope s_law) dv_law [] a_law d_law
  g_law : mg "law" = some (.ref a_law)
  n_len : mg "len" = none
  n_max : mg "max" = none
  n_min : mg "min" = none
  n_range : mg "range" = none
section
variable {P : Program} {w : World} {K : PySem.W.Frag} {mg : Str → Option Value} {base : Heap}
theorem dd_held (W : Wd) : DVs K mg W [(D.int 30), (D.int 50)] dv_held := by simp [DVs, DV]
theorem b_nearest_0 (T : Txt K mg) : BindD K T.d_nearest ps_nearest 2 [] [0, 1] [] := bind_all T.F_nearest 2 [] [0, 1] rfl (fun _ _ _ _ _ _ us ws l0 l2 => match us, ws, l0, l2 with | [_, _], [], _, _ => rfl)
theorem b_law_nearest_0 (T : Txt K mg) : BindD K T.d_law_nearest ps_law_nearest 2 [] [0, 1] [] := bind_all T.F_law_nearest 2 [] [0, 1] rfl (fun _ _ _ _ _ _ us ws l0 l2 => match us, ws, l0, l2 with | [_, _], [], _, _ => rfl)
theorem b_law_draw_0 (T : Txt K mg) : BindD K T.d_law_draw ps_law_draw 3 [] [0, 1, 2] [] := bind_all T.F_law_draw 3 [] [0, 1, 2] rfl (fun _ _ _ _ _ _ us ws l0 l2 => match us, ws, l0, l2 with | [_, _, _], [], _, _ => rfl)
theorem b_held_0 (T : Txt K mg) : BindD K T.d_held ps_held 4 [] [0, 1, 2, 3] dv_held := bind_def T.F_held (by decide) 4 [] [0, 1, 2, 3] rfl (fun _ _ _ _ _ _ _ us its ws l0 l1 l2 => match us, its, ws, l0, l1, l2 with | [_, _, _, _], [_, _], [], _, _, _ => ⟨_, rfl, rfl⟩)
theorem b_law_meant_0 (T : Txt K mg) : BindD K T.d_law_meant ps_law_meant 4 [] [0, 1, 2, 3] [] := bind_all T.F_law_meant 4 [] [0, 1, 2, 3] rfl (fun _ _ _ _ _ _ us ws l0 l2 => match us, ws, l0, l2 with | [_, _, _, _], [], _, _ => rfl)
theorem b_held_1 (T : Txt K mg) : BindD K T.d_held ps_held 2 [] [0, 1, 2, 3] dv_held := bind_def T.F_held (by decide) 2 [] [0, 1, 2, 3] rfl (fun _ _ _ _ _ _ _ us its ws l0 l1 l2 => match us, its, ws, l0, l1, l2 with | [_, _], [_, _], [], _, _, _ => ⟨_, rfl, rfl⟩)
theorem b_held_2 (T : Txt K mg) : BindD K T.d_held ps_held 2 ["hard"] [0, 1, 2, 4] dv_held := bind_def T.F_held (by decide) 2 ["hard"] [0, 1, 2, 4] rfl (fun _ _ _ _ _ _ _ us its ws l0 l1 l2 => match us, its, ws, l0, l1, l2 with | [_, _], [_, _], [_], _, _, _ => ⟨_, rfl, rfl⟩)
theorem b_held_3 (T : Txt K mg) : BindD K T.d_held ps_held 0 ["low", "new", "hard", "soft"] [3, 2, 5, 4] dv_held := bind_def T.F_held (by decide) 0 ["low", "new", "hard", "soft"] [3, 2, 5, 4] rfl (fun _ _ _ _ _ _ _ us its ws l0 l1 l2 => match us, its, ws, l0, l1, l2 with | [], [_, _], [_, _, _, _], _, _, _ => ⟨_, rfl, rfl⟩)
theorem ok_law_draw (T : Txt K mg) : FnOk P w K mg base (L2.CX P w) 1 T.a_law_draw T.d_law_draw ps_law_draw (SpD K mg 3 drawM) := ok_draw T.F_law_draw T.n_len
def body_nearest : TDS :=
  (sRet (dOp gDiv (dOp gAdd (dOp gMult (dC (D.int 2)) (dVar 0)) (dVar 1)) (dOp gMult (dC (D.int 2)) (dVar 1))))
def m_nearest : FD := fnm 2 body_nearest
theorem go_nearest {x0 x1 : D} {kx : XD → Prop} {k : D → Prop} (h : body_nearest [.val x0, .val x1] (fun x _ => kx x) ⟨fun _ => k .non, fun d _ => k d, fun _ => False, fun _ => False⟩) : m_nearest [x0, x1] kx k := h
theorem ok_nearest (T : Txt K mg) : FnOk P w K mg base (L2.CX P w) 1 T.a_nearest T.d_nearest ps_nearest (SpD K mg ps_nearest.length m_nearest) := fn_d T.F_nearest sc_nearest fun cdv A outer s H E hr =>
  (bd_one (sd_ret (pd_div (pd_add (pd_mult pd_int (pd_var 0)) (pd_var 1)) (pd_mult pd_int (pd_var 1)))))
def body_held : TDS :=
  (sSeq (sAsg 4 (vVal (dOp gSub (dOp gSub (dVar 0) (dVar 1)) (dVar 2))))
  (sSeq (sIf (dTest (dOp gLeI (dVar 4) (dC (D.int 0)))) (sRet (dVar 0)) sNext)
  (sRet (dOp gAdd (dVar 1) (dBC cMin2 (dCons (dVar 3) (dCons (dOp gAdd (dVar 2) (dCall m_nearest [0, 1] [] (cnt 2 (dCons (dVar 4) (dCons (dC (D.int 2)) dNil))) dNil)) dNil)))))))
def m_held : FD := fnm 5 body_held
theorem go_held {x0 x1 x2 x3 : D} {kx : XD → Prop} {k : D → Prop} (h : body_held [.val x0, .val x1, .val x2, .val x3, .un] (fun x _ => kx x) ⟨fun _ => k .non, fun d _ => k d, fun _ => False, fun _ => False⟩) : m_held [x0, x1, x2, x3] kx k := h
theorem ok_held (T : Txt K mg) : FnOk P w K mg base (L2.CX P w) 2 T.a_held T.d_held ps_held (SpD K mg ps_held.length m_held) := fn_d T.F_held sc_held fun cdv A outer s H E hr =>
  (bd_cons (sd_asg 4 sc_held.nd rfl (.inl rfl) (PEd.v (pd_sub (pd_sub (pd_var 0) (pd_var 1)) (pd_var 2))))
  (bd_cons (sd_if (td_cmp op_le od_leI (pd_var 4) pd_int (nomark _)) (bd_one (sd_ret (pd_var 0))) bd_nil)
  (bd_one (sd_ret (pd_add (pd_var 1) (pd_bc (call_min2 rfl) cd_min2 rfl T.n_min (by decide +kernel) (ad_cons (pd_var 3) (ad_cons (pd_add (pd_var 2) (pd_call (ok_nearest T) (hr.mono (by decide)) rfl T.g_nearest T.F_nearest.kp (b_nearest_0 T) (fun _ => dvs_nil) (ad_cons (pd_var 4) (ad_cons pd_int ad_nil)))) ad_nil))))))))
theorem ok_law_begun (T : Txt K mg) : FnOk P w K mg base (L2.CX P w) 1 T.a_law_begun T.d_law_begun [] SpB := by
  refine T.F_law_begun.ok sc_law_begun (fun vs H Q E h => by rw [h.1]; rfl) fun cdv A outer s H vs Q E hr h => ?_
  exact ⟨_, pss_one (ps_ret (pe_disp (pps_cons pe_str pe_int (pps_cons pe_str pe_dnewK pps_nil)) (by rfl) (by rfl) (fun z => by cases z) (by decide))), begun_read h.2⟩
def body_law_nearest : TDS :=
  (sSeq (sAsg 2 (vVal (dOp gDiv (dVar 0) (dVar 1))))
  (sRet (dIf (dTest (dOp gLt (dOp gMult (dC (D.int 2)) (dOp gSub (dVar 0) (dOp gMult (dVar 2) (dVar 1)))) (dVar 1))) (dVar 2) (dOp gAdd (dVar 2) (dC (D.int 1))))))
def m_law_nearest : FD := fnm 3 body_law_nearest
theorem go_law_nearest {x0 x1 : D} {kx : XD → Prop} {k : D → Prop} (h : body_law_nearest [.val x0, .val x1, .un] (fun x _ => kx x) ⟨fun _ => k .non, fun d _ => k d, fun _ => False, fun _ => False⟩) : m_law_nearest [x0, x1] kx k := h
theorem ok_law_nearest (T : Txt K mg) : FnOk P w K mg base (L2.CX P w) 1 T.a_law_nearest T.d_law_nearest ps_law_nearest (SpD K mg ps_law_nearest.length m_law_nearest) := fn_d T.F_law_nearest sc_law_nearest fun cdv A outer s H E hr =>
  (bd_cons (sd_asg 2 sc_law_nearest.nd rfl (.inl rfl) (PEd.v (pd_div (pd_var 0) (pd_var 1))))
  (bd_one (sd_ret (pd_if (td_lt hr (pd_mult pd_int (pd_sub (pd_var 0) (pd_mult (pd_var 2) (pd_var 1)))) (pd_var 1)) (pd_var 2) (pd_add (pd_var 2) pd_int)))))
def body_law_meant : TDS :=
  (sSeq (sIf (dTest (dOp gLeI (dVar 0) (dOp gAdd (dVar 1) (dVar 2)))) (sRet (dVar 0)) sNext)
  (sRet (dBC cMin2 (dCons (dOp gAdd (dVar 1) (dVar 3)) (dCons (dOp gAdd (dOp gAdd (dVar 1) (dVar 2)) (dCall m_law_nearest [0, 1] [] (cnt 2 (dCons (dOp gSub (dOp gSub (dVar 0) (dVar 1)) (dVar 2)) (dCons (dC (D.int 2)) dNil))) dNil)) dNil)))))
def m_law_meant : FD := fnm 4 body_law_meant
theorem go_law_meant {x0 x1 x2 x3 : D} {kx : XD → Prop} {k : D → Prop} (h : body_law_meant [.val x0, .val x1, .val x2, .val x3] (fun x _ => kx x) ⟨fun _ => k .non, fun d _ => k d, fun _ => False, fun _ => False⟩) : m_law_meant [x0, x1, x2, x3] kx k := h
theorem ok_law_meant (T : Txt K mg) : FnOk P w K mg base (L2.CX P w) 2 T.a_law_meant T.d_law_meant ps_law_meant (SpD K mg ps_law_meant.length m_law_meant) := fn_d T.F_law_meant sc_law_meant fun cdv A outer s H E hr =>
  (bd_cons (sd_if (td_cmp op_le od_leI (pd_var 0) (pd_add (pd_var 1) (pd_var 2)) (nomark _)) (bd_one (sd_ret (pd_var 0))) bd_nil)
  (bd_one (sd_ret (pd_bc (call_min2 rfl) cd_min2 rfl T.n_min (by decide +kernel) (ad_cons (pd_add (pd_var 1) (pd_var 3)) (ad_cons (pd_add (pd_add (pd_var 1) (pd_var 2)) (pd_call (ok_law_nearest T) (hr.mono (by decide)) rfl T.g_law_nearest T.F_law_nearest.kp (b_law_nearest_0 T) (fun _ => dvs_nil) (ad_cons (pd_sub (pd_sub (pd_var 0) (pd_var 1)) (pd_var 2)) (ad_cons pd_int ad_nil)))) ad_nil))))))
def lp_law_1 : TDS :=
  (sSeq (sAsg 3 (vVal (dOp gSub (dCall m_law_draw [0, 1, 2] [] (cnt 3 (dCons (dVar 0) (dCons (dVar 1) (dCons (dC (D.int 640)) dNil)))) dNil) (dC (D.int 99)))))
  (sSeq (sPar [4, 5] (mCons (vVal (dOp gSub (dOp gAdd (dVar 3) (dCall m_law_draw [0, 1, 2] [] (cnt 3 (dCons (dVar 0) (dCons (dVar 1) (dCons (dC (D.int 160)) dNil)))) dNil)) (dC (D.int 40)))) (mCons (vVal (dCall m_law_draw [0, 1, 2] [] (cnt 3 (dCons (dVar 0) (dCons (dVar 1) (dCons (dC (D.int 50)) dNil)))) dNil)) mNil)))
  (sSeq (sAsg 6 (vVal (dOp gAdd (dVar 5) (dCall m_law_draw [0, 1, 2] [] (cnt 3 (dCons (dVar 0) (dCons (dVar 1) (dCons (dC (D.int 30)) dNil)))) dNil))))
  (sSeq (sAsg 7 (vVal (dCall m_held [0, 1, 2, 3] [(D.int 30), (D.int 50)] (cnt 4 (dCons (dVar 4) (dCons (dVar 3) (dCons (dVar 5) (dCons (dVar 6) dNil))))) dNil)))
  (sSeq (sIf (dOr (dTest (dOp gNe (dVar 7) (dCall m_law_meant [0, 1, 2, 3] [] (cnt 4 (dCons (dVar 4) (dCons (dVar 3) (dCons (dVar 5) (dCons (dVar 6) dNil))))) dNil))) (dOr (dTest (dOp gGtI (dVar 7) (dBC cMax2 (dCons (dVar 4) (dCons (dOp gAdd (dVar 3) (dVar 6)) dNil))))) (dTest (dOp gGtI (dVar 7) (dVar 4))))) (sRet (dC (D.bl false))) sNext)
  (sSeq (sIf (dTest (dOp gNe (dCall m_held [0, 1, 2, 3] [(D.int 30), (D.int 50)] (cnt 2 (dCons (dVar 4) (dCons (dVar 3) dNil))) dNil) (dCall m_law_meant [0, 1, 2, 3] [] (cnt 4 (dCons (dVar 4) (dCons (dVar 3) (dCons (dC (D.int 30)) (dCons (dC (D.int 50)) dNil))))) dNil))) (sRet (dC (D.bl false))) sNext)
  (sSeq (sIf (dTest (dOp gNe (dCall m_held [0, 1, 2, 4] [(D.int 30), (D.int 50)] (cnt 2 (dCons (dVar 4) (dCons (dVar 3) dNil))) (cnt 1 (dCons (dC (D.int 90)) dNil))) (dCall m_law_meant [0, 1, 2, 3] [] (cnt 4 (dCons (dVar 4) (dCons (dVar 3) (dCons (dC (D.int 30)) (dCons (dC (D.int 90)) dNil))))) dNil))) (sRet (dC (D.bl false))) sNext)
  (sSeq (sAsg 8 (vVal (dOp gAdd (dVar 4) (dCall m_law_draw [0, 1, 2] [] (cnt 3 (dCons (dVar 0) (dCons (dVar 1) (dCons (dC (D.int 9)) dNil)))) dNil))))
  (sIf (dOr (dTest (dOp gLt (dCall m_held [3, 2, 5, 4] [(D.int 30), (D.int 50)] dNil (cnt 4 (dCons (dVar 3) (dCons (dVar 8) (dCons (dVar 6) (dCons (dVar 5) dNil)))))) (dVar 7))) (dTest (dOp gNe (dCall m_held [0, 1, 2, 3] [(D.int 30), (D.int 50)] (cnt 2 (dCons (dVar 7) (dCons (dVar 7) dNil))) dNil) (dVar 7)))) (sRet (dC (D.bl false))) sNext)))))))))
def t_law : TDS :=
  (sSeq (sFor (iRg1 (dCons (dC (D.int 5)) dNil)) (gN 2) lp_law_1)
  (sRet (dC (D.bl true))))
theorem ok_law (T : Txt K mg) (hτ : ∀ ns : List Int, ns.length ≤ 63 → t_law (rhoL N_law.length ns) nokx KL) : FnOk P w K mg base (L2.CX P w) 3 T.a_law T.d_law ["_law_script"] (spLaw K) := by
  refine fn_law (s0 := (defBody s_law).headD (.Pass ⟨0, 0, 0, 0⟩)) (rest := (defBody s_law).tail) T.F_law sc_law (by decide) hτ fun cdv A outer s H E hr => ⟨?_, ?_⟩
  · exact ps_set (i := 1) sc_law.nd rfl (.inl rfl) (pe_call0 (ok_law_begun T) (hr.mono (by decide)) rfl T.g_law_begun T.F_law_begun.kp (Fun_binds0 T.F_law_begun rfl) .nil passL)
  · exact (bd_cons (sd_for (passes_of rfl) rfl (id_range1 rfl T.n_range (ad_cons pd_int ad_nil)) (gd_name 2 sc_law.nd rfl (.inl rfl)) (bd_cons (sd_asg 3 sc_law.nd rfl (.inl rfl) (PEd.v (pd_sub (pd_call (ok_law_draw T) (hr.mono (by decide)) rfl T.g_law_draw T.F_law_draw.kp (b_law_draw_0 T) (fun _ => dvs_nil) (ad_cons (pd_var 0) (ad_cons (pd_var 1) (ad_cons pd_int ad_nil)))) pd_int)))
  (bd_cons (sd_par2 4 5 rfl sc_law.nd rfl rfl (by decide) rfl rfl (md_cons (PEd.v (pd_sub (pd_add (pd_var 3) (pd_call (ok_law_draw T) (hr.mono (by decide)) rfl T.g_law_draw T.F_law_draw.kp (b_law_draw_0 T) (fun _ => dvs_nil) (ad_cons (pd_var 0) (ad_cons (pd_var 1) (ad_cons pd_int ad_nil))))) pd_int)) (md_cons (PEd.v (pd_call (ok_law_draw T) (hr.mono (by decide)) rfl T.g_law_draw T.F_law_draw.kp (b_law_draw_0 T) (fun _ => dvs_nil) (ad_cons (pd_var 0) (ad_cons (pd_var 1) (ad_cons pd_int ad_nil))))) md_nil)) (by rfl))
  (bd_cons (sd_asg 6 sc_law.nd rfl (.inl rfl) (PEd.v (pd_add (pd_var 5) (pd_call (ok_law_draw T) (hr.mono (by decide)) rfl T.g_law_draw T.F_law_draw.kp (b_law_draw_0 T) (fun _ => dvs_nil) (ad_cons (pd_var 0) (ad_cons (pd_var 1) (ad_cons pd_int ad_nil)))))))
  (bd_cons (sd_asg 7 sc_law.nd rfl (.inl rfl) (PEd.v (pd_call (ok_held T) (hr.mono (by decide)) rfl T.g_held T.F_held.kp (b_held_0 T) (dd_held) (ad_cons (pd_var 4) (ad_cons (pd_var 3) (ad_cons (pd_var 5) (ad_cons (pd_var 6) ad_nil)))))))
  (bd_cons (sd_if (PWd.t (wd_or (td_ne hr (pd_var 7) (pd_call (ok_law_meant T) (hr.mono (by decide)) rfl T.g_law_meant T.F_law_meant.kp (b_law_meant_0 T) (fun _ => dvs_nil) (ad_cons (pd_var 4) (ad_cons (pd_var 3) (ad_cons (pd_var 5) (ad_cons (pd_var 6) ad_nil)))))) (wd_or (td_cmp op_gt od_gtI (pd_var 7) (pd_bc (call_max2 rfl) cd_max2 rfl T.n_max (by decide +kernel) (ad_cons (pd_var 4) (ad_cons (pd_add (pd_var 3) (pd_var 6)) ad_nil))) (nomark _)) (wd_or1 (td_cmp op_gt od_gtI (pd_var 7) (pd_var 4) (nomark _)))))) (bd_one (sd_ret pd_bl)) bd_nil)
  (bd_cons (sd_if (td_ne hr (pd_call (ok_held T) (hr.mono (by decide)) rfl T.g_held T.F_held.kp (b_held_1 T) (dd_held) (ad_cons (pd_var 4) (ad_cons (pd_var 3) ad_nil))) (pd_call (ok_law_meant T) (hr.mono (by decide)) rfl T.g_law_meant T.F_law_meant.kp (b_law_meant_0 T) (fun _ => dvs_nil) (ad_cons (pd_var 4) (ad_cons (pd_var 3) (ad_cons pd_int (ad_cons pd_int ad_nil)))))) (bd_one (sd_ret pd_bl)) bd_nil)
  (bd_cons (sd_if (td_ne hr (pd_callK (ok_held T) (hr.mono (by decide)) rfl T.g_held T.F_held.kp (b_held_2 T) (dd_held) (ad_cons (pd_var 4) (ad_cons (pd_var 3) ad_nil)) (kd_cons pd_int kd_nil)) (pd_call (ok_law_meant T) (hr.mono (by decide)) rfl T.g_law_meant T.F_law_meant.kp (b_law_meant_0 T) (fun _ => dvs_nil) (ad_cons (pd_var 4) (ad_cons (pd_var 3) (ad_cons pd_int (ad_cons pd_int ad_nil)))))) (bd_one (sd_ret pd_bl)) bd_nil)
  (bd_cons (sd_asg 8 sc_law.nd rfl (.inl rfl) (PEd.v (pd_add (pd_var 4) (pd_call (ok_law_draw T) (hr.mono (by decide)) rfl T.g_law_draw T.F_law_draw.kp (b_law_draw_0 T) (fun _ => dvs_nil) (ad_cons (pd_var 0) (ad_cons (pd_var 1) (ad_cons pd_int ad_nil)))))))
  (bd_one (sd_if (PWd.t (wd_or (td_lt hr (pd_callK0 (ok_held T) (hr.mono (by decide)) rfl T.g_held T.F_held.kp (b_held_3 T) (dd_held) (kd_cons (pd_var 3) (kd_cons (pd_var 8) (kd_cons (pd_var 6) (kd_cons (pd_var 5) kd_nil))))) (pd_var 7)) (wd_or1 (td_ne hr (pd_call (ok_held T) (hr.mono (by decide)) rfl T.g_held T.F_held.kp (b_held_1 T) (dd_held) (ad_cons (pd_var 7) (ad_cons (pd_var 7) ad_nil))) (pd_var 7))))) (bd_one (sd_ret pd_bl)) bd_nil)))))))))))
  (bd_one (sd_ret pd_bl)))
end
section
variable {K : PySem.W.Frag} {mg : Str → Option Value}
def mkT {h : Heap} (X : K.In h) (G : h.Ns mainGlobals mg) {f_nearest : Addr} {od_nearest an_nearest : Option Addr} {sl_nearest : Array (Option Value)} {oc_nearest kV_nearest dc_nearest pm_nearest cd_nearest ct_nearest : Value} {f_held : Addr} {od_held an_held : Option Addr} {sl_held : Array (Option Value)} {oc_held kV_held dc_held pm_held cd_held ct_held : Value} {T_held : Addr} {o_held : Obj} {its_held : List Value} {nn_held : Nat} {f_law_draw : Addr} {od_law_draw an_law_draw : Option Addr} {sl_law_draw : Array (Option Value)} {oc_law_draw kV_law_draw dc_law_draw pm_law_draw cd_law_draw ct_law_draw : Value} {f_law_begun : Addr} {od_law_begun an_law_begun : Option Addr} {sl_law_begun : Array (Option Value)} {oc_law_begun kV_law_begun dc_law_begun pm_law_begun cd_law_begun ct_law_begun : Value} {f_law_nearest : Addr} {od_law_nearest an_law_nearest : Option Addr} {sl_law_nearest : Array (Option Value)} {oc_law_nearest kV_law_nearest dc_law_nearest pm_law_nearest cd_law_nearest ct_law_nearest : Value} {f_law_meant : Addr} {od_law_meant an_law_meant : Option Addr} {sl_law_meant : Array (Option Value)} {oc_law_meant kV_law_meant dc_law_meant pm_law_meant cd_law_meant ct_law_meant : Value} {f_law : Addr} {od_law an_law : Option Addr} {sl_law : Array (Option Value)} {oc_law kV_law dc_law pm_law cd_law ct_law : Value}
    (a_nearest : PySem.W.nsIn K mainGlobals "nearest" = some (some (.ref f_nearest)))
    (l_nearest : K.lookup f_nearest = some ⟨oc_nearest, od_nearest, .func (PySem.W.fnOf "nearest" "nearest" (defArgs s_nearest) (defBody s_nearest) (defScope s_nearest) .none kV_nearest dc_nearest pm_nearest an_nearest cd_nearest ct_nearest), sl_nearest⟩)
    (c_nearest : PySem.W.codeIn K cd_nearest "nearest" = true)
    (k_nearest : PySem.W.keepIn K (.ref f_nearest) = true)
    (a_held : PySem.W.nsIn K mainGlobals "held" = some (some (.ref f_held)))
    (l_held : K.lookup f_held = some ⟨oc_held, od_held, .func (PySem.W.fnOf "held" "held" (defArgs s_held) (defBody s_held) (defScope s_held) (.ref T_held) kV_held dc_held pm_held an_held cd_held ct_held), sl_held⟩)
    (c_held : PySem.W.codeIn K cd_held "held" = true)
    (k_held : PySem.W.keepIn K (.ref f_held) = true)
    (t_held : K.lookup T_held = some o_held)
    (u_held : o_held.data = .seq its_held.toArray nn_held)
    (v_held : Vals dv_held its_held)
    (a_law_draw : PySem.W.nsIn K mainGlobals "_law_draw" = some (some (.ref f_law_draw)))
    (l_law_draw : K.lookup f_law_draw = some ⟨oc_law_draw, od_law_draw, .func (PySem.W.fnOf "_law_draw" "_law_draw" (defArgs s_law_draw) (defBody s_law_draw) (defScope s_law_draw) .none kV_law_draw dc_law_draw pm_law_draw an_law_draw cd_law_draw ct_law_draw), sl_law_draw⟩)
    (c_law_draw : PySem.W.codeIn K cd_law_draw "_law_draw" = true)
    (k_law_draw : PySem.W.keepIn K (.ref f_law_draw) = true)
    (a_law_begun : PySem.W.nsIn K mainGlobals "_law_begun" = some (some (.ref f_law_begun)))
    (l_law_begun : K.lookup f_law_begun = some ⟨oc_law_begun, od_law_begun, .func (PySem.W.fnOf "_law_begun" "_law_begun" (defArgs s_law_begun) (defBody s_law_begun) (defScope s_law_begun) .none kV_law_begun dc_law_begun pm_law_begun an_law_begun cd_law_begun ct_law_begun), sl_law_begun⟩)
    (c_law_begun : PySem.W.codeIn K cd_law_begun "_law_begun" = true)
    (k_law_begun : PySem.W.keepIn K (.ref f_law_begun) = true)
    (a_law_nearest : PySem.W.nsIn K mainGlobals "_law_nearest" = some (some (.ref f_law_nearest)))
    (l_law_nearest : K.lookup f_law_nearest = some ⟨oc_law_nearest, od_law_nearest, .func (PySem.W.fnOf "_law_nearest" "_law_nearest" (defArgs s_law_nearest) (defBody s_law_nearest) (defScope s_law_nearest) .none kV_law_nearest dc_law_nearest pm_law_nearest an_law_nearest cd_law_nearest ct_law_nearest), sl_law_nearest⟩)
    (c_law_nearest : PySem.W.codeIn K cd_law_nearest "_law_nearest" = true)
    (k_law_nearest : PySem.W.keepIn K (.ref f_law_nearest) = true)
    (a_law_meant : PySem.W.nsIn K mainGlobals "_law_meant" = some (some (.ref f_law_meant)))
    (l_law_meant : K.lookup f_law_meant = some ⟨oc_law_meant, od_law_meant, .func (PySem.W.fnOf "_law_meant" "_law_meant" (defArgs s_law_meant) (defBody s_law_meant) (defScope s_law_meant) .none kV_law_meant dc_law_meant pm_law_meant an_law_meant cd_law_meant ct_law_meant), sl_law_meant⟩)
    (c_law_meant : PySem.W.codeIn K cd_law_meant "_law_meant" = true)
    (k_law_meant : PySem.W.keepIn K (.ref f_law_meant) = true)
    (a_law : PySem.W.nsIn K mainGlobals "law" = some (some (.ref f_law)))
    (l_law : K.lookup f_law = some ⟨oc_law, od_law, .func (PySem.W.fnOf "law" "law" (defArgs s_law) (defBody s_law) (defScope s_law) .none kV_law dc_law pm_law an_law cd_law ct_law), sl_law⟩)
    (c_law : PySem.W.codeIn K cd_law "law" = true)
    (k_law : PySem.W.keepIn K (.ref f_law) = true)
    (z_len : PySem.W.nsIn K mainGlobals "len" = some none)
    (z_max : PySem.W.nsIn K mainGlobals "max" = some none)
    (z_min : PySem.W.nsIn K mainGlobals "min" = some none)
    (z_range : PySem.W.nsIn K mainGlobals "range" = some none)
    : Txt K mg where
  a_nearest := f_nearest
  d_nearest := _
  F_nearest := ⟨⟨_, _, _, _, _, _, _, _, _, _, rfl, l_nearest, c_nearest, .inl ⟨rfl, rfl⟩, .inl rfl⟩, k_nearest⟩
  g_nearest := PySem.W.mg_of X G a_nearest
  a_held := f_held
  d_held := _
  F_held := ⟨⟨_, _, _, _, _, _, _, _, _, _, rfl, l_held, c_held, .inr ⟨by decide, _, _, _, _, rfl, t_held, u_held, v_held⟩, .inl rfl⟩, k_held⟩
  g_held := PySem.W.mg_of X G a_held
  a_law_draw := f_law_draw
  d_law_draw := _
  F_law_draw := ⟨⟨_, _, _, _, _, _, _, _, _, _, rfl, l_law_draw, c_law_draw, .inl ⟨rfl, rfl⟩, .inl rfl⟩, k_law_draw⟩
  g_law_draw := PySem.W.mg_of X G a_law_draw
  a_law_begun := f_law_begun
  d_law_begun := _
  F_law_begun := ⟨⟨_, _, _, _, _, _, _, _, _, _, rfl, l_law_begun, c_law_begun, .inl ⟨rfl, rfl⟩, .inl rfl⟩, k_law_begun⟩
  g_law_begun := PySem.W.mg_of X G a_law_begun
  a_law_nearest := f_law_nearest
  d_law_nearest := _
  F_law_nearest := ⟨⟨_, _, _, _, _, _, _, _, _, _, rfl, l_law_nearest, c_law_nearest, .inl ⟨rfl, rfl⟩, .inl rfl⟩, k_law_nearest⟩
  g_law_nearest := PySem.W.mg_of X G a_law_nearest
  a_law_meant := f_law_meant
  d_law_meant := _
  F_law_meant := ⟨⟨_, _, _, _, _, _, _, _, _, _, rfl, l_law_meant, c_law_meant, .inl ⟨rfl, rfl⟩, .inl rfl⟩, k_law_meant⟩
  g_law_meant := PySem.W.mg_of X G a_law_meant
  a_law := f_law
  d_law := _
  F_law := ⟨⟨_, _, _, _, _, _, _, _, _, _, rfl, l_law, c_law, .inl ⟨rfl, rfl⟩, .inl rfl⟩, k_law⟩
  g_law := PySem.W.mg_of X G a_law
  n_len := PySem.W.mg_none_of X G z_len
  n_max := PySem.W.mg_none_of X G z_max
  n_min := PySem.W.mg_none_of X G z_min
  n_range := PySem.W.mg_none_of X G z_range
end
theorem all_mk {l : PySem.W.OpenLaw} {w : World} {K : PySem.W.Frag} {h : Heap} {mg : Str → Option Value} {fa : Addr} (X : K.In h) (G : h.Ns mainGlobals mg) (hfa : mg "law" = some (.ref fa)) (hτ : ∀ ns : List Int, ns.length ≤ 63 → t_law (rhoL N_law.length ns) nokx KL)
    {f_nearest : Addr} {od_nearest an_nearest : Option Addr} {sl_nearest : Array (Option Value)} {oc_nearest kV_nearest dc_nearest pm_nearest cd_nearest ct_nearest : Value} {f_held : Addr} {od_held an_held : Option Addr} {sl_held : Array (Option Value)} {oc_held kV_held dc_held pm_held cd_held ct_held : Value} {T_held : Addr} {o_held : Obj} {its_held : List Value} {nn_held : Nat} {f_law_draw : Addr} {od_law_draw an_law_draw : Option Addr} {sl_law_draw : Array (Option Value)} {oc_law_draw kV_law_draw dc_law_draw pm_law_draw cd_law_draw ct_law_draw : Value} {f_law_begun : Addr} {od_law_begun an_law_begun : Option Addr} {sl_law_begun : Array (Option Value)} {oc_law_begun kV_law_begun dc_law_begun pm_law_begun cd_law_begun ct_law_begun : Value} {f_law_nearest : Addr} {od_law_nearest an_law_nearest : Option Addr} {sl_law_nearest : Array (Option Value)} {oc_law_nearest kV_law_nearest dc_law_nearest pm_law_nearest cd_law_nearest ct_law_nearest : Value} {f_law_meant : Addr} {od_law_meant an_law_meant : Option Addr} {sl_law_meant : Array (Option Value)} {oc_law_meant kV_law_meant dc_law_meant pm_law_meant cd_law_meant ct_law_meant : Value} {f_law : Addr} {od_law an_law : Option Addr} {sl_law : Array (Option Value)} {oc_law kV_law dc_law pm_law cd_law ct_law : Value}
    (a_nearest : PySem.W.nsIn K mainGlobals "nearest" = some (some (.ref f_nearest)))
    (l_nearest : K.lookup f_nearest = some ⟨oc_nearest, od_nearest, .func (PySem.W.fnOf "nearest" "nearest" (defArgs s_nearest) (defBody s_nearest) (defScope s_nearest) .none kV_nearest dc_nearest pm_nearest an_nearest cd_nearest ct_nearest), sl_nearest⟩)
    (c_nearest : PySem.W.codeIn K cd_nearest "nearest" = true)
    (k_nearest : PySem.W.keepIn K (.ref f_nearest) = true)
    (a_held : PySem.W.nsIn K mainGlobals "held" = some (some (.ref f_held)))
    (l_held : K.lookup f_held = some ⟨oc_held, od_held, .func (PySem.W.fnOf "held" "held" (defArgs s_held) (defBody s_held) (defScope s_held) (.ref T_held) kV_held dc_held pm_held an_held cd_held ct_held), sl_held⟩)
    (c_held : PySem.W.codeIn K cd_held "held" = true)
    (k_held : PySem.W.keepIn K (.ref f_held) = true)
    (t_held : K.lookup T_held = some o_held)
    (u_held : o_held.data = .seq its_held.toArray nn_held)
    (v_held : Vals dv_held its_held)
    (a_law_draw : PySem.W.nsIn K mainGlobals "_law_draw" = some (some (.ref f_law_draw)))
    (l_law_draw : K.lookup f_law_draw = some ⟨oc_law_draw, od_law_draw, .func (PySem.W.fnOf "_law_draw" "_law_draw" (defArgs s_law_draw) (defBody s_law_draw) (defScope s_law_draw) .none kV_law_draw dc_law_draw pm_law_draw an_law_draw cd_law_draw ct_law_draw), sl_law_draw⟩)
    (c_law_draw : PySem.W.codeIn K cd_law_draw "_law_draw" = true)
    (k_law_draw : PySem.W.keepIn K (.ref f_law_draw) = true)
    (a_law_begun : PySem.W.nsIn K mainGlobals "_law_begun" = some (some (.ref f_law_begun)))
    (l_law_begun : K.lookup f_law_begun = some ⟨oc_law_begun, od_law_begun, .func (PySem.W.fnOf "_law_begun" "_law_begun" (defArgs s_law_begun) (defBody s_law_begun) (defScope s_law_begun) .none kV_law_begun dc_law_begun pm_law_begun an_law_begun cd_law_begun ct_law_begun), sl_law_begun⟩)
    (c_law_begun : PySem.W.codeIn K cd_law_begun "_law_begun" = true)
    (k_law_begun : PySem.W.keepIn K (.ref f_law_begun) = true)
    (a_law_nearest : PySem.W.nsIn K mainGlobals "_law_nearest" = some (some (.ref f_law_nearest)))
    (l_law_nearest : K.lookup f_law_nearest = some ⟨oc_law_nearest, od_law_nearest, .func (PySem.W.fnOf "_law_nearest" "_law_nearest" (defArgs s_law_nearest) (defBody s_law_nearest) (defScope s_law_nearest) .none kV_law_nearest dc_law_nearest pm_law_nearest an_law_nearest cd_law_nearest ct_law_nearest), sl_law_nearest⟩)
    (c_law_nearest : PySem.W.codeIn K cd_law_nearest "_law_nearest" = true)
    (k_law_nearest : PySem.W.keepIn K (.ref f_law_nearest) = true)
    (a_law_meant : PySem.W.nsIn K mainGlobals "_law_meant" = some (some (.ref f_law_meant)))
    (l_law_meant : K.lookup f_law_meant = some ⟨oc_law_meant, od_law_meant, .func (PySem.W.fnOf "_law_meant" "_law_meant" (defArgs s_law_meant) (defBody s_law_meant) (defScope s_law_meant) .none kV_law_meant dc_law_meant pm_law_meant an_law_meant cd_law_meant ct_law_meant), sl_law_meant⟩)
    (c_law_meant : PySem.W.codeIn K cd_law_meant "_law_meant" = true)
    (k_law_meant : PySem.W.keepIn K (.ref f_law_meant) = true)
    (a_law : PySem.W.nsIn K mainGlobals "law" = some (some (.ref f_law)))
    (l_law : K.lookup f_law = some ⟨oc_law, od_law, .func (PySem.W.fnOf "law" "law" (defArgs s_law) (defBody s_law) (defScope s_law) .none kV_law dc_law pm_law an_law cd_law ct_law), sl_law⟩)
    (c_law : PySem.W.codeIn K cd_law "law" = true)
    (k_law : PySem.W.keepIn K (.ref f_law) = true)
    (z_len : PySem.W.nsIn K mainGlobals "len" = some none)
    (z_max : PySem.W.nsIn K mainGlobals "max" = some none)
    (z_min : PySem.W.nsIn K mainGlobals "min" = some none)
    (z_range : PySem.W.nsIn K mainGlobals "range" = some none)
    : ∃ fd : FuncData, (∀ (s : Shared) (v : Value), BindsTo s fd ⟨[v], []⟩ [("_law_script", v)]) ∧ ∀ base : Heap, K.In base → base.Ns mainGlobals mg → FnOk l.prog w K mg base (L2.CX l.prog w) 3 fa fd ["_law_script"] (spLaw K) := by
  have e := hfa.symm.trans (PySem.W.mg_of X G a_law)
  cases e
  exact ⟨_, fun s v => .of_eq rfl, fun base _ _ => ok_law (mkT X G a_nearest l_nearest c_nearest k_nearest a_held l_held c_held k_held t_held u_held v_held a_law_draw l_law_draw c_law_draw k_law_draw a_law_begun l_law_begun c_law_begun k_law_begun a_law_nearest l_law_nearest c_law_nearest k_law_nearest a_law_meant l_law_meant c_law_meant k_law_meant a_law l_law c_law k_law z_len z_max z_min z_range) hτ⟩
end L17

set_option maxHeartbeats 4000000
namespace L17
open PySem PySem.Spec PyProof.Rows L2 DL
local macro_rules | `(tactic| trivial) => `(tactic| with_reducible first
  | (refine x_var (by with_unfolding_all rfl) ?_)
  | (refine x_C ?_) | (refine x_op ?_) | (refine x_un ?_) | (refine x_sub ?_)
  | (refine x_mul (by first | with_unfolding_all decide | (unfold CMul; omega)) ?_) | (refine x_mult (by first | with_unfolding_all decide | (unfold CMul; omega)) ?_)
  | (refine x_div (by unfold CDivN; omega) ?_) | (refine x_mod (by omega) ?_) | (refine x_add ?_) | (refine x_lt ?_) | (refine x_ltI ?_) | (refine x_leI ?_) | (refine x_gtI ?_) | (refine x_geI ?_)
  | (refine x_is ?_) | (refine x_notis ?_) | (refine x_neg ?_) | (refine x_eqI ?_) | (refine x_neI ?_)
  | (refine x_dtestK ?_) | (refine x_testK ?_) | (refine x_and ?_) | (refine x_or ?_) | (refine x_not ?_) | (refine x_dif ?_)
  | (refine x_T ?_) | (refine x_F ?_) | (refine x_nT ?_) | (refine x_nF ?_)
  | (refine x_nil ?_) | (refine x_cons ?_) | (refine x_cntK ?_) | (refine x_lens (by with_unfolding_all rfl) ?_)
  | (refine x_tupK ?_) | (refine x_tupD (by with_unfolding_all decide) ?_) | (refine x_lstK ?_) | (refine x_lstD (by with_unfolding_all decide) ?_)
  | (refine x_dct ?_) | (refine x_fz ?_) | (refine x_val ?_)
  | (refine x_callK ?_) | (refine x_callD (by first | (dsimp only [pickD, List.cons_append, List.nil_append, List.append_nil, List.map_cons, List.map_nil, List.getD_cons_zero, List.getD_cons_succ]; done) | (dsimp only [pickD, List.cons_append, List.nil_append, List.append_nil, List.map_cons, List.map_nil, List.getD_cons_zero, List.getD_cons_succ]; exact rfl)) ?_)
  | (refine x_bc ?_) | (refine x_min2 ?_) | (refine x_max2 ?_)
  | (refine x_seq ?_) | (refine x_next ?_) | (refine x_brk ?_) | (refine x_cont ?_) | (refine x_drop ?_) | (refine x_ret ?_) | (refine x_retN ?_) | (refine x_if ?_)
  | (refine x_asgK ?_) | (refine x_setK (by first | (dsimp only [List.set_cons_zero, List.set_cons_succ]; done) | (dsimp only [List.set_cons_zero, List.set_cons_succ]; exact rfl)) ?_)
  | (refine x_asgT ?_) | (refine x_gN (by first | (dsimp only [List.set_cons_zero, List.set_cons_succ]; done) | (dsimp only [List.set_cons_zero, List.set_cons_succ]; exact rfl)) ?_) | (refine x_gsN ?_) | (refine x_gsC ?_) | (refine x_gT (by with_unfolding_all rfl) ?_)
  | (refine x_mNil ?_) | (refine x_mCons ?_) | (refine x_parK ?_) | (refine x_parD (by with_unfolding_all rfl) (by first | (dsimp only [setS, List.set_cons_zero, List.set_cons_succ]; done) | (dsimp only [setS, List.set_cons_zero, List.set_cons_succ]; exact rfl)) ?_)
  | (refine x_for ?_) | (refine x_rg1 ?_) | (refine x_rg2 ?_) | (refine x_rg1K (by omega) ?_) | (refine x_rg2K (by omega) ?_)
  | (refine x_andV ?_) | (refine x_orV ?_) | (refine x_notV ?_) | (refine x_andK ?_) | (refine x_orK ?_) | (refine x_notK ?_))
theorem v_nearest (a b : Int) (kx : XD → Prop) (k : D → Prop) (hb : 0 < b ∧ b < 100000) (h : k (.int ((2*a+b).fdiv (2*b)))) : m_nearest [.int a, .int b] kx k := by
  refine go_nearest ?_
  unfold body_nearest
  repeat trivial
theorem v_law_nearest (a b : Int) (kx : XD → Prop) (k : D → Prop) (hb : b = 2) (h : k (.int ((2*a+b).fdiv (2*b)))) : m_law_nearest [.int a, .int b] kx k := by
  refine go_law_nearest ?_
  unfold body_law_nearest
  subst hb
  have e1 : (2*a+2).fdiv (2*2) = (2*a+2) / (2*2) := Int.fdiv_eq_ediv_of_nonneg _ (by decide)
  have e2 : a.fdiv 2 = a / 2 := Int.fdiv_eq_ediv_of_nonneg _ (by decide)
  rw [e1] at h
  repeat trivial
  rw [e2]
  refine x_iteD (fun c => ?_) (fun c => ?_)
  · repeat trivial
    refine Eq.mp (congrArg k (congrArg D.int ?_)) h
    omega
  · repeat trivial
    refine Eq.mp (congrArg k (congrArg D.int ?_)) h
    omega
def fHeld (n l s h : Int) : Int := if n - l - s ≤ 0 then n else l + min h (s + (2 * (n - l - s) + 2).fdiv (2 * 2))
theorem v_held (n l s h : Int) (kx : XD → Prop) (k : D → Prop) (hk : k (.int (fHeld n l s h))) : m_held [.int n, .int l, .int s, .int h] kx k := by
  refine go_held ?_
  unfold body_held
  unfold fHeld at hk
  repeat trivial
  refine x_iteD (fun c => ?_) (fun c => ?_)
  · rw [if_pos c] at hk
    repeat trivial
  · rw [if_neg c] at hk
    repeat trivial
    refine v_nearest _ _ _ _ (by omega) ?_
    repeat trivial
theorem v_law_meant (n l s h : Int) (kx : XD → Prop) (k : D → Prop) (hk : k (.int (fHeld n l s h))) : m_law_meant [.int n, .int l, .int s, .int h] kx k := by
  refine go_law_meant ?_
  unfold body_law_meant
  unfold fHeld at hk
  repeat trivial
  refine x_iteD (fun c => ?_) (fun c => ?_)
  · rw [if_pos (by omega)] at hk
    repeat trivial
  · rw [if_neg (by omega)] at hk
    repeat trivial
    refine v_law_nearest _ _ _ _ (by omega) ?_
    repeat trivial
    refine Eq.mp (congrArg k (congrArg D.int ?_)) hk
    omega
theorem law_holds : ∀ ns : List Int, ns.length ≤ 63 → t_law (rhoL N_law.length ns) nokx KL := by
  intro ns hn
  unfold t_law
  repeat trivial
  refine x_for_rng (fun _ ρ => ∃ a2 a3 a4 a5 a6 a7 a8, ρ = [.val (.scr ns), .val .town, a2, a3, a4, a5, a6, a7, a8]) ⟨_, _, _, _, _, _, _, rfl⟩ ?_ ?_
  · rintro ρ ⟨_, _, _, _, _, _, _, rfl⟩
    repeat trivial
  · rintro i ρ P hi ⟨_, _, _, _, _, _, _, rfl⟩ hP
    unfold lp_law_1
    repeat trivial
    refine x_draw (by decide) fun v1 l1 u1 => ?_
    repeat trivial
    refine x_draw (by decide) fun v2 l2 u2 => ?_
    repeat trivial
    refine x_draw (by decide) fun v3 l3 u3 => ?_
    repeat trivial
    refine x_draw (by decide) fun v4 l4 u4 => ?_
    repeat trivial
    refine v_held _ _ _ _ _ _ ?_
    repeat trivial
    refine v_law_meant _ _ _ _ _ _ ?_
    repeat trivial
    refine x_noN rfl ?_
    repeat trivial
    refine x_no ?_ ?_
    · unfold fHeld; split <;> omega
    repeat trivial
    refine x_no ?_ ?_
    · unfold fHeld
      have e : (2 * (v1 - 99 + v2 - 40 - (v1 - 99) - v3) + 2).fdiv (2 * 2) = (2 * (v1 - 99 + v2 - 40 - (v1 - 99) - v3) + 2) / 4 := Int.fdiv_eq_ediv_of_nonneg _ (by decide)
      split <;> omega
    repeat trivial
    refine v_held _ _ _ _ _ _ ?_
    repeat trivial
    refine v_law_meant _ _ _ _ _ _ ?_
    repeat trivial
    refine x_noN rfl ?_
    repeat trivial
    refine v_held _ _ _ _ _ _ ?_
    repeat trivial
    refine v_law_meant _ _ _ _ _ _ ?_
    repeat trivial
    refine x_noN rfl ?_
    repeat trivial
    refine x_draw (by decide) fun v5 l5 u5 => ?_
    repeat trivial
    refine v_held _ _ _ _ _ _ ?_
    repeat trivial
    refine x_no ?_ ?_
    · unfold fHeld
      have e : (2 * (v1 - 99 + v2 - 40 - (v1 - 99) - v3) + 2).fdiv (2 * 2) = (2 * (v1 - 99 + v2 - 40 - (v1 - 99) - v3) + 2) / 4 := Int.fdiv_eq_ediv_of_nonneg _ (by decide)
      have e : (2 * (v1 - 99 + v2 - 40 + v5 - (v1 - 99) - v3) + 2).fdiv (2 * 2) = (2 * (v1 - 99 + v2 - 40 + v5 - (v1 - 99) - v3) + 2) / 4 := Int.fdiv_eq_ediv_of_nonneg _ (by decide)
      split <;> split <;> omega
    repeat trivial
    refine v_held _ _ _ _ _ _ ?_
    repeat trivial
    refine x_noN ?_ ?_
    · unfold fHeld; split <;> omega
    repeat trivial
    exact hP _ ⟨_, _, _, _, _, _, _, rfl⟩

end L17

open L17 in
open PySem PySem.W PyProof.Rows L2 in
set_option maxRecDepth 100000 in
set_option maxHeartbeats 0 in
theorem PySem.Challenge.cw_strokesgiven_k17_whole_held_holds : PySem.Challenge.rw_strokesgiven_k17_whole_held.Holds := by
  w_on; o_law; k_head; (case hw => w_witness2)
  k_fill
  refine DL.walkL (l := PySem.Challenge.rw_strokesgiven_k17_whole_held) (k := 3) ⟨rfl, by decide, by decide⟩ rfl rfl (fun w h Y => PySem.W.kIn_of Y) ?F
  case F =>
    intro w mg fa h KX G hmg
    refine' L17.all_mk KX G hmg L17.law_holds ?a_nearest ?l_nearest ?c_nearest ?k_nearest ?a_held ?l_held ?c_held ?k_held ?t_held ?u_held ?v_held ?a_law_draw ?l_law_draw ?c_law_draw ?k_law_draw ?a_law_begun ?l_law_begun ?c_law_begun ?k_law_begun ?a_law_nearest ?l_law_nearest ?c_law_nearest ?k_law_nearest ?a_law_meant ?l_law_meant ?c_law_meant ?k_law_meant ?a_law ?l_law ?c_law ?k_law ?z_len ?z_max ?z_min ?z_range
    (case a_nearest => k_is)
    (case l_nearest => k_is)
    (case c_nearest => k_is)
    (case k_nearest => k_is)
    (case a_held => k_is)
    (case l_held => k_is)
    (case c_held => k_is)
    (case k_held => k_is)
    (case t_held => k_is)
    (case u_held => rfl)
    (case v_held => exact Paired.cons DL.relInt (Paired.cons DL.relInt (Paired.nil)))
    (case a_law_draw => k_is)
    (case l_law_draw => k_is)
    (case c_law_draw => k_is)
    (case k_law_draw => k_is)
    (case a_law_begun => k_is)
    (case l_law_begun => k_is)
    (case c_law_begun => k_is)
    (case k_law_begun => k_is)
    (case a_law_nearest => k_is)
    (case l_law_nearest => k_is)
    (case c_law_nearest => k_is)
    (case k_law_nearest => k_is)
    (case a_law_meant => k_is)
    (case l_law_meant => k_is)
    (case c_law_meant => k_is)
    (case k_law_meant => k_is)
    (case a_law => k_is)
    (case l_law => k_is)
    (case c_law => k_is)
    (case k_law => k_is)
    (case z_len => k_is)
    (case z_max => k_is)
    (case z_min => k_is)
    (case z_range => k_is)
