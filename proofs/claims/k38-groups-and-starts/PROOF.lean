import PyProof.Rows.All
import Wide.All
import OpenK.AllK
import Wide.FinOn
import HandS.Base
import HandS.Call
import HandS.List
import HandS.Comp
import HandS.Dict
import HandS.Iter
import HandS.Text
import HandS.Exc
import HandS.Words
import HandS.Walk
import HandS.Defaults
import HandS.CallSlots
import HandS.Style
import HandS.MakeKw
import HandS.ExcOwn
import HandS.Ends
import HandS.WordsExc
import HandS.TupAny
import HandS.TupMul
import HandS.IsInst
import HandS.Conv
import HandS.SortInts
import HandS.SortOrd
import KE.KTupSum
import KE.KIndexOf
import KE.DatumOrd
import HandS.ReCall
import HandS.Zip
import HandS.Zip0
import PyProof.ZipIter
import KE.GoesEnumKw
import PyProof.Rows.CallKwBuiltin
import KE.GoesMore
import PyProof.EnumMake
import HandS.Strs
import HandS.SortKw
import HandS.FStr
import HandS.RaiseMore
import HandS.SortRule
import HandS.StrMore
import PySem.Challenge.RW_strokesgiven_k38_groups_and_starts
set_option Elab.async false
set_option linter.all false
set_option maxRecDepth 100000
set_option autoImplicit false
set_option maxHeartbeats 4000000
/-! DL1: data, worlds, the readings of expressions and statements that speak of data alone. -/
namespace DL
open PySem PySem.Spec PyProof.Rows L2
/-! ### data -/
inductive D where
  | non
  | bl (b : Bool)
  | int (i : Int)
  | str (x : Str)
  | tup (xs : List D)
  | lst (xs : List D)
  | ins (c : Str) (fs : List Str) (xs : List D)
  | dic (ks : List Key) (xs : List D)
  | exc (c : Str) (fs : List Str) (xs : List D)
  | town
  | scr (ns : List Int)
  | ptp (xs : List D)
inductive Wk : D → D → Prop
  | same (d : D) : Wk d d
  | tup (xs : List D) : Wk (.ptp xs) (.tup xs)
structure Wd where
  G : Hp
  T : Option (Addr × Addr)
structure Wd.le (W W' : Wd) : Prop where
  g : Same W.G W'.G
  t : ∀ p, W.T = some p → W'.T = some p
theorem Wd.le.refl (W : Wd) : W.le W := ⟨Same.refl _, fun _ h => h⟩
theorem Wd.le.trans {W W1 W2 : Wd} (a : W.le W1) (b : W1.le W2) : W.le W2 := ⟨a.g.trans b.g, fun p h => b.t p (a.t p h)⟩
theorem seqL_mono {K : PySem.W.Frag} {H H' : Hp} {a : Addr} {xs : List V} (e : Same H H') (h : SqL K H a xs) : SqL K H' a xs := by
  rcases h with (h | ⟨o, h⟩) | h
  · exact .inl (.inl (e _ _ h))
  · exact .inl (.inr ⟨o, e _ _ h⟩)
  · exact .inr h
theorem seqT_mono {K : PySem.W.Frag} {H H' : Hp} {a : Addr} {xs : List V} (e : Same H H') (h : SqT K H a xs) : SqT K H' a xs := by
  rcases h with (h | ⟨o, h⟩) | h
  · exact .inl (.inl (e _ _ h))
  · exact .inl (.inr ⟨o, e _ _ h⟩)
  · exact .inr h
def ExO (c : Value) (dx : Option Addr) (a : Addr) : HO := .ext fun h => ∃ (oe : Obj) (fl : Array Value), h.get? a = some oe ∧ Zc c dx oe ∧ oe.data = .fields fl
def SOk (x : Str) : Prop := x.length ≤ sizeLine ∧ (x.cps.all (· < 0x110000)) = true
section
variable (K : PySem.W.Frag) (mg : Str → Option Value)
mutual
def DV (W : Wd) : D → V → Prop
  | .non, v => v = .non
  | .bl b, v => v = .bl b
  | .int i, v => v = .int i
  | .str x, v => v = .str x ∧ SOk x
  | .tup ds, v => ∃ a vs, v = .ref a ∧ SqT K W.G a vs ∧ vs.length ≤ sizeLine ∧ DVs W ds vs
  | .lst ds, v => ∃ a vs, v = .ref a ∧ W.G a = some (.lst vs) ∧ vs.length ≤ sizeLine ∧ DVs W ds vs
  | .ins c fs ds, v => ∃ a C dx vs, v = .ref a ∧ mg c = some (.ref C) ∧ W.G a = some (.ins C dx (fs.zip vs)) ∧ fs.length = vs.length ∧ DVs W ds vs
  | .dic ks ds, v => ∃ a vs, v = .ref a ∧ W.G a = some (.dK (ks.zip vs)) ∧ ks.length = vs.length ∧ DVs W ds vs
  | .exc c fs ds, v => ∃ a C dx vs, v = .ref a ∧ mg c = some (.ref C) ∧ W.G a = some (ExO (.ref C) dx a) ∧ fs.length = vs.length ∧
      (match dx with | none => fs = [] | some d => W.G d = some (.xd (fs.zip vs))) ∧ DVs W ds vs
  | .town, v => ∃ a r, v = .ref a ∧ W.T = some (a, r)
  | .scr ns, v => ∃ a, v = .ref a ∧ SqL K W.G a (ns.map V.int) ∧ ns.length ≤ 63
  | .ptp ds, v => ∃ a o vs, v = .ref a ∧ o.dict = none ∧ o.cls = .type "tuple" ∧ W.G a = some (.frz o (.tup vs)) ∧ vs.length ≤ sizeLine ∧ DVs W ds vs
def DVs (W : Wd) : List D → List V → Prop
  | [], vs => vs = []
  | d :: ds, vs => ∃ v vr, vs = v :: vr ∧ DV W d v ∧ DVs W ds vr
end
end
section
variable {K : PySem.W.Frag} {mg : Str → Option Value} {W W' : Wd}
mutual
theorem DV.mono (h : W.le W') : ∀ (d : D) (v : V), DV K mg W d v → DV K mg W' d v
  | .non, v, x => by simpa only [DV] using x
  | .bl b, v, x => by simpa only [DV] using x
  | .int i, v, x => by simpa only [DV] using x
  | .str y, v, x => by simpa only [DV] using x
  | .tup ds, v, x => by
    simp only [DV] at x ⊢
    obtain ⟨a, vs, e, s, l, r⟩ := x
    exact ⟨a, vs, e, seqT_mono h.g s, l, DVs.mono h ds vs r⟩
  | .lst ds, v, x => by
    simp only [DV] at x ⊢
    obtain ⟨a, vs, e, s, l, r⟩ := x
    exact ⟨a, vs, e, h.g _ _ s, l, DVs.mono h ds vs r⟩
  | .ins c fs ds, v, x => by
    simp only [DV] at x ⊢
    obtain ⟨a, C, dx, vs, e, m, g, l, r⟩ := x
    exact ⟨a, C, dx, vs, e, m, h.g _ _ g, l, DVs.mono h ds vs r⟩
  | .dic ks ds, v, x => by
    simp only [DV] at x ⊢
    obtain ⟨a, vs, e, g, l, r⟩ := x
    exact ⟨a, vs, e, h.g _ _ g, l, DVs.mono h ds vs r⟩
  | .exc c fs ds, v, x => by
    simp only [DV] at x ⊢
    obtain ⟨a, C, dx, vs, e, m, g, l, d, r⟩ := x
    refine ⟨a, C, dx, vs, e, m, h.g _ _ g, l, ?_, DVs.mono h ds vs r⟩
    cases dx with
    | none => exact d
    | some q => exact h.g _ _ d
  | .town, v, x => by
    simp only [DV] at x ⊢
    obtain ⟨a, r, e, t⟩ := x
    exact ⟨a, r, e, h.t _ t⟩
  | .scr ns, v, x => by
    simp only [DV] at x ⊢
    obtain ⟨a, e, s, l⟩ := x
    exact ⟨a, e, seqL_mono h.g s, l⟩
  | .ptp ds, v, x => by
    simp only [DV] at x ⊢
    obtain ⟨a, o, vs, e, h1, h2, s, l, r⟩ := x
    exact ⟨a, o, vs, e, h1, h2, h.g _ _ s, l, DVs.mono h ds vs r⟩
theorem DVs.mono (h : W.le W') : ∀ (ds : List D) (vs : List V), DVs K mg W ds vs → DVs K mg W' ds vs
  | [], vs, x => by simpa only [DVs] using x
  | d :: ds, vs, x => by
    simp only [DVs] at x ⊢
    obtain ⟨v, vr, e, r, t⟩ := x
    exact ⟨v, vr, e, DV.mono h d v r, DVs.mono h ds vr t⟩
end
theorem DV.wk {d d' : D} {v : V} (w : Wk d d') (x : DV K mg W d v) : DV K mg W d' v := by
  cases w with
  | same => exact x
  | tup xs =>
    simp only [DV] at x ⊢
    obtain ⟨a, o, vs, e, _, _, s, l, r⟩ := x
    exact ⟨a, vs, e, .inl (.inr ⟨o, s⟩), l, r⟩
theorem dvs_nil : DVs K mg W [] [] := by simp only [DVs]
theorem dvs_cons {d : D} {v : V} {ds : List D} {vs : List V} (h : DV K mg W d v) (t : DVs K mg W ds vs) : DVs K mg W (d :: ds) (v :: vs) := by
  simp only [DVs]; exact ⟨v, vs, rfl, h, t⟩
theorem dvs_len : ∀ {ds : List D} {vs : List V}, DVs K mg W ds vs → ds.length = vs.length
  | [], vs, x => by simp only [DVs] at x; subst x; rfl
  | d :: ds, vs, x => by
    simp only [DVs] at x
    obtain ⟨v, vr, e, _, t⟩ := x
    rw [e, List.length_cons, List.length_cons, dvs_len t]
theorem dvs_app : ∀ {ds es : List D} {vs ws : List V}, DVs K mg W ds vs → DVs K mg W es ws → DVs K mg W (ds ++ es) (vs ++ ws)
  | [], es, vs, ws, x, y => by simp only [DVs] at x; rw [x]; exact y
  | d :: ds, es, vs, ws, x, y => by
    simp only [DVs] at x
    obtain ⟨v, vr, e, r, t⟩ := x
    rw [e]
    exact dvs_cons r (dvs_app t y)
theorem dvs_get : ∀ {ds : List D} {vs : List V} {i : Nat} {d : D}, DVs K mg W ds vs → ds[i]? = some d → ∃ v, vs[i]? = some v ∧ DV K mg W d v
  | [], vs, i, d, x, e => by simp at e
  | d' :: ds, vs, 0, d, x, e => by
    simp only [DVs] at x
    obtain ⟨v, vr, e', r, t⟩ := x
    simp at e
    exact ⟨v, by rw [e']; rfl, by rw [← e]; exact r⟩
  | d' :: ds, vs, i + 1, d, x, e => by
    simp only [DVs] at x
    obtain ⟨v, vr, e', r, t⟩ := x
    obtain ⟨w, h1, h2⟩ := dvs_get (i := i) (d := d) t (by simpa using e)
    exact ⟨w, by rw [e']; simpa using h1, h2⟩
theorem dvs_getV {ds : List D} {vs : List V} {i : Nat} {v : V} (x : DVs K mg W ds vs) (e : vs[i]? = some v) : ∃ d, ds[i]? = some d ∧ DV K mg W d v := by
  have hi := (List.getElem?_eq_some_iff.mp e).1
  have hl := dvs_len x
  obtain ⟨d, hd⟩ : ∃ d, ds[i]? = some d := ⟨ds[i], by simp [hl, hi]⟩
  obtain ⟨w, h1, h2⟩ := dvs_get x hd
  rw [e] at h1
  cases h1
  exact ⟨d, hd, h2⟩
theorem dvs_take : ∀ {ds : List D} {vs : List V} (n : Nat), DVs K mg W ds vs → DVs K mg W (ds.take n) (vs.take n)
  | _, _, 0, _ => by simp only [List.take_zero]; exact dvs_nil
  | [], vs, n + 1, x => by simp only [DVs] at x; rw [x]; exact dvs_nil
  | d :: ds, vs, n + 1, x => by
    simp only [DVs] at x
    obtain ⟨v, vr, e, r, t⟩ := x
    rw [e]
    exact dvs_cons r (dvs_take n t)
theorem dvs_drop : ∀ {ds : List D} {vs : List V} (n : Nat), DVs K mg W ds vs → DVs K mg W (ds.drop n) (vs.drop n)
  | _, _, 0, x => by simpa only [List.drop_zero] using x
  | [], vs, n + 1, x => by simp only [DVs] at x; rw [x]; exact dvs_nil
  | d :: ds, vs, n + 1, x => by
    simp only [DVs] at x
    obtain ⟨v, vr, e, r, t⟩ := x
    rw [e]
    exact dvs_drop n t
theorem dvs_ints : ∀ {ns : List Int} {vs : List V}, DVs K mg W (ns.map D.int) vs → vs = ns.map V.int
  | [], vs, x => by simpa only [List.map_nil, DVs] using x
  | n :: ns, vs, x => by
    rw [List.map_cons] at x
    simp only [DVs] at x
    obtain ⟨v, vr, e, r, t⟩ := x
    simp only [DV] at r
    rw [e, r, dvs_ints t, List.map_cons]
theorem dvs_ofInts : ∀ (ns : List Int), DVs K mg W (ns.map D.int) (ns.map V.int)
  | [] => dvs_nil
  | n :: ns => dvs_cons (by simp only [DV]) (dvs_ofInts ns)
end
/-! ### the town: {'count': c, 'rests': {..}} -/
def TownAt (H : Hp) (a r : Addr) : Prop :=
  a ≠ r ∧ ∃ (c : Int) (kvs : List (Key × V)), H a = some (.dK [(Sum.inr "count", .int c), (Sum.inr "rests", .ref r)]) ∧ H r = some (.dK kvs) ∧ kvs.length ≤ 64 ∧
    (∀ p ∈ kvs, ∃ k n : Int, p = (Sum.inl k, V.int n) ∧ 0 ≤ k ∧ k < 64) ∧ (kvs.map (·.1)).Nodup
/-! ### slots -/
inductive S where
  | un
  | val (d : D)
  | own (xs : List D)
  | dct (kvs : List (Key × D))
  | slf (a : Addr) (c : Str) (fs : List Str) (xs : List D)
abbrev Rho := List S
def S.isOwn : S → Bool
  | .un => false
  | .val _ => false
  | _ => true
def free (W : Wd) (F : Hp) (a : Addr) : Prop := W.G a = none ∧ F a = none ∧ ∀ p, W.T = some p → p.1 ≠ a ∧ p.2 ≠ a
section
variable (K : PySem.W.Frag) (mg : Str → Option Value)
def holdS (W : Wd) (H : Hp) (a : Addr) : S → Prop
  | .own ds => ∃ vs, H a = some (.lst vs) ∧ vs.length ≤ sizeLine ∧ DVs K mg W ds vs
  | .dct kvs => ∃ vs, H a = some (.dK ((kvs.map (·.1)).zip vs)) ∧ DVs K mg W (kvs.map (·.2)) vs
  | .slf b c fs ds => b = a ∧ ∃ C dx vs, mg c = some (.ref C) ∧ H a = some (.ins C dx (fs.zip vs)) ∧ fs.length = vs.length ∧ DVs K mg W ds vs
  | _ => False
def SV (W : Wd) (F H : Hp) : S → V → Prop
  | .un, _ => True
  | .val d, v => DV K mg W d v
  | s, v => ∃ a, v = .ref a ∧ holdS K mg W H a s ∧ free W F a
def SlotOk (W : Wd) (F H : Hp) (o : Option (Option V)) (s : S) : Prop := s = .un ∨ ∃ v, o = some (some v) ∧ SV K mg W F H s v
end
structure WOk (W : Wd) (F H : Hp) : Prop where
  g : Same W.G H
  f : Same F H
  gf : ∀ a, F a ≠ none → W.G a = none
  t : ∀ p, W.T = some p → TownAt H p.1 p.2 ∧ W.G p.1 = none ∧ W.G p.2 = none ∧ F p.1 = none ∧ F p.2 = none
def OwnsAt (σ : L2.St) (ρ : Rho) (i : Nat) (a : Addr) : Prop := ∃ s, ρ[i]? = some s ∧ s.isOwn = true ∧ σ[i]? = some (some (.ref a))
structure Rep (K : PySem.W.Frag) (mg : Str → Option Value) (W : Wd) (F H : Hp) (σ : L2.St) (ρ : Rho) : Prop where
  w : WOk W F H
  len : ρ.length = σ.length
  sl : ∀ (i : Nat) (s : S), ρ[i]? = some s → SlotOk K mg W F H σ[i]? s
  sep : ∀ (i j : Nat) (a : Addr), i ≠ j → OwnsAt σ ρ i a → OwnsAt σ ρ j a → False
section
variable {K : PySem.W.Frag} {mg : Str → Option Value} {W W' : Wd} {F F' H H' : Hp} {σ : L2.St} {ρ : Rho}
theorem free.fresh (w : WOk W F H) {p : Addr} (hp : H p = none) : free W F p := by
  have n : ∀ {H0 : Hp}, Same H0 H → H0 p = none := fun {H0} e => by
    cases q : H0 p with
    | none => rfl
    | some o => rw [e p o q] at hp; cases hp
  refine ⟨n w.g, n w.f, fun q hq => ?_⟩
  obtain ⟨⟨_, c, kvs, h1, h2, _⟩, _⟩ := w.t q hq
  exact ⟨ne_of_none h1 hp, ne_of_none h2 hp⟩
theorem holdS.own {s : S} {a : Addr} (h : holdS K mg W H a s) : s.isOwn = true := by
  cases s <;> first | rfl | exact h.elim
theorem holdS.there {s : S} {a : Addr} (h : holdS K mg W H a s) : ∃ o, H a = some o := by
  cases s with
  | un => exact h.elim
  | val d => exact h.elim
  | own ds => obtain ⟨vs, e, _⟩ := h; exact ⟨_, e⟩
  | dct kvs => obtain ⟨vs, e, _⟩ := h; exact ⟨_, e⟩
  | slf b c fs ds => obtain ⟨_, C, dx, vs, _, e, _⟩ := h; exact ⟨_, e⟩
theorem holdS.mono (le : W.le W') {s : S} {a : Addr} (he : H' a = H a) (h : holdS K mg W H a s) : holdS K mg W' H' a s := by
  cases s with
  | un => exact h.elim
  | val d => exact h.elim
  | own ds => obtain ⟨vs, e, l, r⟩ := h; exact ⟨vs, he.trans e, l, DVs.mono le _ _ r⟩
  | dct kvs => obtain ⟨vs, e, r⟩ := h; exact ⟨vs, he.trans e, DVs.mono le _ _ r⟩
  | slf b c fs ds => obtain ⟨q, C, dx, vs, m, e, l, r⟩ := h; exact ⟨q, C, dx, vs, m, he.trans e, l, DVs.mono le _ _ r⟩
theorem SV.ofOwn {s : S} {v : V} (o : s.isOwn = true) (h : SV K mg W F H s v) : ∃ a, v = .ref a ∧ holdS K mg W H a s ∧ free W F a := by
  cases s <;> first | exact h | cases o
theorem SV.toOwn {s : S} {a : Addr} (h : holdS K mg W H a s) (f : free W F a) : SV K mg W F H s (.ref a) := by
  cases s <;> first | exact h.elim | exact ⟨a, rfl, h, f⟩
theorem SV.mono (le : W.le W') {s : S} {v : V} (h : SV K mg W F H s v) (keep : ∀ a, v = .ref a → s.isOwn = true → H' a = H a ∧ free W' F' a) : SV K mg W' F' H' s v := by
  cases s with
  | un => trivial
  | val d => exact DV.mono le _ _ h
  | own ds => obtain ⟨a, e, r, f⟩ := h; obtain ⟨k1, k2⟩ := keep a e rfl; exact ⟨a, e, r.mono le k1, k2⟩
  | dct kvs => obtain ⟨a, e, r, f⟩ := h; obtain ⟨k1, k2⟩ := keep a e rfl; exact ⟨a, e, r.mono le k1, k2⟩
  | slf b c fs ds => obtain ⟨a, e, r, f⟩ := h; obtain ⟨k1, k2⟩ := keep a e rfl; exact ⟨a, e, r.mono le k1, k2⟩
theorem Rep.slot (R : Rep K mg W F H σ ρ) {i : Nat} {s : S} (h : ρ[i]? = some s) (hu : s ≠ .un) : ∃ v, σ[i]? = some (some v) ∧ SV K mg W F H s v := by
  rcases R.sl i s h with e | e
  · exact (hu e).elim
  · exact e
theorem Rep.owned (R : Rep K mg W F H σ ρ) {i : Nat} {a : Addr} (h : OwnsAt σ ρ i a) : ∃ s, ρ[i]? = some s ∧ s.isOwn = true ∧ σ[i]? = some (some (.ref a)) ∧ holdS K mg W H a s ∧ free W F a := by
  obtain ⟨s, h1, h2, h3⟩ := h
  obtain ⟨v, e, r⟩ := R.slot h1 (fun z => by rw [z] at h2; cases h2)
  rw [h3] at e
  cases e
  obtain ⟨b, q, r1, r2⟩ := r.ofOwn h2
  cases q
  exact ⟨s, h1, h2, h3, r1, r2⟩
theorem Rep.go (R : Rep K mg W F H σ ρ) (le : W.le W') (w : WOk W' F' H') (keep : ∀ i a, OwnsAt σ ρ i a → H' a = H a ∧ free W' F' a) : Rep K mg W' F' H' σ ρ := by
  refine ⟨w, R.len, fun i s h => ?_, R.sep⟩
  rcases R.sl i s h with e | ⟨v, e, r⟩
  · exact .inl e
  · exact .inr ⟨v, e, r.mono le fun a ea o => keep i a ⟨s, h, o, by rw [e, ea]⟩⟩
def Wd.add (W : Wd) (p : Addr) (o : HO) : Wd := { W with G := upd W.G p o }
theorem same_upd {H : Hp} {p : Addr} {o : HO} (h : H p = none) : Same H (upd H p o) := fun b u e => by
  rw [upd_ne (ne_of_none e h)]; exact e
theorem Wd.add_le {p : Addr} {o : HO} (h : W.G p = none) : W.le (W.add p o) := ⟨same_upd h, fun _ e => e⟩
theorem TownAt.keep {a r : Addr} (t : TownAt H a r) (h1 : H' a = H a) (h2 : H' r = H r) : TownAt H' a r := by
  obtain ⟨n, c, kvs, e1, e2, q⟩ := t
  exact ⟨n, c, kvs, h1.trans e1, h2.trans e2, q⟩
theorem WOk.add (w : WOk W F H) {p : Addr} {o : HO} (hp : H p = none) : WOk (W.add p o) F (upd H p o) := by
  have fr := free.fresh w hp
  refine ⟨fun b u e => ?_, fun b u e => ?_, fun a h => ?_, fun q hq => ?_⟩
  · by_cases hb : b = p
    · subst hb
      rw [upd_same]
      have e' : upd W.G b o b = some u := e
      rw [upd_same] at e'
      exact e'
    · rw [upd_ne hb]
      have e' : upd W.G p o b = some u := e
      rw [upd_ne hb] at e'
      exact w.g b u e'
  · rw [upd_ne (ne_of_none (w.f b u e) hp)]
    exact w.f b u e
  · show upd W.G p o a = none
    have : a ≠ p := fun z => by subst z; exact h fr.2.1
    rw [upd_ne this]
    exact w.gf a h
  · obtain ⟨t, g1, g2, f1, f2⟩ := w.t q hq
    obtain ⟨n1, n2⟩ := fr.2.2 q hq
    exact ⟨t.keep (upd_ne n1) (upd_ne n2), (upd_ne n1).trans g1, (upd_ne n2).trans g2, f1, f2⟩
theorem Rep.add (R : Rep K mg W F H σ ρ) {p : Addr} {o : HO} (hp : H p = none) : Rep K mg (W.add p o) F (upd H p o) σ ρ := by
  have fr := free.fresh R.w hp
  refine R.go (Wd.add_le fr.1) (R.w.add hp) fun i a h => ?_
  obtain ⟨s, _, _, _, h1, h2⟩ := R.owned h
  obtain ⟨u, e⟩ := h1.there
  have ne := ne_of_none e hp
  exact ⟨upd_ne ne, (upd_ne ne).trans h2.1, h2.2.1, h2.2.2⟩
theorem Rep.set (R : Rep K mg W F H σ ρ) {i : Nat} {s : S} {v : V} (h : SV K mg W F H s v) (hs : ∀ a j, s.isOwn = true → v = .ref a → j ≠ i → ¬ OwnsAt σ ρ j a) : Rep K mg W F H (σ.set i (some v)) (ρ.set i s) := by
  refine ⟨R.w, by rw [List.length_set, List.length_set]; exact R.len, fun j t hj => ?_, fun j k a hjk h1 h2 => ?_⟩
  · by_cases e : i = j
    · subst e
      have hl : i < ρ.length := by
        have := (List.getElem?_eq_some_iff.mp hj).1
        rwa [List.length_set] at this
      rw [List.getElem?_set_self hl] at hj
      cases hj
      rw [List.getElem?_set_self (by rw [← R.len]; exact hl)]
      exact .inr ⟨v, rfl, h⟩
    · rw [List.getElem?_set_ne e] at hj ⊢
      exact R.sl j t hj
  · have old : ∀ {j : Nat}, j ≠ i → OwnsAt (σ.set i (some v)) (ρ.set i s) j a → OwnsAt σ ρ j a := fun {j} hj ⟨t, t1, t2, t3⟩ => by
      rw [List.getElem?_set_ne (Ne.symm hj)] at t1 t3
      exact ⟨t, t1, t2, t3⟩
    have here : OwnsAt (σ.set i (some v)) (ρ.set i s) i a → s.isOwn = true ∧ v = .ref a := fun ⟨t, t1, t2, t3⟩ => by
      have hl : i < ρ.length := by
        have := (List.getElem?_eq_some_iff.mp t1).1
        rwa [List.length_set] at this
      rw [List.getElem?_set_self hl] at t1
      rw [List.getElem?_set_self (by rw [← R.len]; exact hl)] at t3
      cases t1
      cases t3
      exact ⟨t2, rfl⟩
    by_cases e1 : j = i
    · subst e1
      obtain ⟨o, ev⟩ := here h1
      exact hs a k o ev (Ne.symm hjk) (old (Ne.symm hjk) h2)
    · by_cases e2 : k = i
      · subst e2
        obtain ⟨o, ev⟩ := here h2
        exact hs a j o ev e1 (old e1 h1)
      · exact R.sep j k a hjk (old e1 h1) (old e2 h2)
theorem Rep.setVal (R : Rep K mg W F H σ ρ) {i : Nat} {d : D} {v : V} (h : DV K mg W d v) : Rep K mg W F H (σ.set i (some v)) (ρ.set i (.val d)) :=
  R.set (s := .val d) h fun _ _ o => by cases o
theorem WOk.frz (w : WOk W F H) {a : Addr} {o : HO} (f : free W F a) (h : H a = some o) : WOk (W.add a o) F H := by
  refine ⟨fun b u e => ?_, w.f, fun b hb => ?_, fun q hq => ?_⟩
  · by_cases hb : b = a
    · subst hb
      have e' : upd W.G b o b = some u := e
      rw [upd_same] at e'
      cases e'
      exact h
    · have e' : upd W.G a o b = some u := e
      rw [upd_ne hb] at e'
      exact w.g b u e'
  · show upd W.G a o b = none
    have : b ≠ a := fun z => by subst z; exact hb f.2.1
    rw [upd_ne this]
    exact w.gf b hb
  · obtain ⟨t, g1, g2, f1, f2⟩ := w.t q hq
    obtain ⟨n1, n2⟩ := f.2.2 q hq
    exact ⟨t, (upd_ne n1).trans g1, (upd_ne n2).trans g2, f1, f2⟩
end
end DL
set_option maxHeartbeats 4000000
/-! DL2: judgements over data; names, constants, operators, tests, statements. -/
namespace DL
open PySem PySem.Spec PyProof.Rows L2
structure XD where
  c : Str
  fs : List Str
  xs : List D
abbrev KE := D → Rho → Prop
abbrev KX := XD → Rho → Prop
abbrev KV := S → Rho → Prop
abbrev TD := Rho → KX → KE → Prop
abbrev TDs := Rho → KX → KV → Prop
abbrev TDt := Rho → KX → (Bool → Rho → Prop) → Prop
abbrev TDa := Rho → KX → (List D → Rho → Prop) → Prop
structure KS where
  nx : Rho → Prop
  rt : D → Rho → Prop
  bk : Rho → Prop := fun _ => False
  ct : Rho → Prop := fun _ => False
abbrev TDS := Rho → KX → KS → Prop
def XV (K : PySem.W.Frag) (mg : Str → Option Value) (W : Wd) (x : XD) (cls : Value) (dx : Option Addr) : Prop :=
  ∃ C vs, mg x.c = some (.ref C) ∧ cls = .ref C ∧ x.fs.length = vs.length ∧ DVs K mg W x.xs vs ∧ (match dx with | none => x.fs = [] | some d => W.G d = some (.xd (x.fs.zip vs)))
def TakesD (X : Cx) (W : Wd) (F : Hp) (kx : KX) : Prop := Takes X fun cls dx σ H => ∃ xd ρ W', kx xd ρ ∧ W.le W' ∧ Rep X.K X.mg W' F H σ ρ ∧ XV X.K X.mg W' xd cls dx
theorem TakesD.mono {X : Cx} {W W' : Wd} {F : Hp} {kx : KX} (h : TakesD X W F kx) (le : W.le W') : TakesD X W' F kx :=
  Takes.imp h fun _ _ _ _ ⟨xd, ρ, W2, q, l, R, x⟩ => ⟨xd, ρ, W2, q, le.trans l, R, x⟩
theorem Rep.weakF {K : PySem.W.Frag} {mg : Str → Option Value} {W : Wd} {F F1 H : Hp} {σ : L2.St} {ρ : Rho} (R : Rep K mg W F1 H σ ρ) (e : Same F F1) : Rep K mg W F H σ ρ := by
  have n : ∀ {a : Addr}, F1 a = none → F a = none := fun {a} h => by
    cases q : F a with
    | none => rfl
    | some o => rw [e a o q] at h; cases h
  refine R.go (Wd.le.refl W) ⟨R.w.g, e.trans R.w.f, fun a h => R.w.gf a fun z => h (n z), fun p hp => ?_⟩ fun i a h => ?_
  · obtain ⟨t, g1, g2, f1, f2⟩ := R.w.t p hp
    exact ⟨t, g1, g2, n f1, n f2⟩
  · obtain ⟨s, _, _, _, _, f⟩ := R.owned h
    exact ⟨rfl, f.1, n f.2.1, f.2.2⟩
theorem TakesD.anti {X : Cx} {W : Wd} {F F1 : Hp} {kx : KX} (h : TakesD X W F kx) (e : Same F F1) : TakesD X W F1 kx :=
  Takes.imp h fun _ _ _ _ ⟨xd, ρ, W2, q, l, R, x⟩ => ⟨xd, ρ, W2, q, l, R.weakF e, x⟩
/-! ### readings -/
def lE (X : Cx) (τ : TD) : TE := fun σ H Q => ∃ (W : Wd) (F : Hp) (ρ : Rho) (kx : KX) (k : KE), TakesD X W F kx ∧ Rep X.K X.mg W F H σ ρ ∧ τ ρ kx k ∧
  ∀ d ρ' v H' W', k d ρ' → W.le W' → Rep X.K X.mg W' F H' σ ρ' → DV X.K X.mg W' d v → Q v H'
def lV (X : Cx) (τ : TDs) : TE := fun σ H Q => ∃ (W : Wd) (F : Hp) (ρ : Rho) (kx : KX) (k : KV), TakesD X W F kx ∧ Rep X.K X.mg W F H σ ρ ∧ τ ρ kx k ∧
  ∀ s ρ' v H' W', k s ρ' → W.le W' → Rep X.K X.mg W' F H' σ ρ' → SV X.K X.mg W' F H' s v → (∀ a i, s.isOwn = true → v = .ref a → ¬ OwnsAt σ ρ' i a) → s ≠ .un → Q v H'
def lT (X : Cx) (τ : TDt) : TT := fun σ H Q => ∃ (W : Wd) (F : Hp) (ρ : Rho) (kx : KX) (k : Bool → Rho → Prop), TakesD X W F kx ∧ Rep X.K X.mg W F H σ ρ ∧ τ ρ kx k ∧
  ∀ b ρ' H' W', k b ρ' → W.le W' → Rep X.K X.mg W' F H' σ ρ' → Q b H'
def lA (X : Cx) (τ : TDa) : TA := fun σ H Q => ∃ (W : Wd) (F : Hp) (ρ : Rho) (kx : KX) (k : List D → Rho → Prop), TakesD X W F kx ∧ Rep X.K X.mg W F H σ ρ ∧ τ ρ kx k ∧
  ∀ ds ρ' vs H' W', k ds ρ' → W.le W' → Rep X.K X.mg W' F H' σ ρ' → DVs X.K X.mg W' ds vs → Q vs H'
structure LS (X : Cx) (W : Wd) (F : Hp) (k : KS) (D : Ends) : Prop where
  nx : ∀ ρ' σ' H' W', k.nx ρ' → W.le W' → Rep X.K X.mg W' F H' σ' ρ' → D.nx σ' H'
  rt : ∀ d ρ' v σ' H' W', k.rt d ρ' → W.le W' → Rep X.K X.mg W' F H' σ' ρ' → DV X.K X.mg W' d v → D.rt v H'
  bk : ∀ ρ' σ' H' W', k.bk ρ' → W.le W' → Rep X.K X.mg W' F H' σ' ρ' → D.bk σ' H'
  ct : ∀ ρ' σ' H' W', k.ct ρ' → W.le W' → Rep X.K X.mg W' F H' σ' ρ' → D.ct σ' H'
theorem LS.mono {X : Cx} {W W' : Wd} {F : Hp} {k : KS} {D : Ends} (h : LS X W F k D) (le : W.le W') : LS X W' F k D :=
  ⟨fun a b c d e f => h.nx a b c d e (le.trans f), fun a b c d e f g i => h.rt a b c d e f g (le.trans i), fun a b c d e f => h.bk a b c d e (le.trans f), fun a b c d e f => h.ct a b c d e (le.trans f)⟩
def lS (X : Cx) (τ : TDS) : TS := fun D σ H => ∃ (W : Wd) (F : Hp) (ρ : Rho) (kx : KX) (k : KS), TakesD X W F kx ∧ Rep X.K X.mg W F H σ ρ ∧ τ ρ kx k ∧ LS X W F k D
structure PEd (X : Cx) (e : Expr) (τ : TD) : Prop where
  p : PE X e (lE X τ)
structure PEv (X : Cx) (e : Expr) (τ : TDs) : Prop where
  p : PE X e (lV X τ)
structure PTd (X : Cx) (e : Expr) (τ : TDt) : Prop where
  p : PT X e (lT X τ)
structure PWd (X : Cx) (e : Expr) (τ : TDt) : Prop where
  p : PW X e (lT X τ)
structure PAd (X : Cx) (es : List Expr) (τ : TDa) : Prop where
  p : PA X es (lA X τ)
structure PKd (X : Cx) (kws : List Keyword) (τ : TDa) : Prop where
  p : PK X kws (lA X τ)
structure PSd (X : Cx) (st : Stmt) (τ : TDS) : Prop where
  p : PS X st (lS X τ)
structure PBd (X : Cx) (st : List Stmt) (τ : TDS) : Prop where
  p : PSs X st (lS X τ)
theorem PE.imp {X : Cx} {e : Expr} {t t' : TE} (h : PE X e t) (f : ∀ σ H Q, t' σ H Q → t σ H Q) : PE X e t' := ⟨fun pins s σ H Q I q => h.run pins s σ H Q I (f _ _ _ q)⟩
theorem PT.imp {X : Cx} {e : Expr} {t t' : TT} (h : PT X e t) (f : ∀ σ H Q, t' σ H Q → t σ H Q) : PT X e t' := ⟨fun pins s σ H Q I q => h.run pins s σ H Q I (f _ _ _ q)⟩
theorem PW.imp {X : Cx} {e : Expr} {t t' : TT} (h : PW X e t) (f : ∀ σ H Q, t' σ H Q → t σ H Q) : PW X e t' := ⟨fun w pins s σ H Q I q => h.run w pins s σ H Q I (f _ _ _ q)⟩
theorem PA.imp {X : Cx} {e : List Expr} {t t' : TA} (h : PA X e t) (f : ∀ σ H Q, t' σ H Q → t σ H Q) : PA X e t' := ⟨fun w pins s σ H Q I q => h.run w pins s σ H Q I (f _ _ _ q)⟩
theorem PK.imp {X : Cx} {e : List Keyword} {t t' : TA} (h : PK X e t) (f : ∀ σ H Q, t' σ H Q → t σ H Q) : PK X e t' := ⟨fun w pins s σ H Q I q => h.run w pins s σ H Q I (f _ _ _ q)⟩
theorem PS.imp {X : Cx} {e : Stmt} {t t' : TS} (h : PS X e t) (f : ∀ D σ H, t' D σ H → t D σ H) : PS X e t' := ⟨fun pins s σ H D I q => h.run pins s σ H D I (f _ _ _ q)⟩
theorem PSs.imp {X : Cx} {e : List Stmt} {t t' : TS} (h : PSs X e t) (f : ∀ D σ H, t' D σ H → t D σ H) : PSs X e t' := ⟨fun pins s σ H D I q => h.run pins s σ H D I (f _ _ _ q)⟩
section
variable {X : Cx} {a b e : Expr} {τ τa τb : TD} {pos : Pos}
/-! ### names, constants -/
def dVar (i : Nat) : TD := fun ρ _ k => ∃ d d', ρ[i]? = some (.val d) ∧ Wk d d' ∧ k d' ρ
theorem pd_var (i : Nat) {x : Str} (hN : X.N[i]? = some x := by rfl) (hv : Vis X.env.scope x := by first | exact Or.inl rfl | exact Or.inr (Or.inl rfl) | exact Or.inr (Or.inr rfl))
    (hd : (x == ("__debug__" : Str)) = false := by decide) (hcd : (x == ("__classdict__" : Str)) = false := by decide) : PEd X (.Name x pos) (dVar i) :=
  ⟨PE.imp (pe_var hN hv hd hcd) fun σ H Q ⟨W, F, ρ, kx, k, tk, R, ⟨d, d', hs, w, hk⟩, hQ⟩ => by
    obtain ⟨v, e, r⟩ := R.slot hs (by intro z; cases z)
    exact ⟨v, e, hQ d' ρ v H W hk (Wd.le.refl W) R (DV.wk w r)⟩⟩
def dC (d : D) : TD := fun ρ _ k => k d ρ
theorem PEd.const {v : V} {d : D} (h : PE X e (tC v)) (r : ∀ W, DV X.K X.mg W d v) : PEd X e (dC d) :=
  ⟨PE.imp h fun σ H Q ⟨W, F, ρ, kx, k, tk, R, hk, hQ⟩ => hQ d ρ v H W hk (Wd.le.refl W) R (r W)⟩
theorem pd_int {i : Int} {j : Nat} : PEd X (.Constant (.int i) j pos) (dC (.int i)) := .const pe_int fun W => by simp only [DV]
theorem pd_bl {i : Bool} {j : Nat} : PEd X (.Constant (.bool i) j pos) (dC (.bl i)) := .const pe_bl fun W => by simp only [DV]
theorem pd_str {x : Str} {j : Nat} (h : SOk x := by exact ⟨by decide +kernel, by decide +kernel⟩) : PEd X (.Constant (.str x) j pos) (dC (.str x)) := .const pe_str fun W => by simp only [DV]; exact ⟨trivial, h⟩
/-! ### operators, by data -/
abbrev G2 := D → D → (D → Prop) → Prop
def OpD (X : Cx) (r : R2) (g : G2) : Prop := ∀ (W : Wd) (F H : Hp) (σ : L2.St) (ρ : Rho) (x y : V) (dx dy : D) (k : D → Prop) (Q : VK), Rep X.K X.mg W F H σ ρ → DV X.K X.mg W dx x → DV X.K X.mg W dy y → g dx dy k →
  (∀ d v H' W', k d → W.le W' → Rep X.K X.mg W' F H' σ ρ → DV X.K X.mg W' d v → Q v H') → r x y H Q
def dOp (g : G2) (τa τb : TD) : TD := fun ρ kx k => τa ρ kx fun x ρ1 => τb ρ1 kx fun y ρ2 => g x y fun d => k d ρ2
theorem lE.op {r : R2} {g : G2} (od : OpD X r g) : ∀ σ H Q, lE X (dOp g τa τb) σ H Q → tOp r (lE X τa) (lE X τb) σ H Q := by
  rintro σ H Q ⟨W, F, ρ, kx, k, tk, R, h, hQ⟩
  refine ⟨W, F, ρ, kx, _, tk, R, h, fun dx ρ1 v1 H1 W1 h1 le1 R1 d1 => ?_⟩
  refine ⟨W1, F, ρ1, kx, _, tk.mono le1, R1, h1, fun dy ρ2 v2 H2 W2 h2 le2 R2 d2 => ?_⟩
  exact od W2 F H2 σ ρ2 v1 v2 dx dy _ Q R2 (d1.mono le2) d2 h2 fun d v H' W' hk le R' dv => hQ d ρ2 v H' W' hk ((le1.trans le2).trans le) R' dv
theorem pd_op {op : Operator} {r : R2} {g : G2} (ho : OpR X (binaryOp op) r) (od : OpD X r g) (ha : PEd X a τa) (hb : PEd X b τb) : PEd X (.BinOp a op b pos) (dOp g τa τb) := ⟨PE.imp (pe_op ho ha.p hb.p) (lE.op od)⟩
theorem pd_cmp {op : CmpOp} {r : R2} {g : G2} (ho : OpR X (compareOp op) r) (od : OpD X r g) (ha : PEd X a τa) (hb : PEd X b τb) (hm : behindInMarks op b = false) : PEd X (.Compare a [op] [b] pos) (dOp g τa τb) :=
  ⟨PE.imp (pe_cmpR ho ha.p hb.p hm) (lE.op od)⟩
theorem OpR.or2 {f : Value → Value → Sem Value} {r r' : R2} (h : OpR X f r) (h' : OpR X f r') : OpR X f (fun x y H Q => r x y H Q ∨ r' x y H Q) := OpR.or h h'
theorem OpD.or {r r' : R2} {g g' : G2} (h : OpD X r g) (h' : OpD X r' g') : OpD X (fun x y H Q => r x y H Q ∨ r' x y H Q) (fun x y k => g x y k ∨ g' x y k) := by
  intro W F H σ ρ x y dx dy k Q R hx hy hg hQ
  rcases hg with hg | hg
  · exact .inl (h W F H σ ρ x y dx dy k Q R hx hy hg hQ)
  · exact .inr (h' W F H σ ρ x y dx dy k Q R hx hy hg hQ)
theorem OpD.imp {r : R2} {g g' : G2} (h : OpD X r g) (f : ∀ x y k, g' x y k → g x y k) : OpD X r g' := fun W F H σ ρ x y dx dy k Q R hx hy hg hQ => h W F H σ ρ x y dx dy k Q R hx hy (f _ _ _ hg) hQ
def gI (C : Int → Int → Prop) (f : Int → Int → D) : G2 := fun x y k => match x, y with | .int i, .int j => C i j ∧ k (f i j) | _, _ => False
theorem od_I {C : Int → Int → Prop} {f : Int → Int → Int} : OpD X (rI C fun i j => .int (f i j)) (gI C fun i j => .int (f i j)) := by
  intro W F H σ ρ x y dx dy k Q R hx hy hg hQ
  cases dx <;> try exact hg.elim
  rename_i i
  cases dy <;> try exact hg.elim
  rename_i j
  simp only [DV] at hx hy
  exact ⟨i, j, hx, hy, hg.1, hQ _ _ H W hg.2 (Wd.le.refl W) R (by simp only [DV])⟩
theorem od_I0 {f : Int → Int → Int} : OpD X (rI0 fun i j => .int (f i j)) (gI (fun _ _ => True) fun i j => .int (f i j)) := by
  intro W F H σ ρ x y dx dy k Q R hx hy hg hQ
  cases dx <;> try exact hg.elim
  rename_i i
  cases dy <;> try exact hg.elim
  rename_i j
  simp only [DV] at hx hy
  exact ⟨i, j, hx, hy, hQ _ _ H W hg.2 (Wd.le.refl W) R (by simp only [DV])⟩
theorem od_B0 {f : Int → Int → Bool} : OpD X (rI0 fun i j => .bl (f i j)) (gI (fun _ _ => True) fun i j => .bl (f i j)) := by
  intro W F H σ ρ x y dx dy k Q R hx hy hg hQ
  cases dx <;> try exact hg.elim
  rename_i i
  cases dy <;> try exact hg.elim
  rename_i j
  simp only [DV] at hx hy
  exact ⟨i, j, hx, hy, hQ _ _ H W hg.2 (Wd.le.refl W) R (by simp only [DV])⟩
def gSub : G2 := gI (fun _ _ => True) fun i j => .int (i - j)
def gMul : G2 := gI CMul fun i j => .int (i * j)
def gDiv : G2 := gI CDivN fun i j => .int (i.fdiv j)
def gMod : G2 := gI (fun _ j => j ≠ 0) fun i j => .int (i.fmod j)
def gPow : G2 := gI CPow fun i j => .int (i ^ j.toNat)
def gAddI : G2 := gI (fun _ _ => True) fun i j => .int (i + j)
theorem pd_sub (ha : PEd X a τa) (hb : PEd X b τb) : PEd X (.BinOp a .Sub b pos) (dOp gSub τa τb) := pd_op op_sub od_I0 ha hb
theorem pd_mul (ha : PEd X a τa) (hb : PEd X b τb) : PEd X (.BinOp a .Mult b pos) (dOp gMul τa τb) := pd_op op_mul od_I ha hb
theorem pd_div (ha : PEd X a τa) (hb : PEd X b τb) : PEd X (.BinOp a .FloorDiv b pos) (dOp gDiv τa τb) := pd_op op_fdivN od_I ha hb
theorem pd_mod (ha : PEd X a τa) (hb : PEd X b τb) : PEd X (.BinOp a .Mod b pos) (dOp gMod τa τb) := pd_op op_modN od_I ha hb
def gLtI : G2 := gI (fun _ _ => True) fun i j => .bl (decide (i < j))
def gLeI : G2 := gI (fun _ _ => True) fun i j => .bl (decide (i ≤ j))
def gGtI : G2 := gI (fun _ _ => True) fun i j => .bl (decide (j < i))
def gGeI : G2 := gI (fun _ _ => True) fun i j => .bl (decide (j ≤ i))
theorem od_ltI : OpD X (rI0 fun i j => .bl (decide (i < j))) gLtI := od_B0
theorem od_leI : OpD X (rI0 fun i j => .bl (decide (i ≤ j))) gLeI := od_B0
theorem od_gtI : OpD X (rI0 fun i j => .bl (decide (j < i))) gGtI := od_B0
theorem od_geI : OpD X (rI0 fun i j => .bl (decide (j ≤ i))) gGeI := od_B0
/-! ### tests -/
def dTest (τ : TD) : TDt := fun ρ kx k => τ ρ kx fun d ρ' => match d with | .bl b => k b ρ' | _ => False
theorem td_cmp {op : CmpOp} {r : R2} {g : G2} (ho : OpR X (compareOp op) r) (od : OpD X r g) (ha : PEd X a τa) (hb : PEd X b τb) (hm : behindInMarks op b = false) : PTd X (.Compare a [op] [b] pos) (dTest (dOp g τa τb)) :=
  ⟨PT.imp (pt_cmpR ho ha.p hb.p hm) fun σ H Q h => by
    obtain ⟨W, F, ρ, kx, k, tk, R, h, hQ⟩ := h
    refine lE.op od σ H _ ⟨W, F, ρ, kx, _, tk, R, h, fun d ρ1 v1 H1 W1 h1 le1 R1 d1 => ?_⟩
    cases d <;> try exact h1.elim
    rename_i c
    simp only [DV] at d1
    exact ⟨c, d1, hQ c ρ1 H1 W1 h1 le1 R1⟩⟩
variable {ta tb : TDt} {rest : List Expr}
def dAnd (ta tb : TDt) : TDt := fun ρ kx k => ta ρ kx fun c ρ' => if c = true then tb ρ' kx k else k false ρ'
def dOr (ta tb : TDt) : TDt := fun ρ kx k => ta ρ kx fun c ρ' => if c = true then k true ρ' else tb ρ' kx k
def dNot (ta : TDt) : TDt := fun ρ kx k => ta ρ kx fun c ρ' => k (!c) ρ'
theorem wd_or1 (ha : PTd X a ta) : PWd X (.BoolOp .Or [a] pos) ta := ⟨pw_or1 ha.p⟩
theorem wd_or (ha : PTd X a ta) (hb : PWd X (.BoolOp .Or (b :: rest) pos) tb) : PWd X (.BoolOp .Or (a :: b :: rest) pos) (dOr ta tb) :=
  ⟨PW.imp (pw_or ha.p hb.p) fun σ H Q ⟨W, F, ρ, kx, k, tk, R, h, hQ⟩ => ⟨W, F, ρ, kx, _, tk, R, h, fun c ρ1 H1 W1 h1 le1 R1 => by
    cases c with
    | false => exact ⟨W1, F, ρ1, kx, k, tk.mono le1, R1, h1, fun b ρ' H' W' hk le R' => hQ b ρ' H' W' hk (le1.trans le) R'⟩
    | true => exact hQ true ρ1 H1 W1 h1 le1 R1⟩⟩
theorem PWd.t (h : PWd X e ta) : PTd X e ta := ⟨h.p.pt⟩
theorem td_not (ha : PTd X a ta) : PTd X (.UnaryOp .Not a pos) (dNot ta) :=
  ⟨PT.imp (pt_not ha.p) fun σ H Q ⟨W, F, ρ, kx, k, tk, R, h, hQ⟩ => ⟨W, F, ρ, kx, _, tk, R, h, fun c ρ1 H1 W1 h1 le1 R1 => hQ (!c) ρ1 H1 W1 h1 le1 R1⟩⟩
def dAndV (τa τb : TD) : TD := fun ρ kx k => τa ρ kx fun d ρ' => match d with | .bl c => (if c = true then τb ρ' kx k else k (.bl false) ρ') | _ => False
def dOrV (τa τb : TD) : TD := fun ρ kx k => τa ρ kx fun d ρ' => match d with | .bl c => (if c = true then k (.bl true) ρ' else τb ρ' kx k) | _ => False
def dNotV (τa : TD) : TD := fun ρ kx k => τa ρ kx fun d ρ' => match d with | .bl c => k (.bl (!c)) ρ' | _ => False
theorem pd_one {op : BoolOp} (h : PEd X a τ) : PEd X (.BoolOp op [a] pos) τ := ⟨pe_one h.p⟩
theorem pd_and (ha : PEd X a τa) (hb : PEd X (.BoolOp .And (b :: rest) pos) τb) : PEd X (.BoolOp .And (a :: b :: rest) pos) (dAndV τa τb) :=
  ⟨PE.imp (pe_and ha.p hb.p) fun σ H Q ⟨W, F, ρ, kx, k, tk, R, h, hQ⟩ => ⟨W, F, ρ, kx, _, tk, R, h, fun d ρ1 v1 H1 W1 h1 le1 R1 d1 => by
    cases d <;> try exact h1.elim
    rename_i c
    simp only [DV] at d1
    refine ⟨c, d1, ?_⟩
    cases c with
    | true => exact ⟨W1, F, ρ1, kx, k, tk.mono le1, R1, h1, fun b ρ' v' H' W' hk le R' dv => hQ b ρ' v' H' W' hk (le1.trans le) R' dv⟩
    | false => exact hQ _ ρ1 _ H1 W1 h1 le1 R1 (by simp only [DV])⟩⟩
def dIf (t : TDt) (τa τb : TD) : TD := fun ρ kx k => t ρ kx fun c ρ' => if c = true then τa ρ' kx k else τb ρ' kx k
theorem pd_if {c : Expr} (hc : PTd X c ta) (ha : PEd X a τa) (hb : PEd X b τb) : PEd X (.IfExp c a b pos) (dIf ta τa τb) :=
  ⟨PE.imp (pe_ifExp hc.p ha.p hb.p) fun σ H Q ⟨W, F, ρ, kx, k, tk, R, h, hQ⟩ => ⟨W, F, ρ, kx, _, tk, R, h, fun c ρ1 H1 W1 h1 le1 R1 => by
    cases c with
    | true => exact ⟨W1, F, ρ1, kx, k, tk.mono le1, R1, h1, fun b ρ' v' H' W' hk le R' dv => hQ b ρ' v' H' W' hk (le1.trans le) R' dv⟩
    | false => exact ⟨W1, F, ρ1, kx, k, tk.mono le1, R1, h1, fun b ρ' v' H' W' hk le R' dv => hQ b ρ' v' H' W' hk (le1.trans le) R' dv⟩⟩⟩
def gIsN (x : D) : Bool := match x with | .non => true | _ => false
def dUn (g : D → (D → Prop) → Prop) (τ : TD) : TD := fun ρ kx k => τ ρ kx fun d ρ' => g d fun d' => k d' ρ'
def gIs (x : D) (k : D → Prop) : Prop := k (.bl (gIsN x))
def gNotIs (x : D) (k : D → Prop) : Prop := k (.bl (!gIsN x))
def gNeg (x : D) (k : D → Prop) : Prop := match x with | .int i => k (.int (-i)) | _ => False
def dChain (g g' : G2) (τa τb τc : TD) : TD := fun ρ kx k => τa ρ kx fun x ρ1 => τb ρ1 kx fun y ρ2 => g x y fun z => match z with
  | .bl c => (if c = true then τc ρ2 kx fun w ρ3 => g' y w fun d => k d ρ3 else k (.bl false) ρ2)
  | _ => False
end
end DL
set_option maxHeartbeats 4000000
/-! DL3: arguments, displays, statements, loops, comprehensions. -/
namespace DL
open PySem PySem.Spec PyProof.Rows L2
section
variable {X : Cx} {a b e : Expr} {es : List Expr} {τ τa τb : TD} {τv : TDs} {τs : TDa} {pos : Pos}
/-! ### arguments -/
def dNil : TDa := fun ρ _ k => k [] ρ
def dCons (τ : TD) (τr : TDa) : TDa := fun ρ kx k => τ ρ kx fun d ρ1 => τr ρ1 kx fun ds ρ2 => k (d :: ds) ρ2
theorem ad_nil : PAd X [] dNil := ⟨PA.imp pa_nil fun σ H Q ⟨W, F, ρ, kx, k, tk, R, h, hQ⟩ => hQ [] ρ [] H W h (Wd.le.refl W) R dvs_nil⟩
theorem ad_cons (ha : PEd X e τ) (hr : PAd X es τs) (hs : starEach (e :: es) X.env = (false, eval e X.env) :: starEach es X.env := by rfl) : PAd X (e :: es) (dCons τ τs) :=
  ⟨PA.imp (pa_cons ha.p hr.p hs) fun σ H Q ⟨W, F, ρ, kx, k, tk, R, h, hQ⟩ => ⟨W, F, ρ, kx, _, tk, R, h, fun d ρ1 v1 H1 W1 h1 le1 R1 d1 =>
    ⟨W1, F, ρ1, kx, _, tk.mono le1, R1, h1, fun ds ρ2 vs H2 W2 h2 le2 R2 d2 => hQ (d :: ds) ρ2 (v1 :: vs) H2 W2 h2 (le1.trans le2) R2 (dvs_cons (d1.mono le2) d2)⟩⟩⟩
theorem kd_nil : PKd X [] dNil := ⟨PK.imp pk_nil fun σ H Q ⟨W, F, ρ, kx, k, tk, R, h, hQ⟩ => hQ [] ρ [] H W h (Wd.le.refl W) R dvs_nil⟩
theorem kd_cons {nm : Option Str} {kpos : Pos} {kws : List Keyword} (ha : PEd X e τ) (hr : PKd X kws τs) : PKd X (⟨nm, e, kpos⟩ :: kws) (dCons τ τs) :=
  ⟨PK.imp (pk_cons ha.p hr.p) fun σ H Q ⟨W, F, ρ, kx, k, tk, R, h, hQ⟩ => ⟨W, F, ρ, kx, _, tk, R, h, fun d ρ1 v1 H1 W1 h1 le1 R1 d1 =>
    ⟨W1, F, ρ1, kx, _, tk.mono le1, R1, h1, fun ds ρ2 vs H2 W2 h2 le2 R2 d2 => hQ (d :: ds) ρ2 (v1 :: vs) H2 W2 h2 (le1.trans le2) R2 (dvs_cons (d1.mono le2) d2)⟩⟩⟩
/-! ### displays; what is owned is frozen -/
def BIG : Nat := 1000000
theorem big_le {n : Nat} (h : n ≤ BIG) : n ≤ sizeLine := Nat.le_trans h (by unfold BIG; rw [sizeLine_eq]; decide)
theorem big_lt {n : Nat} (h : n < BIG) : n < sizeLine := Nat.lt_of_lt_of_le h (by unfold BIG; rw [sizeLine_eq]; decide)
def dTup (τ : TDa) : TD := fun ρ kx k => τ ρ kx fun ds ρ' => ds.length ≤ BIG ∧ ∃ d, Wk (.ptp ds) d ∧ k d ρ'
def plainT (o : Obj) : Prop := o.dict = none ∧ o.cls = .type "tuple"
def tTupF (t : TA) : TE := fun σ H Q => t σ H fun xs H1 => xs.length ≤ sizeLine ∧ ∀ p o, plainT o → H1 p = none → Q (.ref p) (upd H1 p (.frz o (.tup xs)))
theorem pe_tupF {t : TA} {x1 : Nat} (h : PA X es t) : PE X (.Tuple es x1 pos) (tTupF t) := by
  refine ⟨fun pins s σ H Q I hq => ?_⟩
  refine wpAny_Tuple_spliced (thn (h.run pos pins s σ H _ I hq) fun us s1 ⟨xs, H1, I1, r, z, q⟩ => ⟨by rw [← r.length]; exact z, ?_⟩)
  have hf : H1 s1.heap.objs.size = none := I1.hok.fresh (Nat.le_refl _)
  have e := Heap.get?_push_size s1.heap (o := { cls := .type "tuple", data := .seq us.toArray }) rfl
  refine ⟨.ref s1.heap.objs.size, upd H1 s1.heap.objs.size (.frz { cls := .type "tuple", data := .seq us.toArray } (.tup xs)), I1.laid (t' := s1.toks) (fun b u e => Heap.get?_push_of_some _ e) (Nat.le_refl _) ?_, rfl, q _ _ ⟨rfl, rfl⟩ hf⟩
  exact ⟨e, z, us, r, ⟨_, e, rfl, _, rfl⟩⟩
theorem newTupF {K : PySem.W.Frag} {mg : Str → Option Value} {W : Wd} {F H : Hp} {σ : L2.St} {ρ : Rho} (R : Rep K mg W F H σ ρ) {ds : List D} {vs : List V} (l : ds.length ≤ BIG) (d : DVs K mg W ds vs) {p : Addr} {o : Obj} (ho : plainT o) (hp : H p = none) :
    Rep K mg (W.add p (.frz o (.tup vs))) F (upd H p (.frz o (.tup vs))) σ ρ ∧ W.le (W.add p (.frz o (.tup vs))) ∧ DV K mg (W.add p (.frz o (.tup vs))) (.ptp ds) (.ref p) := by
  have le := Wd.add_le (W := W) (o := .frz o (.tup vs)) (free.fresh R.w hp).1
  refine ⟨R.add hp, le, ?_⟩
  simp only [DV]
  exact ⟨p, o, vs, rfl, ho.1, ho.2, upd_same, by rw [← dvs_len d]; exact big_le l, DVs.mono le _ _ d⟩
theorem newTup {K : PySem.W.Frag} {mg : Str → Option Value} {W : Wd} {F H : Hp} {σ : L2.St} {ρ : Rho} (R : Rep K mg W F H σ ρ) {ds : List D} {vs : List V} (l : ds.length ≤ BIG) (d : DVs K mg W ds vs) {p : Addr} (hp : H p = none) :
    Rep K mg (W.add p (.tup vs)) F (upd H p (.tup vs)) σ ρ ∧ W.le (W.add p (.tup vs)) ∧ DV K mg (W.add p (.tup vs)) (.tup ds) (.ref p) := by
  have le := Wd.add_le (W := W) (o := .tup vs) (free.fresh R.w hp).1
  refine ⟨R.add hp, le, ?_⟩
  simp only [DV]
  exact ⟨p, vs, rfl, .inl (.inl upd_same), by rw [← dvs_len d]; exact big_le l, DVs.mono le _ _ d⟩
theorem newLst {K : PySem.W.Frag} {mg : Str → Option Value} {W : Wd} {F H : Hp} {σ : L2.St} {ρ : Rho} (R : Rep K mg W F H σ ρ) {ds : List D} {vs : List V} (l : ds.length ≤ BIG) (d : DVs K mg W ds vs) {p : Addr} (hp : H p = none) :
    Rep K mg W F (upd H p (.lst vs)) σ ρ ∧ SV K mg W F (upd H p (.lst vs)) (.own ds) (.ref p) ∧ ∀ i, ¬ OwnsAt σ ρ i p := by
  have fr := free.fresh R.w hp
  have no : ∀ i, ¬ OwnsAt σ ρ i p := fun i h => by
    obtain ⟨s, _, _, _, h1, _⟩ := R.owned h
    obtain ⟨u, e⟩ := h1.there
    rw [hp] at e; cases e
  have ne : ∀ {b : Addr} {u : HO}, H b = some u → b ≠ p := fun e => ne_of_none e hp
  refine ⟨R.go (Wd.le.refl W) ⟨R.w.g.trans (same_upd hp), R.w.f.trans (same_upd hp), R.w.gf, fun q hq => ?_⟩ fun i b h => ?_, ⟨p, rfl, ⟨vs, upd_same, by rw [← dvs_len d]; exact big_le l, d⟩, fr⟩, no⟩
  · obtain ⟨t, g1, g2, f1, f2⟩ := R.w.t q hq
    obtain ⟨n1, n2⟩ := fr.2.2 q hq
    exact ⟨t.keep (upd_ne n1) (upd_ne n2), g1, g2, f1, f2⟩
  · obtain ⟨s, _, _, _, h1, h2⟩ := R.owned h
    obtain ⟨u, e⟩ := h1.there
    exact ⟨upd_ne (ne e), h2⟩
theorem pd_tup {x1 : Nat} (h : PAd X es τs) : PEd X (.Tuple es x1 pos) (dTup τs) :=
  ⟨PE.imp (pe_tupF h.p) fun σ H Q ⟨W, F, ρ, kx, k, tk, R, h, hQ⟩ => ⟨W, F, ρ, kx, _, tk, R, h, fun ds ρ1 vs H1 W1 ⟨l, d', wk, h1⟩ le1 R1 d1 =>
    ⟨by rw [← dvs_len d1]; exact big_le l, fun p o ho hp => by
      obtain ⟨R2, le2, d2⟩ := newTupF R1 l d1 ho hp
      exact hQ _ ρ1 _ _ _ h1 (le1.trans le2) R2 (DV.wk wk d2)⟩⟩⟩
def vLst (τ : TDa) : TDs := fun ρ kx k => τ ρ kx fun ds ρ' => ds.length ≤ BIG ∧ k (.own ds) ρ'
theorem vd_lst (h : PAd X es τs) : PEv X (.List es pos) (vLst τs) :=
  ⟨PE.imp (pe_lst h.p) fun σ H Q ⟨W, F, ρ, kx, k, tk, R, h, hQ⟩ => ⟨W, F, ρ, kx, _, tk, R, h, fun ds ρ1 vs H1 W1 ⟨l, h1⟩ le1 R1 d1 =>
    ⟨by rw [← dvs_len d1]; exact big_le l, fun p hp => by
      obtain ⟨R2, s2, no⟩ := newLst R1 l d1 hp
      exact hQ (.own ds) ρ1 _ _ W1 h1 le1 R2 s2 (fun a i _ ea => by cases ea; exact no i) (by intro z; cases z)⟩⟩⟩
def vDct : TDs := fun ρ kx k => k (.dct []) ρ
def S.toD : S → D
  | .val d => d
  | .own ds => .lst ds
  | .dct kvs => .dic (kvs.map (·.1)) (kvs.map (·.2))
  | .slf _ c fs ds => .ins c fs ds
  | .un => .non
theorem SV.freeze {K : PySem.W.Frag} {mg : Str → Option Value} {W : Wd} {F H : Hp} {σ : L2.St} {ρ : Rho} (R : Rep K mg W F H σ ρ) {s : S} {v : V} (h : SV K mg W F H s v) (no : ∀ a i, s.isOwn = true → v = .ref a → ¬ OwnsAt σ ρ i a) (hu : s ≠ .un) :
    ∃ W', W.le W' ∧ Rep K mg W' F H σ ρ ∧ DV K mg W' s.toD v := by
  by_cases o : s.isOwn = true
  · obtain ⟨a, ea, hh, fr⟩ := h.ofOwn o
    obtain ⟨u, eu⟩ := hh.there
    have le : W.le (W.add a u) := Wd.add_le fr.1
    have R2 : Rep K mg (W.add a u) F H σ ρ := R.go le (R.w.frz fr eu) fun i b hb => by
      obtain ⟨t, _, _, _, _, f2⟩ := R.owned hb
      have ne : b ≠ a := fun z => no a i o ea (z ▸ hb)
      exact ⟨rfl, (upd_ne ne).trans f2.1, f2.2.1, f2.2.2⟩
    refine ⟨_, le, R2, ?_⟩
    subst ea
    cases s with
    | un => exact hh.elim
    | val d => exact hh.elim
    | own ds =>
      obtain ⟨vs, e1, l, r⟩ := hh
      rw [eu] at e1; cases e1
      simp only [S.toD, DV]
      exact ⟨a, vs, rfl, upd_same, l, DVs.mono le _ _ r⟩
    | dct kvs =>
      obtain ⟨vs, e1, r⟩ := hh
      rw [eu] at e1; cases e1
      simp only [S.toD, DV]
      refine ⟨a, vs, rfl, upd_same, ?_, DVs.mono le _ _ r⟩
      have := dvs_len r
      rw [List.length_map] at this ⊢
      exact this
    | slf b c fs ds =>
      obtain ⟨_, C, dx, vs, m, e1, l, r⟩ := hh
      rw [eu] at e1; cases e1
      simp only [S.toD, DV]
      exact ⟨a, C, dx, vs, rfl, m, upd_same, l, DVs.mono le _ _ r⟩
  · cases s with
    | un => exact (hu rfl).elim
    | val d => exact ⟨W, Wd.le.refl W, R, h⟩
    | own ds => exact (o rfl).elim
    | dct kvs => exact (o rfl).elim
    | slf b c fs ds => exact (o rfl).elim
def dFz (τ : TDs) : TD := fun ρ kx k => τ ρ kx fun s ρ' => k s.toD ρ'
theorem PEv.d (h : PEv X e τv) : PEd X e (dFz τv) :=
  ⟨PE.imp h.p fun σ H Q ⟨W, F, ρ, kx, k, tk, R, h, hQ⟩ => ⟨W, F, ρ, kx, _, tk, R, h, fun s ρ1 v1 H1 W1 h1 le1 R1 s1 no hu => by
    obtain ⟨W2, le2, R2, d2⟩ := s1.freeze R1 no hu
    exact hQ _ ρ1 v1 H1 W2 h1 (le1.trans le2) R2 d2⟩⟩
def vVal (τ : TD) : TDs := fun ρ kx k => τ ρ kx fun d ρ' => k (.val d) ρ'
theorem PEd.v (h : PEd X e τ) : PEv X e (vVal τ) :=
  ⟨PE.imp h.p fun σ H Q ⟨W, F, ρ, kx, k, tk, R, h, hQ⟩ => ⟨W, F, ρ, kx, _, tk, R, h, fun d ρ1 v1 H1 W1 h1 le1 R1 d1 =>
    hQ (.val d) ρ1 v1 H1 W1 h1 le1 R1 d1 (fun a i o _ => by cases o) (by intro z; cases z)⟩⟩
/-! ### statements -/
variable {st : Stmt} {sts : List Stmt} {t u : TDS}
def sNext : TDS := fun ρ _ k => k.nx ρ
def sSeq (t u : TDS) : TDS := fun ρ kx k => t ρ kx { k with nx := fun ρ' => u ρ' kx k }
theorem bd_nil : PBd X [] sNext := ⟨PSs.imp pss_nil fun D σ H ⟨W, F, ρ, kx, k, tk, R, h, L⟩ => L.nx ρ σ H W h (Wd.le.refl W) R⟩
theorem bd_cons (h1 : PSd X st t) (h2 : PBd X sts u) : PBd X (st :: sts) (sSeq t u) :=
  ⟨PSs.imp (pss_cons h1.p h2.p) fun D σ H ⟨W, F, ρ, kx, k, tk, R, h, L⟩ => ⟨W, F, ρ, kx, _, tk, R, h,
    ⟨fun ρ' σ' H' W' hk le R' => ⟨W', F, ρ', kx, k, tk.mono le, R', hk, L.mono le⟩, L.rt, L.bk, L.ct⟩⟩⟩
theorem bd_one (h1 : PSd X st t) : PBd X [st] t := ⟨pss_one h1.p⟩
def sBrk : TDS := fun ρ _ k => k.bk ρ
def sCnt : TDS := fun ρ _ k => k.ct ρ
def sDrop (τ : TD) : TDS := fun ρ kx k => τ ρ kx fun _ ρ' => k.nx ρ'
theorem sd_expr (he : PEd X e τ) (hs : swapsWith e none pos.line X.env = pure false := by rfl) : PSd X (.Expr e pos) (sDrop τ) :=
  ⟨PS.imp (ps_expr he.p hs) fun D σ H ⟨W, F, ρ, kx, k, tk, R, h, L⟩ => ⟨W, F, ρ, kx, _, tk, R, h, fun d ρ1 v1 H1 W1 h1 le1 R1 d1 => L.nx ρ1 σ H1 W1 h1 le1 R1⟩⟩
def sRet (τ : TD) : TDS := fun ρ kx k => τ ρ kx k.rt
theorem sd_ret (he : PEd X e τ) : PSd X (.Return (some e) pos) (sRet τ) :=
  ⟨PS.imp (ps_ret he.p) fun D σ H ⟨W, F, ρ, kx, k, tk, R, h, L⟩ => ⟨W, F, ρ, kx, _, tk, R, h, fun d ρ1 v1 H1 W1 h1 le1 R1 d1 => L.rt d ρ1 v1 σ H1 W1 h1 le1 R1 d1⟩⟩
def sRetN : TDS := fun ρ _ k => k.rt .non ρ
def sIf (c : TDt) (t u : TDS) : TDS := fun ρ kx k => c ρ kx fun b ρ' => if b = true then t ρ' kx k else u ρ' kx k
theorem sd_if {c : Expr} {τc : TDt} {A B : List Stmt} (hc : PTd X c τc) (ha : PBd X A t) (hb : PBd X B u) : PSd X (.If c A B pos) (sIf τc t u) :=
  ⟨PS.imp (ps_if hc.p ha.p hb.p) fun D σ H ⟨W, F, ρ, kx, k, tk, R, h, L⟩ => ⟨W, F, ρ, kx, _, tk, R, h, fun c ρ1 H1 W1 h1 le1 R1 => by
    cases c with
    | true => exact ⟨W1, F, ρ1, kx, k, tk.mono le1, R1, h1, L.mono le1⟩
    | false => exact ⟨W1, F, ρ1, kx, k, tk.mono le1, R1, h1, L.mono le1⟩⟩⟩
def sAsg (i : Nat) (τ : TDs) : TDS := fun ρ kx k => τ ρ kx fun s ρ' => k.nx (ρ'.set i s)
theorem sd_asg (i : Nat) {x : Str} {pos' : Pos} (hN : X.N.Nodup) (hi : X.N[i]? = some x) (hx : Loc X.env.scope x) (he : PEv X e τv) (hs : swapsWith e (some (.Name x pos')) pos.line X.env = pure false := by rfl)
    (hf : X.fn x = true ∨ X.env.scope.names.lookup x = some .local := by first | exact .inl rfl | exact .inr rfl | assumption) : PSd X (.Assign [.Name x pos'] e pos) (sAsg i τv) :=
  ⟨PS.imp (ps_set hN hi hx he.p hs hf) fun D σ H ⟨W, F, ρ, kx, k, tk, R, h, L⟩ => ⟨W, F, ρ, kx, _, tk, R, h, fun s ρ1 v1 H1 W1 h1 le1 R1 s1 no hu =>
    L.nx _ _ H1 W1 h1 le1 (R1.set s1 fun a j o ev _ => no a j o ev)⟩⟩
def fzR (i : Nat) (ρ : Rho) : Rho := match ρ[i]? with
  | some .un => ρ
  | some s => ρ.set i (.val s.toD)
  | none => ρ
theorem Rep.fz {K : PySem.W.Frag} {mg : Str → Option Value} {W : Wd} {F H : Hp} {σ : L2.St} {ρ : Rho} (R : Rep K mg W F H σ ρ) (i : Nat) : ∃ W', W.le W' ∧ Rep K mg W' F H σ (fzR i ρ) := by
  have same : ∃ W', W.le W' ∧ Rep K mg W' F H σ ρ := ⟨W, Wd.le.refl W, R⟩
  unfold fzR
  cases q : ρ[i]? with
  | none => exact same
  | some s =>
    by_cases hu : s = .un
    · subst hu; exact same
    · have go : ∃ W', W.le W' ∧ Rep K mg W' F H σ (ρ.set i (.val s.toD)) := by
        obtain ⟨v, ev, sv⟩ := R.slot q hu
        -- without the slot i, nobody owns it
        have R0 : Rep K mg W F H (σ.set i (some .non)) (ρ.set i (.val .non)) := R.setVal (by simp only [DV])
        have no : ∀ a j, s.isOwn = true → v = .ref a → ¬ OwnsAt (σ.set i (some .non)) (ρ.set i (.val .non)) j a := by
          intro a j o ea ⟨t, t1, t2, t3⟩
          by_cases ej : i = j
          · subst ej
            have hl : i < ρ.length := (List.getElem?_eq_some_iff.mp q).1
            rw [List.getElem?_set_self hl] at t1
            cases t1
            cases t2
          · rw [List.getElem?_set_ne ej] at t1 t3
            exact R.sep i j a ej ⟨s, q, o, by rw [ev, ea]⟩ ⟨t, t1, t2, t3⟩
        obtain ⟨W2, le2, R2, d2⟩ := sv.freeze R0 no hu
        refine ⟨W2, le2, ?_⟩
        have R3 := R2.setVal (i := i) d2
        rw [List.set_set, List.set_set] at R3
        have es : σ.set i (some v) = σ := by
          have hl : i < σ.length := (List.getElem?_eq_some_iff.mp ev).1
          refine List.ext_getElem? fun j => ?_
          by_cases ej : i = j
          · subst ej
            rw [List.getElem?_set_self hl, ev]
          · rw [List.getElem?_set_ne ej]
        rw [es] at R3
        exact R3
      cases s with
      | un => exact (hu rfl).elim
      | val d => exact go
      | own ds => exact go
      | dct kvs => exact go
      | slf b c fs ds => exact go
def sFz (i : Nat) (t : TDS) : TDS := fun ρ kx k => t (fzR i ρ) kx k
theorem sd_fz (i : Nat) (h : PSd X st t) : PSd X st (sFz i t) :=
  ⟨PS.imp h.p fun D σ H ⟨W, F, ρ, kx, k, tk, R, h, L⟩ => by
    obtain ⟨W', le, R'⟩ := R.fz i
    exact ⟨W', F, _, kx, k, tk.mono le, R', h, L.mono le⟩⟩
end
end DL
set_option maxHeartbeats 4000000
/-! DL4: targets, several values at once, loops, comprehensions. -/
namespace DL
open PySem PySem.Spec PyProof.Rows L2
/-! ### targets -/
abbrev TGd := D → Rho → (Rho → Prop) → Prop
abbrev TGsd := List D → Rho → (Rho → Prop) → Prop
def Out (is : List Nat) (σ σ' : L2.St) : Prop := σ'.length = σ.length ∧ ∀ j, j ∉ is → σ'[j]? = σ[j]?
theorem Out.refl {is : List Nat} (σ : L2.St) : Out is σ σ := ⟨rfl, fun _ _ => rfl⟩
theorem Out.trans {is js : List Nat} {σ σ1 σ2 : L2.St} (a : Out is σ σ1) (b : Out js σ1 σ2) : Out (is ++ js) σ σ2 :=
  ⟨b.1.trans a.1, fun j h => (b.2 j fun z => h (List.mem_append_right _ z)).trans (a.2 j fun z => h (List.mem_append_left _ z))⟩
def ROut (is : List Nat) (ρ ρ' : Rho) : Prop := ρ'.length = ρ.length ∧ ∀ j, j ∉ is → ρ'[j]? = ρ[j]?
theorem ROut.refl {is : List Nat} (ρ : Rho) : ROut is ρ ρ := ⟨rfl, fun _ _ => rfl⟩
theorem ROut.trans {is js : List Nat} {ρ ρ1 ρ2 : Rho} (a : ROut is ρ ρ1) (b : ROut js ρ1 ρ2) : ROut (is ++ js) ρ ρ2 :=
  ⟨b.1.trans a.1, fun j h => (b.2 j fun z => h (List.mem_append_right _ z)).trans (a.2 j fun z => h (List.mem_append_left _ z))⟩
theorem ROut.set {i : Nat} {ρ : Rho} {s : S} : ROut [i] ρ (ρ.set i s) := ⟨List.length_set, fun j h => List.getElem?_set_ne fun z => h (by rw [z]; exact List.mem_singleton.mpr rfl)⟩
theorem Out.set {i : Nat} {σ : L2.St} {v : Option V} : Out [i] σ (σ.set i v) := ⟨List.length_set, fun j h => List.getElem?_set_ne fun z => h (by rw [z]; exact List.mem_singleton.mpr rfl)⟩
def lG (X : Cx) (is : List Nat) (γ : TGd) : TG := fun v σ H Q => ∃ (W : Wd) (F : Hp) (ρ : Rho) (d : D) (k : Rho → Prop), Rep X.K X.mg W F H σ ρ ∧ DV X.K X.mg W d v ∧ γ d ρ k ∧
  ∀ ρ' σ' H' W', k ρ' → W.le W' → Rep X.K X.mg W' F H' σ' ρ' → Out is σ σ' → ROut is ρ ρ' → Q σ' H'
def lGs (X : Cx) (is : List Nat) (γ : TGsd) : TGs := fun vs σ H Q => ∃ (W : Wd) (F : Hp) (ρ : Rho) (ds : List D) (k : Rho → Prop), Rep X.K X.mg W F H σ ρ ∧ DVs X.K X.mg W ds vs ∧ γ ds ρ k ∧
  ∀ ρ' σ' H' W', k ρ' → W.le W' → Rep X.K X.mg W' F H' σ' ρ' → Out is σ σ' → ROut is ρ ρ' → Q σ' H'
structure PGd (X : Cx) (target : Expr) (is : List Nat) (γ : TGd) : Prop where
  p : PG X target (lG X is γ)
structure PGsd (X : Cx) (ts : List Expr) (is : List Nat) (γ : TGsd) : Prop where
  p : PGs X ts (lGs X is γ)
theorem PG.imp {X : Cx} {e : Expr} {t t' : TG} (h : PG X e t) (f : ∀ v σ H Q, t' v σ H Q → t v σ H Q) : PG X e t' := ⟨fun pins s σ H v u Q I r q => h.run pins s σ H v u Q I r (f _ _ _ _ q)⟩
theorem PGs.imp {X : Cx} {e : List Expr} {t t' : TGs} (h : PGs X e t) (f : ∀ v σ H Q, t' v σ H Q → t v σ H Q) : PGs X e t' := ⟨fun pins s σ H v u Q I r q => h.run pins s σ H v u Q I r (f _ _ _ _ q)⟩
section
variable {X : Cx} {e : Expr} {es : List Expr} {γ : TGd} {γs : TGsd} {is js : List Nat} {pos : Pos}
def gN (i : Nat) : TGd := fun d ρ k => k (ρ.set i (.val d))
theorem gd_name (i : Nat) {x : Str} (hN : X.N.Nodup) (hi : X.N[i]? = some x) (hx : Loc X.env.scope x) (hf : X.fn x = true ∨ X.env.scope.names.lookup x = some .local := by first | exact .inl rfl | exact .inr rfl | assumption) :
    PGd X (.Name x pos) [i] (gN i) :=
  ⟨PG.imp (pg_name hN hi hx hf) fun v σ H Q ⟨W, F, ρ, d, k, R, dv, h, hQ⟩ => hQ _ _ H W h (Wd.le.refl W) (R.setVal dv) Out.set ROut.set⟩
def gsN : TGsd := fun ds ρ k => ds = [] ∧ k ρ
def gsC (γ : TGd) (γs : TGsd) : TGsd := fun ds ρ k => match ds with | [] => False | d :: r => γ d ρ fun ρ1 => γs r ρ1 k
theorem gsd_nil : PGsd X [] [] gsN := ⟨PGs.imp pgs_nil fun vs σ H Q ⟨W, F, ρ, ds, k, R, dv, h, hQ⟩ => by
  obtain ⟨e, h⟩ := h
  subst e
  simp only [DVs] at dv
  exact ⟨dv, hQ ρ σ H W h (Wd.le.refl W) R (Out.refl σ) (ROut.refl ρ)⟩⟩
theorem gsd_cons (h1 : PGd X e is γ) (h2 : PGsd X es js γs) (hs : (assignEach (e :: es) X.env).map (·.2) = assign e X.env :: (assignEach es X.env).map (·.2) := by rfl) : PGsd X (e :: es) (is ++ js) (gsC γ γs) :=
  ⟨PGs.imp (pgs_cons h1.p h2.p hs) fun vs σ H Q ⟨W, F, ρ, ds, k, R, dv, h, hQ⟩ => by
    cases ds with
    | nil => exact h.elim
    | cons d r =>
      simp only [DVs] at dv
      obtain ⟨v, vr, e, dv1, dv2⟩ := dv
      refine ⟨v, vr, e, W, F, ρ, d, _, R, dv1, h, fun ρ1 σ1 H1 W1 h1 le1 R1 o1 p1 => ?_⟩
      exact ⟨W1, F, ρ1, r, k, R1, DVs.mono le1 _ _ dv2, h1, fun ρ2 σ2 H2 W2 h2 le2 R2 o2 p2 => hQ ρ2 σ2 H2 W2 h2 (le1.trans le2) R2 (o1.trans o2) (p1.trans p2)⟩⟩
def gT (n : Nat) (γs : TGsd) : TGd := fun d ρ k => match d with | .tup ds => ds.length = n ∧ γs ds ρ k | _ => False
theorem gd_tup {k n : Nat} (hc : X.calm = true) (h : PGsd X es is γs) (hn : (assignEach es X.env).length = n := by rfl) (hst : (assignEach es X.env).findIdx? (·.1) = none := by rfl) : PGd X (.Tuple es k pos) is (gT n γs) :=
  ⟨PG.imp (pg_tup hc h.p hn hst) fun v σ H Q ⟨W, F, ρ, d, k, R, dv, h, hQ⟩ => by
    cases d <;> try exact h.elim
    rename_i ds
    simp only [DV] at dv
    obtain ⟨a, vs, e, sq, l, dvs⟩ := dv
    exact ⟨a, vs, e, seqT_mono R.w.g sq, (dvs_len dvs).symm.trans h.1, W, F, ρ, ds, k, R, dvs, h.2, hQ⟩⟩
def sAsgT (γ : TGd) (τ : TD) : TDS := fun ρ kx k => τ ρ kx fun d ρ' => γ d ρ' k.nx
theorem sd_asgT {tg : Expr} {τ : TD} (he : PEd X e τ) (hg : PGd X tg is γ) (hs : swapsWithSole [tg] e pos.line X.env = pure false := by rfl) (hw : swappedStores [tg] e X.env = pure none := by rfl)
    (h1 : (assignEach [tg] X.env).map (·.2) = [assign tg X.env] := by rfl) : PSd X (.Assign [tg] e pos) (sAsgT γ τ) :=
  ⟨PS.imp (ps_asg he.p hg.p hs hw h1) fun D σ H ⟨W, F, ρ, kx, k, tk, R, h, L⟩ => ⟨W, F, ρ, kx, _, tk, R, h, fun d ρ1 v1 H1 W1 h1 le1 R1 d1 =>
    ⟨W1, F, ρ1, d, _, R1, d1, h1, fun ρ2 σ2 H2 W2 h2 le2 R2 _ _ => L.nx ρ2 σ2 H2 W2 h2 (le1.trans le2) R2⟩⟩⟩
end
/-! ### several values, some owned -/
def SVs (K : PySem.W.Frag) (mg : Str → Option Value) (W : Wd) (F H : Hp) : List S → List V → Prop := Paired fun s v => SV K mg W F H s v ∧ s ≠ .un
def Apart (σ : L2.St) (ρ : Rho) : List S → List V → Prop
  | s :: ss, v :: vs => (∀ a, s.isOwn = true → v = .ref a → (∀ i, ¬ OwnsAt σ ρ i a) ∧ ∀ (j : Nat) (t : S), ss[j]? = some t → t.isOwn = true → vs[j]? ≠ some (.ref a)) ∧ Apart σ ρ ss vs
  | _, _ => True
abbrev TDm := Rho → KX → (List S → Rho → Prop) → Prop
def lM (X : Cx) (τ : TDm) : TA := fun σ H Q => ∃ (W : Wd) (F : Hp) (ρ : Rho) (kx : KX) (k : List S → Rho → Prop), TakesD X W F kx ∧ Rep X.K X.mg W F H σ ρ ∧ τ ρ kx k ∧
  ∀ ss ρ' vs H' W', k ss ρ' → W.le W' → Rep X.K X.mg W' F H' σ ρ' → SVs X.K X.mg W' F H' ss vs → Apart σ ρ' ss vs → Q vs H'
structure PMd (X : Cx) (es : List Expr) (τ : TDm) : Prop where
  p : PA X es (lM X τ)
section
variable {X : Cx} {e : Expr} {es : List Expr} {τ : TDs} {τs : TDm} {pos : Pos}
def mNil : TDm := fun ρ _ k => k [] ρ
def mCons (τ : TDs) (τr : TDm) : TDm := fun ρ kx k => τ ρ kx fun s ρ1 => τr ρ1 kx fun ss ρ2 => k (s :: ss) ρ2
theorem md_nil : PMd X [] mNil := ⟨PA.imp pa_nil fun σ H Q ⟨W, F, ρ, kx, k, tk, R, h, hQ⟩ => hQ [] ρ [] H W h (Wd.le.refl W) R .nil trivial⟩
theorem SVs.weakF {K : PySem.W.Frag} {mg : Str → Option Value} {W : Wd} {F F1 H : Hp} (e : Same F F1) : ∀ {ss : List S} {vs : List V}, SVs K mg W F1 H ss vs → SVs K mg W F H ss vs
  | _, _, .nil => .nil
  | _, _, .cons h t => .cons ⟨h.1.mono (Wd.le.refl W) fun a ea o => ⟨rfl, by
      obtain ⟨b, eb, _, f⟩ := h.1.ofOwn o
      rw [ea] at eb
      cases eb
      refine ⟨f.1, ?_, f.2.2⟩
      cases q : F a with
      | none => rfl
      | some u => exact absurd (e a u q) (by rw [f.2.1]; intro z; cases z)⟩, h.2⟩ (SVs.weakF e t)
theorem md_cons (ha : PEv X e τ) (hr : PMd X es τs) (hs : starEach (e :: es) X.env = (false, eval e X.env) :: starEach es X.env := by rfl) : PMd X (e :: es) (mCons τ τs) :=
  ⟨PA.imp (pa_cons ha.p hr.p hs) fun σ H Q ⟨W, F, ρ, kx, k, tk, R, h, hQ⟩ => ⟨W, F, ρ, kx, _, tk, R, h, fun s ρ1 v1 H1 W1 h1 le1 R1 s1 no hu => by
    by_cases o : s.isOwn = true
    · obtain ⟨a, ea, hh, fr⟩ := s1.ofOwn o
      subst ea
      obtain ⟨u, eu⟩ := hh.there
      have sF : Same F (upd F a u) := same_upd fr.2.1
      have w2 : WOk W1 (upd F a u) H1 := by
        refine ⟨R1.w.g, fun b x eb => ?_, fun b hb => ?_, fun p hp => ?_⟩
        · by_cases z : b = a
          · subst z; rw [upd_same] at eb; cases eb; exact eu
          · rw [upd_ne z] at eb; exact R1.w.f b x eb
        · by_cases z : b = a
          · subst z; exact fr.1
          · rw [upd_ne z] at hb; exact R1.w.gf b hb
        · obtain ⟨t, g1, g2, f1, f2⟩ := R1.w.t p hp
          obtain ⟨n1, n2⟩ := fr.2.2 p hp
          exact ⟨t, g1, g2, (upd_ne n1).trans f1, (upd_ne n2).trans f2⟩
      have R2 : Rep X.K X.mg W1 (upd F a u) H1 σ ρ1 := R1.go (Wd.le.refl _) w2 fun i b hb => by
        obtain ⟨t, _, _, _, _, f2⟩ := R1.owned hb
        have ne : b ≠ a := fun z => no a i o rfl (z ▸ hb)
        exact ⟨rfl, f2.1, (upd_ne ne).trans f2.2.1, f2.2.2⟩
      refine ⟨W1, upd F a u, ρ1, kx, _, (tk.mono le1).anti sF, R2, h1, fun ss ρ2 vs H2 W2 h2 le2 R3 sv ap => ?_⟩
      have eu2 : H2 a = some u := R3.w.f a u upd_same
      have gn : W2.G a = none := R3.w.gf a (by rw [upd_same]; intro z; cases z)
      have tn : ∀ p, W2.T = some p → p.1 ≠ a ∧ p.2 ≠ a := fun p hp => by
        obtain ⟨_, _, _, f1, f2⟩ := R3.w.t p hp
        exact ⟨(fun z => by rw [z, upd_same] at f1; cases f1), (fun z => by rw [z, upd_same] at f2; cases f2)⟩
      have no2 : ∀ i, ¬ OwnsAt σ ρ2 i a := fun i hb => by
        obtain ⟨t, _, _, _, _, f2⟩ := R3.owned hb
        have := f2.2.1
        rw [upd_same] at this; cases this
      refine hQ (s :: ss) ρ2 (.ref a :: vs) H2 W2 h2 (le1.trans le2) (R3.weakF sF) (.cons ⟨SV.toOwn (hh.mono le2 (eu2.trans eu.symm)) ⟨gn, fr.2.1, tn⟩, hu⟩ (sv.weakF sF)) ⟨fun b _ eb => ?_, ap⟩
      cases eb
      refine ⟨no2, fun j t ht ho hv => ?_⟩
      have key : ∀ {ss : List S} {vs : List V} (j : Nat), SVs X.K X.mg W2 (upd F a u) H2 ss vs → ss[j]? = some t → vs[j]? = some (V.ref a) → False := by
        intro ss vs j q
        induction q generalizing j with
        | nil => intro h; simp at h
        | cons p r ih =>
          intro h1 h2
          cases j with
          | zero =>
            simp at h1 h2
            subst h1 h2
            obtain ⟨b, eb, _, f⟩ := p.1.ofOwn ho
            cases eb
            have := f.2.1
            rw [upd_same] at this; cases this
          | succ j => exact ih j (by simpa using h1) (by simpa using h2)
      exact key j sv ht hv
    · refine ⟨W1, F, ρ1, kx, _, tk.mono le1, R1, h1, fun ss ρ2 vs H2 W2 h2 le2 R3 sv ap => ?_⟩
      exact hQ (s :: ss) ρ2 (v1 :: vs) H2 W2 h2 (le1.trans le2) R3 (.cons ⟨s1.mono le2 fun a _ z => (o z).elim, hu⟩ sv) ⟨fun b z _ => (o z).elim, ap⟩⟩⟩
def setV : L2.St → List Nat → List V → L2.St
  | σ, i :: is, v :: vs => setV (σ.set i (some v)) is vs
  | σ, _, _ => σ
def setS : Rho → List Nat → List S → Rho
  | ρ, i :: is, s :: ss => setS (ρ.set i s) is ss
  | ρ, _, _ => ρ
theorem Rep.setAll {K : PySem.W.Frag} {mg : Str → Option Value} {W : Wd} {F H : Hp} : ∀ {is : List Nat} {ss : List S} {vs : List V} {σ : L2.St} {ρ : Rho}, Rep K mg W F H σ ρ → SVs K mg W F H ss vs → Apart σ ρ ss vs → Rep K mg W F H (setV σ is vs) (setS ρ is ss)
  | [], _, _, σ, ρ, R, _, _ => by simpa only [setV, setS] using R
  | i :: is, _, _, σ, ρ, R, .nil, _ => by simpa only [setV, setS] using R
  | i :: is, s :: ss, v :: vs, σ, ρ, R, .cons h t, ap => by
    refine Rep.setAll (is := is) (R.set h.1 fun a j o ev _ => (ap.1 a o ev).1 j) t ?_
    -- nobody new owns what comes later
    have sub : ∀ {ss' : List S} {vs' : List V}, Apart σ ρ ss' vs' → (∀ a, s.isOwn = true → v = .ref a → ∀ (j : Nat) (t : S), ss'[j]? = some t → t.isOwn = true → vs'[j]? ≠ some (.ref a)) → Apart (σ.set i (some v)) (ρ.set i s) ss' vs' := by
      intro ss'
      induction ss' with
      | nil => intro vs' _ _; cases vs' <;> trivial
      | cons s' ss' ih =>
        intro vs' ap' hn
        cases vs' with
        | nil => trivial
        | cons v' vs' =>
          refine ⟨fun a o ev => ⟨fun j hj => ?_, (ap'.1 a o ev).2⟩, ih ap'.2 fun a o ev j t ht ho => hn a o ev (j + 1) t (by simpa using ht) ho⟩
          obtain ⟨t1, q1, q2, q3⟩ := hj
          by_cases e : i = j
          · subst e
            have hl : i < ρ.length := by
              have := (List.getElem?_eq_some_iff.mp q1).1
              rwa [List.length_set] at this
            rw [List.getElem?_set_self hl] at q1
            rw [List.getElem?_set_self (by rw [← R.len]; exact hl)] at q3
            cases q1
            have e3 : v = .ref a := Option.some.inj (Option.some.inj q3)
            exact hn a q2 e3 0 s' rfl o (by rw [← ev]; rfl)
          · rw [List.getElem?_set_ne e] at q1 q3
            exact (ap'.1 a o ev).1 j ⟨t1, q1, q2, q3⟩
    exact sub ap.2 fun a o ev => (ap.1 a o ev).2
def sPar (is : List Nat) (τ : TDm) : TDS := fun ρ kx k => τ ρ kx fun ss ρ' => ss.length = is.length ∧ k.nx (setS ρ' is ss)
theorem SVs.len {K : PySem.W.Frag} {mg : Str → Option Value} {W : Wd} {F H : Hp} {ss : List S} {vs : List V} (h : SVs K mg W F H ss vs) : ss.length = vs.length := Paired.length h
theorem sd_par2 (i j : Nat) {x y : Str} {a b : Expr} {px py pt : Pos} {kt k2 : Nat} {pt2 : Pos} (hc : X.calm = true) (hN : X.N.Nodup) (hi : X.N[i]? = some x) (hj : X.N[j]? = some y) (hij : i ≠ j)
    (hx : X.env.scope.names.lookup x = some .local) (hy : X.env.scope.names.lookup y = some .local) (ha : PMd X [a, b] τs)
    (hw : swappedStores [.Tuple [.Name x px, .Name y py] kt pt] (.Tuple [a, b] k2 pt2) X.env = pure (some [x, y]))
    (hs : swapsWithSole [.Tuple [.Name x px, .Name y py] kt pt] (.Tuple [a, b] k2 pt2) pos.line X.env = pure false := by rfl) :
    PSd X (.Assign [.Tuple [.Name x px, .Name y py] kt pt] (.Tuple [a, b] k2 pt2) pos) (sPar [i, j] τs) :=
  ⟨PS.imp (ps_par hc hN hi hj hij hx hy ha.p hw hs) fun D σ H ⟨W, F, ρ, kx, k, tk, R, h, L⟩ => ⟨W, F, ρ, kx, _, tk, R, h, fun ss ρ1 vs H1 W1 ⟨l, h1⟩ le1 R1 sv ap => by
    have lv := sv.len
    rw [l] at lv
    match vs, lv with
    | [v, w], _ => exact ⟨v, w, rfl, L.nx _ _ H1 W1 h1 le1 (R1.setAll (is := [i, j]) sv ap)⟩⟩⟩
structure PNs (X : Cx) (ts : List Expr) (is : List Nat) : Prop where
  p : PGs X ts (fun vs σ H Q => vs.length = is.length ∧ Q (setV σ is vs) H)
theorem pn_nil : PNs X [] [] := ⟨PGs.imp pgs_nil fun vs σ H Q ⟨l, q⟩ => by
  cases vs with
  | nil => exact ⟨rfl, q⟩
  | cons v vs => cases l⟩
theorem pn_cons (i : Nat) {x : Str} {p : Pos} {is : List Nat} (hN : X.N.Nodup) (hi : X.N[i]? = some x) (hx : Loc X.env.scope x) (h : PNs X es is)
    (hs : (assignEach (.Name x p :: es) X.env).map (·.2) = assign (.Name x p) X.env :: (assignEach es X.env).map (·.2) := by rfl) (hf : X.fn x = true ∨ X.env.scope.names.lookup x = some .local := by first | exact .inl rfl | exact .inr rfl | assumption) : PNs X (.Name x p :: es) (i :: is) :=
  ⟨PGs.imp (pgs_cons (pg_name hN hi hx hf) h.p hs) fun vs σ H Q ⟨l, q⟩ => by
    cases vs with
    | nil => cases l
    | cons v vs => exact ⟨v, vs, rfl, Nat.succ.inj l, q⟩⟩
theorem sd_parT {ts : List Expr} {is : List Nat} {kt k2 : Nat} {pt pt2 : Pos} (hb : is.length ≤ BIG) (hc : X.calm = true) (ha : PMd X es τs) (hg : PNs X ts is)
    (hn : (assignEach ts X.env).length = is.length := by rfl) (hst : (assignEach ts X.env).findIdx? (·.1) = none := by rfl)
    (hs : swapsWithSole [.Tuple ts kt pt] (.Tuple es k2 pt2) pos.line X.env = pure false := by rfl) (hw : swappedStores [.Tuple ts kt pt] (.Tuple es k2 pt2) X.env = pure none := by rfl)
    (h1 : (assignEach [.Tuple ts kt pt] X.env).map (·.2) = [assign (.Tuple ts kt pt) X.env] := by rfl) :
    PSd X (.Assign [.Tuple ts kt pt] (.Tuple es k2 pt2) pos) (sPar is τs) :=
  ⟨PS.imp (ps_asg (pe_tup ha.p) (pg_tup hc hg.p hn hst) hs hw h1) fun D σ H ⟨W, F, ρ, kx, k, tk, R, h, L⟩ => ⟨W, F, ρ, kx, fun ss ρ' => ss.length = is.length ∧ k.nx (setS ρ' is ss), tk, R, h, fun ss ρ1 vs H1 W1 ⟨l, h1⟩ le1 R1 sv ap => by
    have lv := sv.len
    refine ⟨by rw [← lv, l]; exact big_le hb, fun p hp => ⟨p, vs, rfl, .inl (.inl upd_same), by rw [← lv, l], by rw [← lv, l], ?_⟩⟩
    have fr := free.fresh R1.w hp
    have ne : ∀ {b : Addr} {u : HO}, H1 b = some u → b ≠ p := fun e => ne_of_none e hp
    have R2 : Rep X.K X.mg W1 F (upd H1 p (.tup vs)) σ ρ1 := R1.go (Wd.le.refl W1) ⟨R1.w.g.trans (same_upd hp), R1.w.f.trans (same_upd hp), R1.w.gf, fun q hq => by
      obtain ⟨t, g1, g2, f1, f2⟩ := R1.w.t q hq
      obtain ⟨n1, n2⟩ := fr.2.2 q hq
      exact ⟨t.keep (upd_ne n1) (upd_ne n2), g1, g2, f1, f2⟩⟩ fun i b hb => by
        obtain ⟨s, _, _, _, q1, q2⟩ := R1.owned hb
        obtain ⟨u, e⟩ := q1.there
        exact ⟨upd_ne (ne e), q2⟩
    have sv2 : SVs X.K X.mg W1 F (upd H1 p (.tup vs)) ss vs := by
      have : ∀ {ss : List S} {vs' : List V}, SVs X.K X.mg W1 F H1 ss vs' → SVs X.K X.mg W1 F (upd H1 p (.tup vs)) ss vs' := by
        intro ss vs' q
        induction q with
        | nil => exact .nil
        | cons r _ ih => exact .cons ⟨r.1.mono (Wd.le.refl W1) fun a ea o => by
            obtain ⟨b, eb, hb, fb⟩ := r.1.ofOwn o
            rw [ea] at eb
            cases eb
            obtain ⟨u, e⟩ := hb.there
            exact ⟨upd_ne (ne e), fb⟩, r.2⟩ ih
      exact this sv
    exact L.nx _ _ _ W1 h1 le1 (R2.setAll sv2 ap)⟩⟩
end
end DL
set_option maxHeartbeats 4000000
/-! DL5: what is walked, for, list comprehensions, while. -/
namespace DL
open PySem PySem.Spec PyProof.Rows L2
abbrev TDi := Rho → KX → (List D → Rho → Prop) → Prop
structure WalkD (X : Cx) (W1 : Wd) (items : List D) (J : It) : Prop where
  len : items.length ≤ sizeLine
  w : ∃ (Gc : Hp → Prop) (Y : Nat → Hp → V → Hp → Prop), Walk J items.length Gc Y ∧ (∀ H2 : Hp, Same W1.G H2 → Gc H2) ∧
    ∀ (i : Nat) (H2 H3 : Hp) (x : V) (W2 : Wd) (F : Hp) (σ : L2.St) (ρ : Rho), i < items.length → W1.le W2 → Rep X.K X.mg W2 F H2 σ ρ → Y i H2 x H3 →
      ∃ d W3, items[i]? = some d ∧ W2.le W3 ∧ Rep X.K X.mg W3 F H3 σ ρ ∧ DV X.K X.mg W3 d x
structure PId (X : Cx) (tg iter : Expr) (τ : TDi) : Prop where
  p : ∃ wi : TI, PI X tg iter wi ∧ ∀ (σ : L2.St) (H : Hp) (R : It → Hp → Prop) (W : Wd) (F : Hp) (ρ : Rho) (kx : KX) (k : List D → Rho → Prop), TakesD X W F kx → Rep X.K X.mg W F H σ ρ → τ ρ kx k →
    (∀ items ρ' H1 W1 J, k items ρ' → W.le W1 → Rep X.K X.mg W1 F H1 σ ρ' → WalkD X W1 items J → R J H1) → wi σ H R
section
variable {X : Cx} {tg iter e : Expr} {τ τe : TD} {τi : TDi} {pos : Pos}
def iSeq (τ : TD) : TDi := fun ρ kx k => τ ρ kx fun d ρ' => match d with
  | .lst ds => k ds ρ'
  | _ => False
def iTupD (τ : TD) : TDi := fun ρ kx k => τ ρ kx fun d ρ' => match d with
  | .tup ds => k ds ρ'
  | _ => False
theorem id_tup (h : PEd X iter τ) : PId X tg iter (iTupD τ) :=
  ⟨⟨_, pi_tup h.p, fun σ H R W F ρ kx k tk Rp hτ hR => ⟨W, F, ρ, kx, _, tk, Rp, hτ, fun d ρ1 v1 H1 W1 h1 le1 R1 d1 => by
    cases d <;> try exact h1.elim
    rename_i ds
    simp only [DV] at d1
    obtain ⟨a, vs, e, g, l, dv⟩ := d1
    have hl := dvs_len dv
    refine ⟨a, e, ⟨vs, seqT_mono R1.w.g g⟩, hR ds ρ1 H1 W1 _ h1 le1 R1 ⟨by rw [hl]; exact l, (fun H => SqT X.K H a vs), YAt vs, by rw [hl]; exact walk_tup, fun H2 s2 => seqT_mono s2 g, fun i H2 H3 x W2 F2 σ2 ρ2 hi le2 R2 y => ?_⟩⟩
    obtain ⟨e3, hx⟩ := y
    subst e3
    obtain ⟨d, hd, dx⟩ := dvs_getV dv hx
    exact ⟨d, W2, hd, Wd.le.refl _, R2, dx.mono le2⟩⟩⟩⟩
def rng (lo : Int) (n : Nat) : List D := (List.range n).map fun i => D.int (lo + (i : Nat))
theorem rng_len (lo : Int) (n : Nat) : (rng lo n).length = n := by simp [rng]
theorem rng_get {lo : Int} {n i : Nat} (h : i < n) : (rng lo n)[i]? = some (D.int (lo + (i : Nat))) := by simp [rng, h]
theorem walk_rngD {W1 : Wd} (lo : Int) (n : Nat) (h : n ≤ BIG) : WalkD X W1 (rng lo n) (Itr lo n) :=
  ⟨by rw [rng_len]; exact big_le h, _, _, by rw [rng_len]; exact walk_range, fun _ _ => trivial, fun i H2 H3 x W2 F2 σ2 ρ2 hi le2 R2 y => by
    rw [rng_len] at hi
    obtain ⟨e3, hx⟩ := y
    subst e3
    subst hx
    exact ⟨_, W2, rng_get hi, Wd.le.refl _, R2, by simp only [DV]⟩⟩
def iRg1 (τs : TDa) : TDi := fun ρ kx k => τs ρ kx fun ds ρ' => match ds with
  | [.int j] => (-1000000 ≤ j ∧ j ≤ 1000000) ∧ k (rng 0 j.toNat) ρ'
  | _ => False
def iRg2 (τs : TDa) : TDi := fun ρ kx k => τs ρ kx fun ds ρ' => match ds with
  | [.int i, .int j] => (-1000000 ≤ i ∧ i ≤ 1000000 ∧ -1000000 ≤ j ∧ j ≤ 1000000 ∧ j - i ≤ 1000000) ∧ k (rng i (j - i).toNat) ρ'
  | _ => False
theorem dvs1 {K : PySem.W.Frag} {mg : Str → Option Value} {W : Wd} {d : D} {vs : List V} (h : DVs K mg W [d] vs) : ∃ v, vs = [v] ∧ DV K mg W d v := by
  simp only [DVs] at h
  obtain ⟨v, vr, e, r, t⟩ := h
  subst t
  exact ⟨v, e, r⟩
theorem dvs2 {K : PySem.W.Frag} {mg : Str → Option Value} {W : Wd} {d d2 : D} {vs : List V} (h : DVs K mg W [d, d2] vs) : ∃ v v2, vs = [v, v2] ∧ DV K mg W d v ∧ DV K mg W d2 v2 := by
  simp only [DVs] at h
  obtain ⟨v, vr, e, r, v2, vr2, e2, r2, t⟩ := h
  subst t
  subst e2
  exact ⟨v, v2, e, r, r2⟩
theorem id_range1 {a : Expr} {τs : TDa} {p : Pos} (hg : Gl X "range") (hm : X.mg "range" = none) (ha : PAd X [a] τs) (hs : starEach [a] X.env = [(false, eval a X.env)] := by rfl) : PId X tg (.Call (.Name "range" p) [a] [] pos) (iRg1 τs) :=
  ⟨⟨_, pi_range1 hg hm ha.p hs, fun σ H R W F ρ kx k tk Rp hτ hR => ⟨W, F, ρ, kx, _, tk, Rp, hτ, fun ds ρ1 vs H1 W1 h1 le1 R1 d1 => by
    match ds, h1, d1 with
    | [.int j], h1, d1 =>
      obtain ⟨v, e, r⟩ := dvs1 d1
      simp only [DV] at r
      subst r
      have b := h1.1
      exact ⟨j, e, by omega, by omega, hR _ ρ1 H1 W1 _ h1.2 le1 R1 (walk_rngD 0 j.toNat (by unfold BIG; omega))⟩⟩⟩⟩
/-! ### for -/
variable {γ : TGd} {is : List Nat} {body : List Stmt} {tb : TDS}
def forD (γ : TGd) (tb : TDS) : List D → TDS
  | [] => fun ρ _ k => k.nx ρ
  | d :: ds => fun ρ kx k => γ d ρ fun ρ1 => tb ρ1 kx { nx := fun ρ' => forD γ tb ds ρ' kx k, ct := fun ρ' => forD γ tb ds ρ' kx k, bk := k.nx, rt := k.rt }
def sFor (τi : TDi) (γ : TGd) (tb : TDS) : TDS := fun ρ kx k => τi ρ kx fun ds ρ' => forD γ tb ds ρ' kx k
theorem sd_for (hp : PassesOwn (model X.prog X.w) X.A X.env X.xe) (hc : X.calm = true) (hi : PId X tg iter τi) (hg : PGd X tg is γ) (hb : PBd X body tb) (hs : ∀ x, foldedSetIterable iter X.env x = pure x := by intro _; rfl) :
    PSd X (.For tg iter body [] pos) (sFor τi γ tb) := by
  obtain ⟨wi, pi, hi⟩ := hi.p
  refine ⟨PS.imp (ps_for hp hc pi hg.p hb.p hs) fun D σ H ⟨W, F, ρ, kx, k, tk, R, h, L⟩ => ?_⟩
  refine hi σ H _ W F ρ kx _ tk R h fun items ρ1 H1 W1 J h1 le1 R1 wd => ?_
  obtain ⟨len, Gc, Y, wk, hG, hY⟩ := wd
  refine for_it wk (fun i σ' H' => ∃ W' ρ', W1.le W' ∧ Rep X.K X.mg W' F H' σ' ρ' ∧ forD γ tb (items.drop i) ρ' kx k) ⟨W1, ρ1, Wd.le.refl _, R1, by simpa using h1⟩ (fun i σ' H' _ ⟨W', ρ', le, R', _⟩ => hG H' (le.g.trans R'.w.g)) ?_ ?_
  · rintro i x σ' H' H'' hi' ⟨W', ρ', le', R', q⟩ y
    obtain ⟨d, W3, hd, le3, R3, d3⟩ := hY i H' H'' x W' F σ' ρ' hi' le' R' y
    have ed : items.drop i = d :: items.drop (i + 1) := by
      have hlt := (List.getElem?_eq_some_iff.mp hd)
      obtain ⟨hl, e⟩ := hlt
      rw [← List.getElem_cons_drop hl, e]
    rw [ed] at q
    have q : γ d ρ' fun ρ1 => tb ρ1 kx { nx := fun ρ' => forD γ tb (items.drop (i + 1)) ρ' kx k, ct := fun ρ' => forD γ tb (items.drop (i + 1)) ρ' kx k, bk := k.nx, rt := k.rt } := q
    refine ⟨W3, F, ρ', d, _, R3, d3, q, fun ρ4 σ4 H4 W4 h4 le4 R4 _ _ => ?_⟩
    have le14 : W1.le W4 := (le'.trans le3).trans le4
    refine ⟨W4, F, ρ4, kx, _, tk.mono (le1.trans le14), R4, h4, ⟨fun ρ5 σ5 H5 W5 h5 le5 R5 => ⟨W5, ρ5, le14.trans le5, R5, h5⟩, fun d5 ρ5 v5 σ5 H5 W5 h5 le5 R5 dv5 => L.rt d5 ρ5 v5 σ5 H5 W5 h5 ((le1.trans le14).trans le5) R5 dv5,
      fun ρ5 σ5 H5 W5 h5 le5 R5 => L.nx ρ5 σ5 H5 W5 h5 ((le1.trans le14).trans le5) R5, fun ρ5 σ5 H5 W5 h5 le5 R5 => ⟨W5, ρ5, le14.trans le5, R5, h5⟩⟩⟩
  · rintro σ' H' ⟨W', ρ', le', R', q⟩
    rw [List.drop_length] at q
    exact L.nx ρ' σ' H' W' q (le1.trans le') R'
/-! ### list comprehensions -/
def wipeR (ρ : Rho) : List Nat → Rho
  | [] => ρ
  | v :: vs => (wipeR ρ vs).set v .un
def nown (ρ : Rho) (vs : List Nat) : Bool := vs.all fun i => match ρ[i]? with | some s => !s.isOwn | none => true
theorem wipe_get (σ : L2.St) (j : Nat) : ∀ vs : List Nat, (wipe σ vs)[j]? = if j ∈ vs ∧ j < σ.length then some none else σ[j]?
  | [] => by simp [wipe]
  | v :: vs => by
    have ih := wipe_get σ j vs
    unfold wipe
    by_cases e : v = j
    · subst e
      by_cases hl : v < σ.length
      · rw [List.getElem?_set_self (by rw [wipe_length]; exact hl), if_pos ⟨List.mem_cons_self, hl⟩]
      · rw [if_neg fun z => hl z.2, List.getElem?_eq_none (by rw [List.length_set, wipe_length]; omega), List.getElem?_eq_none (by omega)]
    · rw [List.getElem?_set_ne e, ih]
      by_cases hm : j ∈ vs ∧ j < σ.length
      · rw [if_pos hm, if_pos ⟨List.mem_cons_of_mem _ hm.1, hm.2⟩]
      · rw [if_neg hm, if_neg]
        rintro ⟨h1, h2⟩
        rcases List.mem_cons.mp h1 with z | z
        · exact e z.symm
        · exact hm ⟨z, h2⟩
theorem wipeR_len (ρ : Rho) : ∀ vs : List Nat, (wipeR ρ vs).length = ρ.length
  | [] => rfl
  | v :: vs => by unfold wipeR; rw [List.length_set, wipeR_len ρ vs]
theorem wipeR_get (ρ : Rho) (j : Nat) : ∀ vs : List Nat, (wipeR ρ vs)[j]? = if j ∈ vs ∧ j < ρ.length then some .un else ρ[j]?
  | [] => by simp [wipeR]
  | v :: vs => by
    have ih := wipeR_get ρ j vs
    unfold wipeR
    by_cases e : v = j
    · subst e
      by_cases hl : v < ρ.length
      · rw [List.getElem?_set_self (by rw [wipeR_len]; exact hl), if_pos ⟨List.mem_cons_self, hl⟩]
      · rw [if_neg fun z => hl z.2, List.getElem?_eq_none (by rw [List.length_set, wipeR_len]; omega), List.getElem?_eq_none (by omega)]
    · rw [List.getElem?_set_ne e, ih]
      by_cases hm : j ∈ vs ∧ j < ρ.length
      · rw [if_pos hm, if_pos ⟨List.mem_cons_of_mem _ hm.1, hm.2⟩]
      · rw [if_neg hm, if_neg]
        rintro ⟨h1, h2⟩
        rcases List.mem_cons.mp h1 with z | z
        · exact e z.symm
        · exact hm ⟨z, h2⟩
section
variable {K : PySem.W.Frag} {mg : Str → Option Value} {W W' : Wd} {F H H' : Hp} {σ : L2.St} {ρ : Rho}
theorem Rep.wipe (R : Rep K mg W F H σ ρ) (vs : List Nat) : Rep K mg W F H (L2.wipe σ vs) (wipeR ρ vs) := by
  have sub : ∀ {i : Nat} {a : Addr}, OwnsAt (L2.wipe σ vs) (wipeR ρ vs) i a → OwnsAt σ ρ i a := fun {i a} ⟨s, h1, h2, h3⟩ => by
    rw [wipeR_get] at h1
    split at h1
    · cases h1; cases h2
    · rename_i q
      rw [wipe_get, ← R.len, if_neg q] at h3
      exact ⟨s, h1, h2, h3⟩
  refine ⟨R.w, by rw [wipeR_len, wipe_length]; exact R.len, fun i s h => ?_, fun i j a ne h1 h2 => R.sep i j a ne (sub h1) (sub h2)⟩
  rw [wipeR_get] at h
  split at h
  · cases h; exact .inl rfl
  · rename_i q
    rw [wipe_get, ← R.len, if_neg q]
    exact R.sl i s h
theorem Rep.unwipe (R0 : Rep K mg W F H σ ρ) (le : W.le W') {vs : List Nat} (R : Rep K mg W' F H' (L2.wipe σ vs) (wipeR ρ vs)) (n : nown ρ vs = true) : Rep K mg W' F H' σ ρ := by
  have nn : ∀ {i : Nat} {s : S}, i ∈ vs → ρ[i]? = some s → s.isOwn = false := fun {i s} hi hs => by
    have := List.all_eq_true.mp n i hi
    rw [hs] at this
    simpa using this
  have up : ∀ {i : Nat} {a : Addr}, OwnsAt σ ρ i a → OwnsAt (L2.wipe σ vs) (wipeR ρ vs) i a := fun {i a} ⟨s, h1, h2, h3⟩ => by
    have hi : ¬ (i ∈ vs ∧ i < ρ.length) := fun z => by rw [nn z.1 h1] at h2; cases h2
    exact ⟨s, by rw [wipeR_get, if_neg hi]; exact h1, h2, by rw [wipe_get, ← R0.len, if_neg hi]; exact h3⟩
  refine ⟨R.w, R0.len, fun i s h => ?_, fun i j a ne h1 h2 => R.sep i j a ne (up h1) (up h2)⟩
  by_cases hi : i ∈ vs ∧ i < ρ.length
  · rcases R0.sl i s h with e | ⟨v, e, r⟩
    · exact .inl e
    · refine .inr ⟨v, e, ?_⟩
      have o := nn hi.1 h
      exact r.mono le fun a _ z => by rw [o] at z; cases z
  · have := R.sl i s (by rw [wipeR_get, if_neg hi]; exact h)
    rw [wipe_get, ← R0.len, if_neg hi] at this
    exact this
end
abbrev nokx : KX := fun _ _ => False
def tYesD : TDt := fun ρ _ k => k true ρ
structure PTsd (X : Cx) (ifs : List Expr) (τ : TDt) : Prop where
  p : PTs X ifs (lT X τ)
theorem tsd_nil : PTsd X [] tYesD := ⟨⟨fun pins s σ H Q I ⟨W, F, ρ, kx, k, tk, R, h, hQ⟩ => pts_nil.run pins s σ H Q I (hQ true ρ H W h (Wd.le.refl W) R)⟩⟩
def lcD (γ : TGd) (tt : TDt) (te : TD) (ρ0 : Rho) : List D → (List D → Prop) → Prop
  | [], k => k []
  | d :: ds, k => γ d ρ0 fun ρ1 => tt ρ1 nokx fun b ρ2 => ρ2 = ρ1 ∧ if b = true then te ρ1 nokx fun y ρ3 => ρ3 = ρ1 ∧ lcD γ tt te ρ0 ds fun ys => k (y :: ys) else lcD γ tt te ρ0 ds k
def vLc (τi : TDi) (γ : TGd) (tt : TDt) (te : TD) (vs : List Nat) : TDs := fun ρ kx k => τi ρ kx fun ds ρ' => nown ρ' vs = true ∧ lcD γ tt te (wipeR ρ' vs) ds fun ys => k (.own ys) ρ'
theorem takesNo {X : Cx} {W : Wd} {F : Hp} : TakesD X W F nokx := Takes.imp (W := fun _ _ _ _ => False) (fun u s' h => by
  obtain ⟨_, _, _, _, _, _, _, _, _, _, _, _, _, _, _, _, z⟩ := h
  exact z.elim) fun _ _ _ _ ⟨_, _, _, q, _⟩ => q
theorem Out.wipe {is vs : List Nat} {σ σ' : L2.St} (o : Out is (L2.wipe σ vs) σ') (h : ∀ i ∈ is, i ∈ vs) : L2.wipe σ' vs = L2.wipe σ vs := by
  refine List.ext_getElem? fun j => ?_
  rw [wipe_get, wipe_get]
  have hl : σ'.length = σ.length := by rw [o.1, wipe_length]
  rw [hl]
  split
  · rfl
  · rename_i q
    by_cases hj : j ∈ is
    · have := h j hj
      have : ¬ j < σ.length := fun z => q ⟨this, z⟩
      rw [List.getElem?_eq_none (by omega), List.getElem?_eq_none (by omega)]
    · rw [o.2 j hj, wipe_get, if_neg q]
theorem ROut.wipe {is vs : List Nat} {ρ ρ' : Rho} (o : ROut is (wipeR ρ vs) ρ') (h : ∀ i ∈ is, i ∈ vs) : wipeR ρ' vs = wipeR ρ vs := by
  refine List.ext_getElem? fun j => ?_
  rw [wipeR_get, wipeR_get]
  have hl : ρ'.length = ρ.length := by rw [o.1, wipeR_len]
  rw [hl]
  split
  · rfl
  · rename_i q
    by_cases hj : j ∈ is
    · have := h j hj
      have : ¬ j < ρ.length := fun z => q ⟨this, z⟩
      rw [List.getElem?_eq_none (by omega), List.getElem?_eq_none (by omega)]
    · rw [o.2 j hj, wipeR_get, if_neg q]
def lTn (K : PySem.W.Frag) (mg : Str → Option Value) (τ : TDt) : TT := fun σ H Q => ∃ (W : Wd) (F : Hp) (ρ : Rho) (k : Bool → Rho → Prop), Rep K mg W F H σ ρ ∧ τ ρ nokx k ∧ ∀ b ρ' H' W', k b ρ' → W.le W' → Rep K mg W' F H' σ ρ' → Q b H'
def lEn (K : PySem.W.Frag) (mg : Str → Option Value) (τ : TD) : TE := fun σ H Q => ∃ (W : Wd) (F : Hp) (ρ : Rho) (k : KE), Rep K mg W F H σ ρ ∧ τ ρ nokx k ∧ ∀ d ρ' v H' W', k d ρ' → W.le W' → Rep K mg W' F H' σ ρ' → DV K mg W' d v → Q v H'
theorem lTn.to {τ : TDt} : ∀ σ H Q, lTn X.K X.mg τ σ H Q → lT X τ σ H Q := fun σ H Q ⟨W, F, ρ, k, R, h, hQ⟩ => ⟨W, F, ρ, nokx, k, takesNo, R, h, hQ⟩
theorem lEn.to {τ : TD} : ∀ σ H Q, lEn X.K X.mg τ σ H Q → lE X τ σ H Q := fun σ H Q ⟨W, F, ρ, k, R, h, hQ⟩ => ⟨W, F, ρ, nokx, k, takesNo, R, h, hQ⟩
theorem lc_sound {tt : TDt} {te : TD} {vs : List Nat} (hsub : ∀ i ∈ is, i ∈ vs) {wi : TI}
    (hi : ∀ (σ : L2.St) (H : Hp) (R : It → Hp → Prop) (W : Wd) (F : Hp) (ρ : Rho) (kx : KX) (k : List D → Rho → Prop), TakesD X W F kx → Rep X.K X.mg W F H σ ρ → τi ρ kx k →
      (∀ items ρ' H1 W1 J, k items ρ' → W.le W1 → Rep X.K X.mg W1 F H1 σ ρ' → WalkD X W1 items J → R J H1) → wi σ H R) :
    ∀ σ H Q, lV X (vLc τi γ tt te vs) σ H Q → tLc wi (lG X is γ) (lTn X.K X.mg tt) (lEn X.K X.mg te) vs σ H Q := by
  rintro σ H Q ⟨W, F, ρ, kx, k, tk, R, h, hQ⟩
  refine hi σ H _ W F ρ kx _ tk R h fun items ρ1 H1 W1 J ⟨hn, h1⟩ le1 R1 wd => fun D hD => ?_
  obtain ⟨len, Gc, Y, wk, hG, hY⟩ := wd
  obtain ⟨Ra, sa, na⟩ := newLst (R1.wipe vs) (ds := []) (vs := []) (by unfold BIG; simp) dvs_nil hD
  have fa : free W1 F D := free.fresh R1.w hD
  refine lc_it wk (fun i H' => ∃ W' acc accV, W1.le W' ∧ Rep X.K X.mg W' F H' (L2.wipe σ vs) (wipeR ρ1 vs) ∧ H' D = some (.lst accV) ∧ DVs X.K X.mg W' acc accV ∧ acc.length ≤ i ∧ free W' F D ∧ (∀ i, ¬ OwnsAt (L2.wipe σ vs) (wipeR ρ1 vs) i D) ∧
    lcD γ tt te (wipeR ρ1 vs) (items.drop i) (fun ys => k (.own (acc ++ ys)) ρ1)) ⟨W1, [], [], Wd.le.refl _, Ra, upd_same, dvs_nil, Nat.le_refl _, fa, na, by simpa using h1⟩ (fun i H' _ ⟨W', acc, accV, le, R', _⟩ => hG H' (le.g.trans R'.w.g)) ?_ ?_
  · rintro i x H' H'' hi' ⟨W', acc, accV, le', R', hD', dacc, lacc, fD, nD, q⟩ y
    have sF : Same F (upd F D (.lst accV)) := same_upd fD.2.1
    have R1' : Rep X.K X.mg W' (upd F D (.lst accV)) H' (L2.wipe σ vs) (wipeR ρ1 vs) := by
      refine R'.go (Wd.le.refl _) ⟨R'.w.g, fun b x eb => ?_, fun b hb => ?_, fun p hp => ?_⟩ fun i b hb => ?_
      · by_cases z : b = D
        · subst z; rw [upd_same] at eb; cases eb; exact hD'
        · rw [upd_ne z] at eb; exact R'.w.f b x eb
      · by_cases z : b = D
        · subst z; exact fD.1
        · rw [upd_ne z] at hb; exact R'.w.gf b hb
      · obtain ⟨t, g1, g2, f1, f2⟩ := R'.w.t p hp
        obtain ⟨n1, n2⟩ := fD.2.2 p hp
        exact ⟨t, g1, g2, (upd_ne n1).trans f1, (upd_ne n2).trans f2⟩
      · obtain ⟨t, _, _, _, _, f2⟩ := R'.owned hb
        have ne : b ≠ D := fun z => nD i (z ▸ hb)
        exact ⟨rfl, f2.1, (upd_ne ne).trans f2.2.1, f2.2.2⟩
    obtain ⟨d, W3, hd, le3, R3, d3⟩ := hY i H' H'' x W' _ _ _ hi' le' R1' y
    have ed : items.drop i = d :: items.drop (i + 1) := by
      obtain ⟨hl, e⟩ := (List.getElem?_eq_some_iff.mp hd)
      rw [← List.getElem_cons_drop hl, e]
    rw [ed] at q
    unfold lcD at q
    -- a turn's end, nothing added to the slots
    have fin : ∀ {H6 : Hp} {W6 : Wd} {σ4 : L2.St} {ρ4 : Rho}, W'.le W6 → Rep X.K X.mg W6 (upd F D (.lst accV)) H6 σ4 ρ4 → Out is (L2.wipe σ vs) σ4 → ROut is (wipeR ρ1 vs) ρ4 →
        Rep X.K X.mg W6 F H6 (L2.wipe σ vs) (wipeR ρ1 vs) ∧ H6 D = some (.lst accV) ∧ free W6 F D ∧ (∀ i, ¬ OwnsAt (L2.wipe σ vs) (wipeR ρ1 vs) i D) := by
      intro H6 W6 σ4 ρ4 le6 R6 o4 p4
      have R7 := R6.wipe vs
      rw [o4.wipe hsub, p4.wipe hsub] at R7
      refine ⟨R7.weakF sF, R6.w.f D _ upd_same, ⟨R6.w.gf D (by rw [upd_same]; intro z; cases z), fD.2.1, fun p hp => ?_⟩, nD⟩
      obtain ⟨_, _, _, f1, f2⟩ := R6.w.t p hp
      exact ⟨(fun z => by rw [z, upd_same] at f1; cases f1), (fun z => by rw [z, upd_same] at f2; cases f2)⟩
    refine ⟨W3, _, _, d, _, R3, d3, q, fun ρ4 σ4 H4 W4 h4 le4 R4 o4 p4 => ⟨o4.wipe hsub, ?_⟩⟩
    refine ⟨W4, _, ρ4, _, R4, h4, fun b ρ5 H5 W5 ⟨e5, h5⟩ le5 R5 => ?_⟩
    subst e5
    cases b with
    | false =>
      obtain ⟨a1, a2, a3, a4⟩ := fin ((le3.trans le4).trans le5) R5 o4 p4
      exact ⟨W5, acc, accV, ((le'.trans le3).trans le4).trans le5, a1, a2, DVs.mono ((le3.trans le4).trans le5) _ _ dacc, Nat.le_succ_of_le lacc, a3, a4, h5⟩
    | true =>
      refine ⟨W5, _, ρ5, _, R5, h5, fun y ρ6 v6 H6 W6 ⟨e6, h6⟩ le6 R6 d6 => ?_⟩
      subst e6
      have leW : W'.le W6 := ((le3.trans le4).trans le5).trans le6
      obtain ⟨a1, a2, a3, a4⟩ := fin leW R6 o4 p4
      have dacc6 := DVs.mono leW _ _ dacc
      refine ⟨accV, a2, by rw [← dvs_len dacc6]; omega, W6, acc ++ [y], accV ++ [v6], le'.trans leW, ?_, upd_same, dvs_app dacc6 (dvs_cons d6 dvs_nil), by rw [List.length_append]; simp; omega, a3, a4, by simpa only [List.append_assoc, List.singleton_append] using h6⟩
      refine a1.go (Wd.le.refl _) ⟨fun b u e => ?_, fun b u e => ?_, a1.w.gf, fun p hp => ?_⟩ fun i b hb => ?_
      · have ne : b ≠ D := fun z => by rw [z, a3.1] at e; cases e
        rw [upd_ne ne]; exact a1.w.g b u e
      · have ne : b ≠ D := fun z => by rw [z, a3.2.1] at e; cases e
        rw [upd_ne ne]; exact a1.w.f b u e
      · obtain ⟨t, g1, g2, f1, f2⟩ := a1.w.t p hp
        obtain ⟨n1, n2⟩ := a3.2.2 p hp
        exact ⟨t.keep (upd_ne n1) (upd_ne n2), g1, g2, f1, f2⟩
      · obtain ⟨t, _, _, _, _, f2⟩ := a1.owned hb
        exact ⟨upd_ne fun z => a4 i (z ▸ hb), f2⟩
  · rintro H' ⟨W', acc, accV, le', R', hD', dacc, lacc, fD, nD, q⟩
    rw [List.drop_length] at q
    unfold lcD at q
    rw [List.append_nil] at q
    have R2 := R1.unwipe le' R' hn
    refine hQ (.own acc) ρ1 _ H' W' q (le1.trans le') R2 ⟨D, rfl, ⟨accV, hD', by rw [← dvs_len dacc]; exact Nat.le_trans lacc len, dacc⟩, fD⟩ (fun a i _ ea hb => ?_) (by intro z; cases z)
    cases ea
    obtain ⟨s, h1, h2, h3⟩ := hb
    have hv : ¬ (i ∈ vs ∧ i < ρ1.length) := fun z => by
      have := List.all_eq_true.mp hn i z.1
      rw [h1] at this
      simp [h2] at this
    exact nD i ⟨s, by rw [wipeR_get, if_neg hv]; exact h1, h2, by rw [wipe_get, ← R1.len, if_neg hv]; exact h3⟩
theorem vd_lc {elt : Expr} {ifs : List Expr} {scope : Scope} {own : List (Str × Nat)} {tt : TDt} {te : TD} (hc : X.calm = true) (hN : X.N.Nodup) (hi : PId X tg iter τi) (ok : BlkOk X.N X.env.scope scope own) (hsub : ∀ i ∈ is, i ∈ own.map (·.2))
    (hg : ∀ (s : Shared) (H : Hp) (C : Addr) (cl : List (Str × Addr)) (fp : List Addr), PGd (X.blk s H scope (compEnvC scope cl C X.env) fp) tg is γ) (ht : ∀ (s : Shared) (H : Hp) (C : Addr) (cl : List (Str × Addr)) (fp : List Addr), PTsd (X.blk s H scope (compEnvC scope cl C X.env) fp) ifs tt)
    (he : ∀ (s : Shared) (H : Hp) (C : Addr) (cl : List (Str × Addr)) (fp : List Addr), PEd (X.blk s H scope (compEnvC scope cl C X.env) fp) elt te) (hs : ∀ x, foldedSetIterable iter X.env x = pure x := by intro _; rfl) :
    PEv X (.ListComp elt [⟨tg, iter, ifs, 0⟩] scope pos) (vLc τi γ tt te (own.map (·.2))) := by
  obtain ⟨wi, pi, hi⟩ := hi.p
  refine ⟨PE.imp (pe_lc (g := lG X is γ) (tt := lTn X.K X.mg tt) (te := lEn X.K X.mg te) hc hN pi ok (fun s H C cl fp => (hg s H C cl fp).p) (fun s H C cl fp => ?_) (fun s H C cl fp => ?_) hs) (lc_sound hsub hi)⟩
  · exact ⟨fun pins s' σ H' Q I q => (ht s H C cl fp).p.run pins s' σ H' Q I (lTn.to (X := X.blk s H scope (compEnvC scope cl C X.env) fp) σ H' Q q)⟩
  · exact ⟨fun pins s' σ H' Q I q => (he s H C cl fp).p.run pins s' σ H' Q I (lEn.to (X := X.blk s H scope (compEnvC scope cl C X.env) fp) σ H' Q q)⟩
theorem sd_lc {i : Nat} {y : Str} {py : Pos} {elt : Expr} {ifs : List Expr} {scope : Scope} {own : List (Str × Nat)} {spos : Pos} {tt : TDt} {te : TD} (hc : X.calm = true) (hN : X.N.Nodup) (hy : X.N[i]? = some y) (hyl : X.env.scope.names.lookup y = some .local)
    (hsw : swapsWith (.ListComp elt [⟨tg, iter, ifs, 0⟩] scope pos) (some (.Name y py)) spos.line X.env = pure true) (hi : PId X tg iter τi) (ok : BlkOk X.N X.env.scope scope own) (hsub : ∀ i ∈ is, i ∈ own.map (·.2))
    (hg : ∀ (s : Shared) (H : Hp) (C : Addr) (cl : List (Str × Addr)) (fp : List Addr), PGd (X.blk s H scope (compEnvC scope cl C X.env) fp) tg is γ) (ht : ∀ (s : Shared) (H : Hp) (C : Addr) (cl : List (Str × Addr)) (fp : List Addr), PTsd (X.blk s H scope (compEnvC scope cl C X.env) fp) ifs tt)
    (he : ∀ (s : Shared) (H : Hp) (C : Addr) (cl : List (Str × Addr)) (fp : List Addr), PEd (X.blk s H scope (compEnvC scope cl C X.env) fp) elt te) (hs : ∀ x, foldedSetIterable iter X.env x = pure x := by intro _; rfl) :
    PSd X (.Assign [.Name y py] (.ListComp elt [⟨tg, iter, ifs, 0⟩] scope pos) spos) (sAsg i (vLc τi γ tt te (own.map (·.2)))) := by
  obtain ⟨wi, pi, hi⟩ := hi.p
  refine ⟨PS.imp (ps_setLc (g := lG X is γ) (tt := lTn X.K X.mg tt) (te := lEn X.K X.mg te) hc hN hy hyl hsw pi ok (fun s H C cl fp => (hg s H C cl fp).p) (fun s H C cl fp => ?_) (fun s H C cl fp => ?_) hs) fun D σ H ⟨W, F, ρ, kx, k, tk, R, h, L⟩ => ?_⟩
  · exact ⟨fun pins s' σ H' Q I q => (ht s H C cl fp).p.run pins s' σ H' Q I (lTn.to (X := X.blk s H scope (compEnvC scope cl C X.env) fp) σ H' Q q)⟩
  · exact ⟨fun pins s' σ H' Q I q => (he s H C cl fp).p.run pins s' σ H' Q I (lEn.to (X := X.blk s H scope (compEnvC scope cl C X.env) fp) σ H' Q q)⟩
  · exact lc_sound hsub hi σ H _ ⟨W, F, ρ, kx, _, tk, R, h, fun s ρ1 v1 H1 W1 h1 le1 R1 s1 no hu => L.nx _ _ H1 W1 h1 le1 (R1.set s1 fun a j o ev _ => no a j o ev)⟩
end
end DL
set_option maxHeartbeats 4000000
/-! DL6: defs, calls, instances. -/
namespace DL
open PySem PySem.Spec PyProof.Rows L2
/-! ### a callee's world -/
open Classical in
noncomputable def FO (σ : L2.St) (ρ : Rho) (H F : Hp) : Hp := fun a => if ∃ i, OwnsAt σ ρ i a then H a else F a
section
variable {K : PySem.W.Frag} {mg : Str → Option Value} {W W' : Wd} {F H H' : Hp} {σ : L2.St} {ρ : Rho}
theorem FO.own {i : Nat} {a : Addr} (h : OwnsAt σ ρ i a) : FO σ ρ H F a = H a := by unfold FO; rw [if_pos ⟨i, h⟩]
theorem FO.not {a : Addr} (h : ∀ i, ¬ OwnsAt σ ρ i a) : FO σ ρ H F a = F a := by unfold FO; rw [if_neg (fun ⟨i, z⟩ => h i z)]
theorem Rep.enter (R : Rep K mg W F H σ ρ) : WOk W (FO σ ρ H F) H := by
  refine ⟨R.w.g, fun a o e => ?_, fun a h => ?_, fun p hp => ?_⟩
  · by_cases q : ∃ i, OwnsAt σ ρ i a
    · obtain ⟨i, q⟩ := q
      rw [FO.own q] at e; exact e
    · rw [FO.not (fun i z => q ⟨i, z⟩)] at e; exact R.w.f a o e
  · by_cases q : ∃ i, OwnsAt σ ρ i a
    · obtain ⟨i, q⟩ := q
      obtain ⟨_, _, _, _, _, f⟩ := R.owned q
      exact f.1
    · rw [FO.not (fun i z => q ⟨i, z⟩)] at h; exact R.w.gf a h
  · obtain ⟨t, g1, g2, f1, f2⟩ := R.w.t p hp
    have no : ∀ a, (a = p.1 ∨ a = p.2) → ∀ i, ¬ OwnsAt σ ρ i a := fun a ha i z => by
      obtain ⟨_, _, _, _, _, f⟩ := R.owned z
      obtain ⟨n1, n2⟩ := f.2.2 p hp
      rcases ha with e | e
      · exact n1 e.symm
      · exact n2 e.symm
    exact ⟨t, g1, g2, (FO.not (no _ (.inl rfl))).trans f1, (FO.not (no _ (.inr rfl))).trans f2⟩
theorem Rep.back (R : Rep K mg W F H σ ρ) (le : W.le W') (w : WOk W' (FO σ ρ H F) H') : Rep K mg W' F H' σ ρ := by
  have ownF : ∀ {i : Nat} {a : Addr}, OwnsAt σ ρ i a → F a = none := fun z => by
    obtain ⟨_, _, _, _, _, f⟩ := R.owned z
    exact f.2.1
  have nF : ∀ {a : Addr} {o : HO}, F a = some o → ∀ i, ¬ OwnsAt σ ρ i a := fun e i z => by rw [ownF z] at e; cases e
  refine R.go le ⟨w.g, fun a o e => w.f a o ((FO.not (nF e)).trans e), fun a h => ?_, fun p hp => ?_⟩ fun i a h => ?_
  · obtain ⟨o, e⟩ : ∃ o, F a = some o := by
      cases q : F a with
      | none => exact (h q).elim
      | some o => exact ⟨o, rfl⟩
    exact w.gf a (by rw [FO.not (nF e), e]; intro z; cases z)
  · obtain ⟨t, g1, g2, f1, f2⟩ := w.t p hp
    have no : ∀ {a : Addr}, FO σ ρ H F a = none → F a = none := fun {a} h => by
      cases q : F a with
      | none => rfl
      | some o => rw [FO.not (nF q), q] at h; cases h
    exact ⟨t, g1, g2, no f1, no f2⟩
  · obtain ⟨s, _, _, _, hh, f⟩ := R.owned h
    obtain ⟨o, e⟩ := hh.there
    have eo : FO σ ρ H F a = some o := (FO.own h).trans e
    refine ⟨(w.f a o eo).trans e.symm, w.gf a (by rw [eo]; intro z; cases z), f.2.1, fun p hp => ?_⟩
    obtain ⟨_, _, _, f1, f2⟩ := w.t p hp
    exact ⟨(fun z => by rw [z, eo] at f1; cases f1), (fun z => by rw [z, eo] at f2; cases f2)⟩
end
/-! ### defs -/
abbrev FD := List D → (XD → Prop) → (D → Prop) → Prop
def SpD (K : PySem.W.Frag) (mg : Str → Option Value) (n : Nat) (m : FD) : Sp := fun vs H Q E => vs.length = n ∧ ∃ (W : Wd) (F : Hp) (ds : List D) (kx : XD → Prop) (k : D → Prop), WOk W F H ∧ DVs K mg W ds vs ∧ m ds kx k ∧
  (∀ d v H' W', k d → W.le W' → WOk W' F H' → DV K mg W' d v → Q v H') ∧ (∀ x cls dx H' W', kx x → W.le W' → WOk W' F H' → XV K mg W' x cls dx → E cls dx H')
def startR (n : Nat) (ds : List D) : Rho := ds.map S.val ++ List.replicate (n - ds.length) .un
theorem start_rep {K : PySem.W.Frag} {mg : Str → Option Value} {W : Wd} {F H : Hp} {N : List Str} {ds : List D} {vs : List V} (w : WOk W F H) (d : DVs K mg W ds vs) : Rep K mg W F H (L2.start N vs) (startR N.length ds) := by
  have hl := dvs_len d
  have nown : ∀ (i : Nat) (s : S), (startR N.length ds)[i]? = some s → s = .un ∨ ∃ d', s = .val d' ∧ ds[i]? = some d' := fun i s h => by
    unfold startR at h
    by_cases hi : i < ds.length
    · rw [List.getElem?_append_left (by simpa using hi), List.getElem?_map] at h
      obtain ⟨d', e, q⟩ := Option.map_eq_some_iff.mp h
      exact .inr ⟨d', q.symm, e⟩
    · rw [List.getElem?_append_right (by simpa using Nat.le_of_not_lt hi)] at h
      exact .inl (List.eq_of_mem_replicate (List.mem_of_getElem? h))
  refine ⟨w, by unfold startR L2.start; simp [hl], fun i s h => ?_, fun i j a _ ⟨s, h1, h2, _⟩ => ?_⟩
  · rcases nown i s h with e | ⟨d', e, q⟩
    · exact .inl e
    · subst e
      obtain ⟨v, hv, dv⟩ := dvs_get d q
      refine .inr ⟨v, ?_, dv⟩
      unfold L2.start
      have hi := (List.getElem?_eq_some_iff.mp hv).1
      rw [List.getElem?_append_left (by simpa using hi), List.getElem?_map, hv]
      rfl
  · rcases nown i s h1 with e | ⟨d', e, q⟩ <;> (subst e; cases h2)
def fnm (n : Nat) (τ : TDS) : FD := fun ds kx k => τ (startR n ds) (fun x _ => kx x) { nx := fun _ => k .non, rt := fun d _ => k d }
section
variable {P : Program} {w : World} {K : PySem.W.Frag} {mg : Str → Option Value} {base : Heap}
theorem fn_d {x qual : Str} {params : Arguments} {body : List Stmt} {scope : Scope} {dvs : List V} {kws : List (Str × V)} {f : Addr} {fd : FuncData} {N ps : List Str} {k : Nat} {τ : TDS} (F : FunD K x qual params body scope dvs kws f fd) (S : FnScope N ps scope)
    (hb : ∀ (cdv : Value) (A : Around) (outer : List PySem.Env) (s : Shared) (H : Hp) (E : XK), Room k (A.deeper (envOfC qual scope s.heap.objs.size f cdv)) → PBd (cxOf (L2.CX P w) P w K mg base N qual scope f cdv A outer s H E) body τ) :
    FnOk P w K mg base (L2.CX P w) (k + 1) f fd ps (SpD K mg ps.length (fnm N.length τ)) := by
  refine F.ok S (fun vs H Q E h => h.1) fun cdv A outer s H vs Q E hr h => ?_
  obtain ⟨hl, W, F', ds, kx, kk, wok, dv, hm, hQ, hE⟩ := h
  refine ⟨_, (hb cdv A outer s H E hr).p, W, F', startR N.length ds, _, _, ?_, start_rep wok dv, hm, ⟨fun ρ' σ' H' W' hk le R => ?_, fun d ρ' v σ' H' W' hk le R dv => hQ d v H' W' hk le R.w dv, fun _ _ _ _ z => z.elim, fun _ _ _ _ z => z.elim⟩⟩
  · exact Takes.imp (takes_of (X := cxOf (L2.CX P w) P w K mg base N qual scope f cdv A outer s H E) rfl rfl rfl rfl) fun cls dx σ H' ⟨xd, ρ, W', hk, le, R, xv⟩ => hE xd cls dx H' W' hk le R.w xv
  · exact hQ .non .non H' W' hk le R.w (by simp only [DV])
end
/-! ### arguments put in order -/
def pickD (idx : List Nat) (l : List D) : List D := idx.map fun i => l.getD i .non
def pickV (idx : List Nat) (l : List V) : List V := idx.map fun i => l.getD i .non
def pickU (idx : List Nat) (l : List Value) : List Value := idx.map fun i => l.getD i .none
theorem pick_rel {l : List V} {u : List Value} (h : Vals l u) : ∀ idx : List Nat, Vals (pickV idx l) (pickU idx u)
  | [] => .nil
  | i :: idx => by
    refine .cons (show RelV (l.getD i .non) (u.getD i .none) from ?_) (pick_rel h idx)
    cases q : l[i]? with
    | none =>
      have q2 := h.none_of q
      rw [List.getD_eq_getElem?_getD, List.getD_eq_getElem?_getD, q, q2]
      exact rfl
    | some x =>
      obtain ⟨y, q2, r⟩ := h.get q
      rw [List.getD_eq_getElem?_getD, List.getD_eq_getElem?_getD, q, q2]
      exact r
theorem pick_dv {K : PySem.W.Frag} {mg : Str → Option Value} {W : Wd} {ds : List D} {l : List V} (h : DVs K mg W ds l) : ∀ idx : List Nat, DVs K mg W (pickD idx ds) (pickV idx l)
  | [] => dvs_nil
  | i :: idx => by
    refine dvs_cons (show DV K mg W (ds.getD i .non) (l.getD i .non) from ?_) (pick_dv h idx)
    cases q : ds[i]? with
    | none =>
      have q2 : l[i]? = none := by
        have := dvs_len h
        rw [List.getElem?_eq_none_iff] at q ⊢
        omega
      rw [List.getD_eq_getElem?_getD, List.getD_eq_getElem?_getD, q, q2]
      simp only [Option.getD_none, DV]
    | some x =>
      obtain ⟨y, q2, r⟩ := dvs_get h q
      rw [List.getD_eq_getElem?_getD, List.getD_eq_getElem?_getD, q, q2]
      exact r
structure BindD (K : PySem.W.Frag) (fd : FuncData) (ps : List Str) (n : Nat) (ks : List Str) (idx : List Nat) (dvs : List V) : Prop where
  b : ∃ its : List Value, Vals dvs its ∧ ∀ (s : Shared) (us ws : List Value), K.In s.heap → us.length = n → ws.length = ks.length → BindsTo s fd ⟨us, ks.zip ws⟩ (ps.zip (pickU idx (us ++ its ++ ws)))
  len : idx.length = ps.length
section
variable {K : PySem.W.Frag} {x qual : Str} {params : Arguments} {body : List Stmt} {scope : Scope} {dvs : List V} {kws : List (Str × V)} {f : Addr} {fd : FuncData} {ps : List Str}
theorem bind_all (F : FunD K x qual params body scope [] kws f fd) (n : Nat) (ks : List Str) (idx : List Nat) (hl : idx.length = ps.length)
    (h : ∀ (kV doc pm : Value) (an : Option Addr) (cdv ct : Value) (us ws : List Value), us.length = n → ws.length = ks.length →
      bindArgs (PySem.W.fnOf x qual params body scope .none kV doc pm an cdv ct) ⟨us, ks.zip ws⟩ = pure (ps.zip (pickU idx (us ++ ws)))) : BindD K fd ps n ks idx [] := by
  obtain ⟨oc, od, dV, kV, doc, pm, an, cdv, ct, osl, rfl, lk, hcd, hD, _⟩ := F.ex
  rcases hD with ⟨_, rfl⟩ | ⟨z, _⟩
  · exact ⟨⟨[], .nil, fun s us ws X l1 l2 => .of_eq (by rw [List.append_nil]; exact h kV doc pm an cdv ct us ws l1 l2)⟩, hl⟩
  · exact absurd rfl z
theorem bind_def (F : FunD K x qual params body scope dvs kws f fd) (hd : dvs ≠ []) (n : Nat) (ks : List Str) (idx : List Nat) (hl : idx.length = ps.length)
    (h : ∀ (T : Addr) (kV doc pm : Value) (an : Option Addr) (cdv ct : Value) (us its ws : List Value), us.length = n → its.length = dvs.length → ws.length = ks.length →
      ∃ k, bindArgs (PySem.W.fnOf x qual params body scope (.ref T) kV doc pm an cdv ct) ⟨us, ks.zip ws⟩ = seqItems? (.ref T) >>= k ∧ k (some its.toArray) = pure (ps.zip (pickU idx (us ++ its ++ ws)))) : BindD K fd ps n ks idx dvs := by
  obtain ⟨oc, od, dV, kV, doc, pm, an, cdv, ct, osl, rfl, lk, hcd, hD, hK⟩ := F.ex
  rcases hD with ⟨e, _⟩ | ⟨_, T, o, its, m, rfl, lT, oT, rT⟩
  · exact absurd e hd
  · refine ⟨⟨its, rT, fun s us ws X l1 l2 => ?_⟩, hl⟩
    obtain ⟨k, e1, e2⟩ := h T kV doc pm an cdv ct us its ws l1 rT.length.symm l2
    refine BindsTo.of_looks fun M => ?_
    rw [e1]
    exact looks_items X lT oT (.of_pure e2)
end
/-! ### calls of defs -/
section
variable {X : Cx} {k : Nat} {f C : Addr} {fd : FuncData} {ps : List Str} {x : Str} {p pos : Pos} {e : Expr} {es : List Expr} {kws : List Keyword} {τs τk : TDa} {m : FD}
theorem run_d {pins : List (Addr × Obj)} {σ : L2.St} {ρ : Rho} {H : Hp} {s : Shared} {Q : VK} {us : List Value} {vs : List V} {ds : List D} {args : Args} {W : Wd} {F : Hp} {kx : KX} {kk : KE} (G : FnOk X.prog X.w X.K X.mg X.base (L2.CX X.prog X.w) k f fd ps (SpD X.K X.mg ps.length m)) (hr : Room k X.A)
    (I : Inv X pins σ H s) (hb : BindsTo s fd args (ps.zip us)) (r : Vals vs us) (hl : vs.length = ps.length) (tk : TakesD X W F kx) (R : Rep X.K X.mg W F H σ ρ) (dv : DVs X.K X.mg W ds vs) (hm : m ds (fun x => kx x ρ) (fun d => kk d ρ))
    (hQ : ∀ d v H' W', kk d ρ → W.le W' → Rep X.K X.mg W' F H' σ ρ → DV X.K X.mg W' d v → Q v H') : wpAny (model X.prog X.w) X.A (call (.ref f) args.pos args.kw) (EP X pins σ Q) X.xe s := by
  have hsp : SpD X.K X.mg ps.length m vs H Q (fun cls dx H' => ∃ xd ρ W', kx xd ρ ∧ W.le W' ∧ Rep X.K X.mg W' F H' σ ρ ∧ XV X.K X.mg W' xd cls dx) :=
    ⟨hl, W, FO σ ρ H F, ds, _, _, R.enter, dv, hm, fun d v H' W' hk le w dv => hQ d v H' W' hk le (R.back le w) dv, fun xd cls dx H' W' hk le w xv => ⟨xd, ρ, W', hk, le, R.back le w, xv⟩⟩
  refine wpAny_call (codeAny_mono (G.run X.A X.stack s H ⟨args.pos, args.kw⟩ us vs Q _ hr I.env0 hb r hsp) fun r s' hq => ?_)
  cases r with
  | error e => exact passAt tk σ pins H s e s' I hq
  | ok fl =>
    cases fl with
    | ret u => exact I.after hq
    | next => exact False.elim hq
    | brk => exact False.elim hq
    | cont => exact False.elim hq
def dCall (m : FD) (idx : List Nat) (dds : List D) (τs τk : TDa) : TD := fun ρ kx k => τs ρ kx fun ds ρ1 => τk ρ1 kx fun ks ρ2 => m (pickD idx (ds ++ dds ++ ks)) (fun x => kx x ρ2) fun d => k d ρ2
theorem pickV_len (idx : List Nat) (l : List V) : (pickV idx l).length = idx.length := by simp [pickV]
variable {n nk : Nat} {ks : List Str} {idx : List Nat} {dvs : List V} {dds : List D}
def cnt (n : Nat) (τ : TDa) : TDa := fun ρ kx k => τ ρ kx fun ds ρ' => ds.length = n ∧ k ds ρ'
theorem pd_call (G : FnOk X.prog X.w X.K X.mg X.base (L2.CX X.prog X.w) k f fd ps (SpD X.K X.mg ps.length m)) (hr : Room k X.A) (hg : Gl X x) (hm : X.mg x = some (.ref f)) (hk : PySem.W.keepIn X.K (.ref f) = true) (hb : BindD X.K fd ps n [] idx dvs) (hd : ∀ W, DVs X.K X.mg W dds dvs)
    (ha : PAd X (e :: es) τs) (hdb : (x == ("__debug__" : Str)) = false := by decide) (he : starEach (e :: es) X.env = (false, eval e X.env) :: starEach es X.env := by rfl) (hpl : (backTo pos (starEach es X.env)).any (·.1) = false := by rfl) :
    PEd X (.Call (.Name x p) (e :: es) [] pos) (dCall m idx dds (cnt n τs) dNil) := by
  refine ⟨⟨fun pins s σ H Q I ⟨W, F, ρ, kx, kk, tk, R, h, hQ⟩ => ?_⟩⟩
  refine wpAny_Call_Name_kw (ld_glob I hg hm ?_ hdb)
  refine PySem.W.callWith_K (h₀ := X.base) I.ok.mod.kin hk (thn (ha.p.run pos pins s σ H _ I ⟨W, F, ρ, kx, _, tk, R, h, fun ds ρ1 vs H1 W1 h1 le1 R1 d1 =>
    (⟨ds, ρ1, W1, h1, le1, R1, d1⟩ : ∃ ds ρ1 W1, (ds.length = n ∧ m (pickD idx (ds ++ dds ++ [])) (fun x => kx x ρ1) fun d => kk d ρ1) ∧ W.le W1 ∧ Rep X.K X.mg W1 F H1 σ ρ1 ∧ DVs X.K X.mg W1 ds vs)⟩) fun us s1 ⟨vs, H1, I1, r, ds, ρ1, W1, ⟨hn, h1⟩, le1, R1, d1⟩ => ⟨I1.kIn, ?_⟩) he hpl
  obtain ⟨its, ri, hbt⟩ := hb.b
  have l1 : us.length = n := by rw [← r.length, ← dvs_len d1, hn]
  refine run_d (args := ⟨us, []⟩) (us := pickU idx (us ++ its ++ [])) (vs := pickV idx (vs ++ dvs ++ [])) G hr I1 (hbt s1 us [] I1.kIn l1 rfl) (pick_rel ((r.append ri).append .nil) idx) (by rw [pickV_len]; exact hb.len) (tk.mono le1) R1
    (pick_dv (dvs_app (dvs_app d1 (hd W1)) dvs_nil) idx) h1 fun d v H' W' hk le R' dv => hQ d ρ1 v H' W' hk (le1.trans le) R' dv
theorem pd_callK (G : FnOk X.prog X.w X.K X.mg X.base (L2.CX X.prog X.w) k f fd ps (SpD X.K X.mg ps.length m)) (hr : Room k X.A) (hg : Gl X x) (hm : X.mg x = some (.ref f)) (hk : PySem.W.keepIn X.K (.ref f) = true) (hb : BindD X.K fd ps n ks idx dvs) (hd : ∀ W, DVs X.K X.mg W dds dvs)
    (ha : PAd X (e :: es) τs) (hkw : PKd X kws τk) (hall : (backToKw pos (keywordEach kws X.env)).all (·.1.isSome) = true := by rfl) (hks : (backToKw pos (keywordEach kws X.env)).filterMap (·.1) = ks := by rfl) (hnk : ks.length = nk := by rfl)
    (hdb : (x == ("__debug__" : Str)) = false := by decide) (he : starEach (e :: es) X.env = (false, eval e X.env) :: starEach es X.env := by rfl)
    (hpl : ((backTo pos (starEach (e :: es) X.env)).any (·.1) || (backToKw pos (keywordEach kws X.env)).any (·.1.isNone)) = false := by rfl) :
    PEd X (.Call (.Name x p) (e :: es) kws pos) (dCall m idx dds (cnt n τs) (cnt nk τk)) := by
  refine ⟨⟨fun pins s σ H Q I ⟨W, F, ρ, kx, kk, tk, R, h, hQ⟩ => ?_⟩⟩
  refine wpAny_Call_Name_kw (ld_glob I hg hm ?_ hdb)
  refine PySem.W.callWith_KW (h₀ := X.base) I.ok.mod.kin hk hall (thn (ha.p.run pos pins s σ H _ I ⟨W, F, ρ, kx, _, tk, R, h, fun ds ρ1 vs H1 W1 h1 le1 R1 d1 =>
    (⟨ds, ρ1, W1, h1, le1, R1, d1⟩ : ∃ ds ρ1 W1, (ds.length = n ∧ cnt nk τk ρ1 kx fun ks' ρ2 => m (pickD idx (ds ++ dds ++ ks')) (fun x => kx x ρ2) fun d => kk d ρ2) ∧ W.le W1 ∧ Rep X.K X.mg W1 F H1 σ ρ1 ∧ DVs X.K X.mg W1 ds vs)⟩) fun us s1 ⟨vs, H1, I1, r, ds, ρ1, W1, ⟨hn, h1⟩, le1, R1, d1⟩ => ?_) hpl he
  refine thn (hkw.p.run pos pins s1 σ H1 _ I1 ⟨W1, F, ρ1, kx, _, tk.mono le1, R1, h1, fun ds2 ρ2 vs2 H2 W2 h2 le2 R2 d2 =>
    (⟨ds2, ρ2, W2, h2, le2, R2, d2⟩ : ∃ ds2 ρ2 W2, (ds2.length = nk ∧ m (pickD idx (ds ++ dds ++ ds2)) (fun x => kx x ρ2) fun d => kk d ρ2) ∧ W1.le W2 ∧ Rep X.K X.mg W2 F H2 σ ρ2 ∧ DVs X.K X.mg W2 ds2 vs2)⟩) fun ws s2 ⟨zs, H2, I2, rz, ds2, ρ2, W2, ⟨hn2, h2⟩, le2, R2, d2⟩ => ⟨I2.kIn, ?_⟩
  rw [hks]
  obtain ⟨its, ri, hbt⟩ := hb.b
  have l1 : us.length = n := by rw [← r.length, ← dvs_len d1, hn]
  have l2 : ws.length = ks.length := by rw [← rz.length, ← dvs_len d2, hn2, hnk]
  exact run_d (args := ⟨us, ks.zip ws⟩) (us := pickU idx (us ++ its ++ ws)) (vs := pickV idx (vs ++ dvs ++ zs)) G hr I2 (hbt s2 us ws I2.kIn l1 l2) (pick_rel ((r.append ri).append rz) idx) (by rw [pickV_len]; exact hb.len) (tk.mono (le1.trans le2)) R2
    (pick_dv (dvs_app (dvs_app (DVs.mono le2 _ _ d1) (hd W2)) d2) idx) h2 fun d v H' W' hk le R' dv => hQ d ρ2 v H' W' hk ((le1.trans le2).trans le) R' dv
end
end DL
set_option maxHeartbeats 4000000
/-! DL7: equality of data, truth, built-in calls. -/
namespace DL
open PySem PySem.Spec PyProof.Rows L2
/-! ### equality -/
mutual
def toPy : D → PyData
  | .non => .none
  | .bl b => .bool b
  | .int i => .int i
  | .str x => .str x
  | .tup ds => .tuple (toPys ds)
  | .lst ds => .list (toPys ds)
  | .ins _ _ _ => .none
  | .dic _ _ => .none
  | .exc _ _ _ => .none
  | .town => .none
  | .scr _ => .none
  | .ptp _ => .none
def toPys : List D → List PyData
  | [] => []
  | d :: ds => toPy d :: toPys ds
end
mutual
def pln : Nat → D → Bool
  | _, .non => true
  | _, .bl _ => true
  | _, .int _ => true
  | _, .str _ => true
  | n, .tup ds => match n with | 0 => false | n + 1 => plns n ds
  | n, .lst ds => match n with | 0 => false | n + 1 => plns n ds
  | _, .ins _ _ _ => false
  | _, .dic _ _ => false
  | _, .exc _ _ _ => false
  | _, .town => false
  | _, .scr _ => false
  | _, .ptp _ => false
def plns : Nat → List D → Bool
  | _, [] => true
  | n, d :: ds => pln n d && plns n ds
end
section
variable {K : PySem.W.Frag} {mg : Str → Option Value} {W : Wd} {H : Hp}
mutual
theorem DV.dp (g : Same W.G H) : ∀ (d : D) (n : Nat) (v : V), DV K mg W d v → pln n d = true → Dp K H v (toPy d) ∧ PyData.canLay0 (toPy d) = true ∧ PyData.depth (toPy d) ≤ n
  | .non, n, v, x, _ => by simp only [DV] at x; subst x; simp only [toPy, PyData.canLay0, PyData.depth]; exact ⟨.non, trivial, Nat.zero_le _⟩
  | .bl b, n, v, x, _ => by simp only [DV] at x; subst x; simp only [toPy, PyData.canLay0, PyData.depth]; exact ⟨.bl b, trivial, Nat.zero_le _⟩
  | .int b, n, v, x, _ => by simp only [DV] at x; subst x; simp only [toPy, PyData.canLay0, PyData.depth]; exact ⟨.int b, trivial, Nat.zero_le _⟩
  | .str b, n, v, x, _ => by
    simp only [DV] at x
    obtain ⟨e, h1, h2⟩ := x
    subst e
    simp only [toPy, PyData.canLay0, PyData.depth]
    exact ⟨.str b, h2, Nat.zero_le _⟩
  | .tup ds, n, v, x, p => by
    simp only [DV] at x
    obtain ⟨a, vs, e, s, l, r⟩ := x
    subst e
    cases n with
    | zero => simp [pln] at p
    | succ n =>
      simp only [pln] at p
      obtain ⟨h1, h2, h3⟩ := DVs.dp g ds n vs r p
      simp only [toPy, PyData.canLay0, PyData.depth]
      exact ⟨.tup (seqT_mono g s) h1, h2, Nat.succ_le_succ h3⟩
  | .lst ds, n, v, x, p => by
    simp only [DV] at x
    obtain ⟨a, vs, e, s, l, r⟩ := x
    subst e
    cases n with
    | zero => simp [pln] at p
    | succ n =>
      simp only [pln] at p
      obtain ⟨h1, h2, h3⟩ := DVs.dp g ds n vs r p
      simp only [toPy, PyData.canLay0, PyData.depth]
      exact ⟨.lst (.inl (.inl (g _ _ s))) h1, h2, Nat.succ_le_succ h3⟩
  | .ins _ _ _, n, v, x, p => by simp [pln] at p
  | .dic _ _, n, v, x, p => by simp [pln] at p
  | .exc _ _ _, n, v, x, p => by simp [pln] at p
  | .ptp _, n, v, x, p => by simp [pln] at p
  | .town, n, v, x, p => by simp [pln] at p
  | .scr _, n, v, x, p => by simp [pln] at p
theorem DVs.dp (g : Same W.G H) : ∀ (ds : List D) (n : Nat) (vs : List V), DVs K mg W ds vs → plns n ds = true → DpAll K H vs (toPys ds) ∧ PyData.canLayAll0 (toPys ds) = true ∧ PyData.depthAll (toPys ds) ≤ n
  | [], n, vs, x, _ => by
    simp only [DVs] at x
    subst x
    simp only [toPys, PyData.canLayAll0, PyData.depthAll]
    exact ⟨.nil, trivial, Nat.zero_le _⟩
  | d :: ds, n, vs, x, p => by
    simp only [DVs] at x
    obtain ⟨v, vr, e, r, t⟩ := x
    subst e
    simp only [plns, Bool.and_eq_true] at p
    obtain ⟨h1, h2, h3⟩ := DV.dp g d n v r p.1
    obtain ⟨k1, k2, k3⟩ := DVs.dp g ds n vr t p.2
    simp only [toPys, PyData.canLayAll0, PyData.depthAll, Bool.and_eq_true]
    exact ⟨.cons h1 k1, ⟨h2, k2⟩, Nat.max_le.mpr ⟨h3, k3⟩⟩
end
end
def deq (d e : D) : Bool := PyData.eqv (toPy d) (toPy e)
theorem shaped_of {d : D} {n : Nat} (hn : n ≤ 64) (h1 : PyData.canLay0 (toPy d) = true) (h2 : PyData.depth (toPy d) ≤ n) : SeqAt.shaped (toPy d) = true := by
  unfold SeqAt.shaped
  rw [h1, Bool.true_and]
  exact decide_eq_true (Nat.le_trans h2 hn)
section
variable {X : Cx} {a b e : Expr} {τ τa τb : TD} {τs : TDa} {pos : Pos}
def gEq : G2 := fun x y k => pln 9 x = true ∧ pln 9 y = true ∧ k (.bl (deq x y))
def gNe : G2 := fun x y k => pln 9 x = true ∧ pln 9 y = true ∧ k (.bl (!deq x y))
theorem od_eq : OpD X (rEqD X.K) gEq := by
  intro W F H σ ρ x y dx dy k Q R hx hy ⟨p1, p2, hk⟩ hQ
  obtain ⟨h1, h2, h3⟩ := hx.dp R.w.g dx 9 x p1
  obtain ⟨k1, k2, k3⟩ := hy.dp R.w.g dy 9 y p2
  exact ⟨_, _, h1, k1, shaped_of (by decide) h2 h3, shaped_of (by decide) k2 k3, hQ _ _ H W hk (Wd.le.refl W) R (by simp only [DV, deq])⟩
theorem od_ne : OpD X (rNeD X.K) gNe := by
  intro W F H σ ρ x y dx dy k Q R hx hy ⟨p1, p2, hk⟩ hQ
  obtain ⟨h1, h2, h3⟩ := hx.dp R.w.g dx 9 x p1
  obtain ⟨k1, k2, k3⟩ := hy.dp R.w.g dy 9 y p2
  exact ⟨_, _, h1, k1, shaped_of (by decide) h2 h3, shaped_of (by decide) k2 k3, hQ _ _ H W hk (Wd.le.refl W) R (by simp only [DV, deq])⟩
theorem pd_eq {k : Nat} (hr : Room k X.A) (ha : PEd X a τa) (hb : PEd X b τb) : PEd X (.Compare a [.Eq] [b] pos) (dOp gEq τa τb) := pd_cmp (op_eqD hr.units) od_eq ha hb (nomark _)
theorem td_eq {k : Nat} (hr : Room k X.A) (ha : PEd X a τa) (hb : PEd X b τb) : PTd X (.Compare a [.Eq] [b] pos) (dTest (dOp gEq τa τb)) := td_cmp (op_eqD hr.units) od_eq ha hb (nomark _)
theorem td_ne {k : Nat} (hr : Room k X.A) (ha : PEd X a τa) (hb : PEd X b τb) : PTd X (.Compare a [.NotEq] [b] pos) (dTest (dOp gNe τa τb)) := td_cmp (op_neD hr.units) od_ne ha hb (nomark _)
/-! ### truth -/
def truD : D → Option Bool
  | .non => some false
  | .bl b => some b
  | .int i => some (i != 0)
  | .str x => some ((x.length : Int) != 0)
  | .tup ds => some (!ds.isEmpty)
  | .lst ds => some (!ds.isEmpty)
  | .scr ns => some (!ns.isEmpty)
  | .dic ks _ => some (!ks.isEmpty)
  | _ => none
def dTru (τ : TD) : TDt := fun ρ kx k => τ ρ kx fun d ρ' => ∃ b, truD d = some b ∧ k b ρ'
theorem dvs_empty {K : PySem.W.Frag} {mg : Str → Option Value} {W : Wd} {ds : List D} {vs : List V} (h : DVs K mg W ds vs) : ds.isEmpty = vs.isEmpty := by
  have := dvs_len h
  cases ds <;> cases vs <;> simp at this ⊢
theorem zip_empty {α β : Type} {ks : List α} {vs : List β} (l : ks.length = vs.length) : (ks.zip vs).isEmpty = ks.isEmpty := by
  cases ks <;> cases vs <;> simp at l ⊢
theorem td_tru (ha : PEd X a τ) (he : ∀ whole, isTrue a X.env whole = (do let v ← whole; standAt a.pos; holding [v] (truthy v)) := by intro _; rfl) : PTd X a (dTru τ) :=
  ⟨PT.imp (pt_truth ha.p he) fun σ H Q ⟨W, F, ρ, kx, k, tk, R, h, hQ⟩ => ⟨W, F, ρ, kx, _, tk, R, h, fun d ρ1 v1 H1 W1 ⟨b, hb, h1⟩ le1 R1 d1 => by
    refine ⟨b, ?_, hQ b ρ1 H1 W1 h1 le1 R1⟩
    cases d <;> simp only [truD, Option.some.injEq, reduceCtorEq] at hb <;> simp only [DV] at d1
    · subst d1; exact hb.symm
    · subst d1; exact hb.symm
    · subst d1; exact hb.symm
    · obtain ⟨e, h1, _⟩ := d1; subst e; exact ⟨h1, hb.symm⟩
    · obtain ⟨a, vs, e, s, l, r⟩ := d1; subst e; exact .inr (.inl ⟨vs, seqT_mono R1.w.g s, by rw [← hb, dvs_empty r]⟩)
    · obtain ⟨a, vs, e, s, l, r⟩ := d1; subst e; exact .inl ⟨vs, .inl (.inl (R1.w.g _ _ s)), by rw [← hb, dvs_empty r]⟩
    · obtain ⟨a, vs, e, s, l, r⟩ := d1
      subst e
      exact .inr (.inr ⟨_, R1.w.g _ _ s, by rw [← hb, zip_empty l]⟩)
    · obtain ⟨a, e, s, _⟩ := d1; subst e; exact .inl ⟨_, seqL_mono R1.w.g s, by rw [← hb]; simp⟩⟩⟩
/-! ### built-in calls -/
abbrev GC := List D → (D → Prop) → Prop
def CallD (X : Cx) (r : List V → Hp → VK → Prop) (g : GC) : Prop := ∀ (W : Wd) (F H : Hp) (σ : L2.St) (ρ : Rho) (vs : List V) (ds : List D) (k : D → Prop) (Q : VK), Rep X.K X.mg W F H σ ρ → DVs X.K X.mg W ds vs → g ds k →
  (∀ d v H' W', k d → W.le W' → Rep X.K X.mg W' F H' σ ρ → DV X.K X.mg W' d v → Q v H') → r vs H Q
def dBC (g : GC) (τs : TDa) : TD := fun ρ kx k => τs ρ kx fun ds ρ' => g ds fun d => k d ρ'
theorem lE.bc {r : List V → Hp → VK → Prop} {g : GC} (cd : CallD X r g) : ∀ σ H Q, lE X (dBC g τs) σ H Q → tCB r (lA X τs) σ H Q := by
  rintro σ H Q ⟨W, F, ρ, kx, k, tk, R, h, hQ⟩
  refine ⟨W, F, ρ, kx, _, tk, R, h, fun ds ρ1 vs H1 W1 h1 le1 R1 d1 => ?_⟩
  exact cd W1 F H1 σ ρ1 vs ds _ Q R1 d1 h1 fun d v H' W' hk le R' dv => hQ d ρ1 v H' W' hk (le1.trans le) R' dv
variable {x : Str} {p : Pos} {es : List Expr} {id : String} {T : String} {r : List V → Hp → VK → Prop} {g : GC}
theorem pd_bc (hc : CallR X (.builtin id) r) (cd : CallD X r g) (hg : Gl X x) (hm : X.mg x = none) (hv : bootBuiltins x = some (.builtin id)) (ha : PAd X (e :: es) τs) (hn : x ≠ "__name__" := by decide) (hdb : (x == ("__debug__" : Str)) = false := by decide)
    (he : starEach (e :: es) X.env = (false, eval e X.env) :: starEach es X.env := by rfl) (hpl : (backTo pos (starEach es X.env)).any (·.1) = false := by rfl) : PEd X (.Call (.Name x p) (e :: es) [] pos) (dBC g τs) :=
  ⟨PE.imp (pe_callB hc hg hm hv ha.p hn hdb he hpl) (lE.bc cd)⟩
theorem pd_tc (hc : CallR X (.type T) r) (cd : CallD X r g) (hg : Gl X x) (hm : X.mg x = none) (hv : bootBuiltins x = some (.type T)) (ha : PAd X (e :: es) τs) (hn : x ≠ "__name__" := by decide) (hdb : (x == ("__debug__" : Str)) = false := by decide)
    (he : starEach (e :: es) X.env = (false, eval e X.env) :: starEach es X.env := by rfl) (hpl : (backTo pos (starEach es X.env)).any (·.1) = false := by rfl) : PEd X (.Call (.Name x p) (e :: es) [] pos) (dBC g τs) :=
  ⟨PE.imp (pe_callTy hc hg hm hv ha.p hn hdb he hpl) (lE.bc cd)⟩
def cMin2 : GC := fun ds k => match ds with | [.int i, .int j] => k (.int (min i j)) | _ => False
def cMax2 : GC := fun ds k => match ds with | [.int i, .int j] => k (.int (max i j)) | _ => False
def cLen : GC := fun ds k => match ds with
  | [.tup xs] => k (.int (xs.length : Nat))
  | [.lst xs] => k (.int (xs.length : Nat))
  | [.str x] => k (.int (x.length : Nat))
  | [.scr ns] => k (.int (ns.length : Nat))
  | _ => False
theorem cd_len : CallD X (fun xs H Q => ∃ x n, xs = [x] ∧ LenV X.K x H n ∧ Q (.int n) H) cLen := by
  intro W F H σ ρ vs ds k Q R dv hg hQ
  have fin : ∀ n : Nat, k (.int (n : Nat)) → Q (.int (n : Nat)) H := fun n h => hQ _ _ H W h (Wd.le.refl W) R (by simp only [DV])
  match ds, hg, dv with
  | [.tup xs], hg, dv =>
    obtain ⟨v, e, r⟩ := dvs1 dv
    simp only [DV] at r
    obtain ⟨a, us, ea, s, l, r⟩ := r
    subst ea
    exact ⟨_, xs.length, e, .inr ⟨us, seqT_mono R.w.g s, dvs_len r⟩, fin _ hg⟩
  | [.lst xs], hg, dv =>
    obtain ⟨v, e, r⟩ := dvs1 dv
    simp only [DV] at r
    obtain ⟨a, us, ea, s, l, r⟩ := r
    subst ea
    exact ⟨_, xs.length, e, .inl ⟨us, .inl (.inl (R.w.g _ _ s)), dvs_len r⟩, fin _ hg⟩
  | [.str x], hg, dv =>
    obtain ⟨v, e, r⟩ := dvs1 dv
    simp only [DV] at r
    obtain ⟨ea, l, _⟩ := r
    subst ea
    exact ⟨_, x.length, e, ⟨l, rfl⟩, fin _ hg⟩
  | [.scr ns], hg, dv =>
    obtain ⟨v, e, r⟩ := dvs1 dv
    simp only [DV] at r
    obtain ⟨a, ea, s, l⟩ := r
    subst ea
    exact ⟨_, ns.length, e, .inl ⟨_, seqL_mono R.w.g s, by simp⟩, fin _ hg⟩
end
/-! ### the town's deeds -/
def drawM : FD := fun ds _ k => match ds with
  | [.scr _, .town, .int n] => (0 < n ∧ n < 100000) ∧ ∀ v : Int, 0 ≤ v → v < n → k (.int v)
  | _ => False
theorem nodup_le : ∀ (m : Nat) (l : List Key), l.Nodup → (∀ p ∈ l, ∃ k : Int, p = Sum.inl k ∧ 0 ≤ k ∧ k < (m : Int)) → l.length ≤ m
  | 0, l, _, h => by
    cases l with
    | nil => exact Nat.le_refl _
    | cons p r => obtain ⟨k, _, h1, h2⟩ := h p List.mem_cons_self; omega
  | m + 1, l, nd, h => by
    have h1 : (l.filter fun p => decide (p ≠ Sum.inl (m : Int))).length ≤ m := nodup_le m _ (nd.filter _) fun p hp => by
      obtain ⟨h2, h3⟩ := List.mem_filter.mp hp
      obtain ⟨k, e, k1, k2⟩ := h p h2
      refine ⟨k, e, k1, ?_⟩
      have : k ≠ (m : Int) := fun z => by subst z; rw [e] at h3; simp at h3
      omega
    have h2 : l.length ≤ (l.filter fun p => decide (p ≠ Sum.inl (m : Int))).length + 1 := by
      have aux : ∀ l : List Key, l.Nodup → l.length ≤ (l.filter fun p => decide (p ≠ Sum.inl (m : Int))).length + 1 := by
        intro l
        induction l with
        | nil => intro _; simp
        | cons p r ih =>
          intro nd
          obtain ⟨n1, n2⟩ := List.nodup_cons.mp nd
          by_cases e : p = Sum.inl (m : Int)
          · have : r.filter (fun p => decide (p ≠ Sum.inl (m : Int))) = r := List.filter_eq_self.mpr fun q hq => decide_eq_true fun z => n1 (by rw [e, ← z]; exact hq)
            rw [List.filter_cons, if_neg (by simp [e]), this]
            simp
          · rw [List.filter_cons, if_pos (by simpa using e)]
            have := ih n2
            simp only [List.length_cons]
            omega
      exact aux l nd
    omega
end DL
set_option maxHeartbeats 4000000
/-! DL8: the town's two dicts. -/
namespace DL
open PySem PySem.Spec PyProof.Rows L2
abbrev kCount : Key := Sum.inr "count"
abbrev kRests : Key := Sum.inr "rests"
theorem cr_ne : ¬ (kCount = kRests) := by decide +kernel
def tk (c : Int) (r : Addr) : List (Key × V) := [(kCount, .int c), (kRests, .ref r)]
theorem tk_count (c : Int) (r : Addr) : valV (tk c r) kCount = some (.int c) := valV_pos rfl
theorem tk_rests (c : Int) (r : Addr) : valV (tk c r) kRests = some (.ref r) := by
  unfold tk
  rw [valV_neg cr_ne, valV_pos rfl]
theorem tk_put (c c' : Int) (r : Addr) : putK (tk c r) kCount (.int c') = tk c' r := by
  unfold putK tk
  rw [if_pos (by simp)]
  simp [Ne.symm cr_ne]
theorem townAt_of {H : Hp} {a r : Addr} {c : Int} {kvs : List (Key × V)} (n : a ≠ r) (h1 : H a = some (.dK (tk c r))) (h2 : H r = some (.dK kvs)) (h3 : ∀ p ∈ kvs, ∃ k n : Int, p = (Sum.inl k, V.int n) ∧ 0 ≤ k ∧ k < 64) (h4 : (kvs.map (·.1)).Nodup) : TownAt H a r := by
  refine ⟨n, c, kvs, h1, h2, ?_, h3, h4⟩
  have := nodup_le 64 (kvs.map (·.1)) h4 fun p hp => by
    obtain ⟨q, hq, e⟩ := List.mem_map.mp hp
    obtain ⟨k, m, e2, k1, k2⟩ := h3 q hq
    exact ⟨k, by rw [← e, e2], k1, k2⟩
  rwa [List.length_map] at this
theorem WOk.town {W : Wd} {F H H' : Hp} {a r : Addr} (w : WOk W F H) (ht : W.T = some (a, r)) (h : ∀ b, b ≠ a → b ≠ r → H' b = H b) (t : TownAt H' a r) : WOk W F H' := by
  obtain ⟨_, g1, g2, f1, f2⟩ := w.t _ ht
  have ne : ∀ {H0 : Hp} {b : Addr} {o : HO}, H0 a = none → H0 r = none → H0 b = some o → b ≠ a ∧ b ≠ r := fun {H0 b o} n1 n2 e =>
    ⟨(fun z => by rw [z, n1] at e; cases e), (fun z => by rw [z, n2] at e; cases e)⟩
  refine ⟨fun b o e => ?_, fun b o e => ?_, w.gf, fun p hp => ?_⟩
  · obtain ⟨q1, q2⟩ := ne g1 g2 e
    exact (h b q1 q2).trans (w.g b o e)
  · obtain ⟨q1, q2⟩ := ne f1 f2 e
    exact (h b q1 q2).trans (w.f b o e)
  · rw [ht] at hp
    cases hp
    exact ⟨t, g1, g2, f1, f2⟩
def Rests (kvs : List (Key × V)) : Prop := (∀ p ∈ kvs, ∃ k n : Int, p = (Sum.inl k, V.int n) ∧ 0 ≤ k ∧ k < 64) ∧ (kvs.map (·.1)).Nodup
theorem Rests.len {kvs : List (Key × V)} (h : Rests kvs) : kvs.length ≤ 64 := by
  have := nodup_le 64 (kvs.map (·.1)) h.2 fun p hp => by
    obtain ⟨q, hq, e⟩ := List.mem_map.mp hp
    obtain ⟨k, m, e2, k1, k2⟩ := h.1 q hq
    exact ⟨k, by rw [← e, e2], k1, k2⟩
  rwa [List.length_map] at this
theorem Rests.get {kvs : List (Key × V)} (h : Rests kvs) (i d : Int) : ∃ m : Int, (valV kvs (Sum.inl i)).getD (.int d) = .int m := by
  unfold valV
  cases q : kvs.find? fun kv => decide (kv.1 = Sum.inl i) with
  | none => exact ⟨d, rfl⟩
  | some p =>
    obtain ⟨k, n, e, _⟩ := h.1 p (List.mem_of_find?_eq_some q)
    exact ⟨n, by rw [e]; rfl⟩
theorem Rests.put {kvs : List (Key × V)} (h : Rests kvs) {i m : Int} (h0 : 0 ≤ i) (h1 : i < 64) : Rests (putK kvs (Sum.inl i) (.int m)) := by
  unfold putK
  split
  · refine ⟨fun p hp => ?_, ?_⟩
    · obtain ⟨q, hq, e⟩ := List.mem_map.mp hp
      obtain ⟨k, n, e2, k1, k2⟩ := h.1 q hq
      subst e2
      by_cases z : (Sum.inl k : Key) = Sum.inl i
      · have e' : p = (Sum.inl k, V.int m) := by rw [← e]; simp [z]
        exact ⟨k, m, e', k1, k2⟩
      · have e' : p = (Sum.inl k, V.int n) := by rw [← e]; simp only [if_neg z]
        exact ⟨k, n, e', k1, k2⟩
    · have : (kvs.map fun kv => if kv.1 = Sum.inl i then (kv.1, V.int m) else kv).map (·.1) = kvs.map (·.1) := by
        rw [List.map_map]
        refine List.map_congr_left fun q _ => ?_
        by_cases z : q.1 = Sum.inl i
        · simp [z]
        · simp [z]
      rw [this]; exact h.2
  · rename_i hn
    have hn' : ∀ x ∈ kvs, ¬ x.1 = Sum.inl i := fun x hx z => hn (by rw [List.any_eq_true]; exact ⟨x, hx, by simpa using z⟩)
    refine ⟨fun p hp => ?_, ?_⟩
    · rcases List.mem_append.mp hp with q | q
      · exact h.1 p q
      · have : p = (Sum.inl i, V.int m) := by simpa using q
        exact ⟨i, m, this, h0, h1⟩
    · rw [List.map_append, List.nodup_append]
      refine ⟨h.2, by simp, fun x hx y hy => ?_⟩
      have ey : y = Sum.inl i := by simpa using hy
      obtain ⟨q, hq, e⟩ := List.mem_map.mp hx
      rw [ey, ← e]
      exact hn' q hq
theorem emod_lt' (i : Int) {n : Int} (h : 0 < n) : 0 ≤ i % n ∧ i % n < n := ⟨Int.emod_nonneg _ (by omega), Int.emod_lt_of_pos _ h⟩
end DL
set_option maxHeartbeats 4000000
/-! DL9: the law itself. -/
namespace DL
open PySem PySem.Spec PyProof.Rows L2
def SpB : Sp := fun vs H Q _ => vs = [] ∧ ∀ (a r : Addr) (H' : Hp), a ≠ r → H a = none → H r = none → H' a = some (.dK (tk 0 r)) → H' r = some (.dK []) → (∀ b, b ≠ a → b ≠ r → H' b = H b) → Q (.ref a) H'
theorem begun_read {H : Hp} {Q : VK} {σ : L2.St} (h : ∀ (a r : Addr) (H' : Hp), a ≠ r → H a = none → H r = none → H' a = some (.dK (tk 0 r)) → H' r = some (.dK []) → (∀ b, b ≠ a → b ≠ r → H' b = H b) → Q (.ref a) H') :
    tDisp [(tC (.str "count"), tC (.int 0)), (tC (.str "rests"), tDNewK)] σ H Q := by
  intro p hp r hr
  have npr : p ≠ r := fun z => by rw [z, upd_same] at hr; cases hr
  have hr0 : H r = none := by rw [upd_ne (Ne.symm npr)] at hr; exact hr
  refine ⟨(upd_ne npr).trans upd_same, [(kCount, .int 0), (kRests, .ref r)], rfl, by simp, ?_⟩
  refine h p r _ npr hp hr0 (upd_same.trans ?_) ((upd_ne (Ne.symm npr)).trans upd_same) fun b b1 b2 => (upd_ne b1).trans ((upd_ne b2).trans (upd_ne b1))
  have : mergeK [] [(kCount, V.int 0), (kRests, V.ref r)] = tk 0 r := by
    unfold mergeK
    rw [List.foldl_cons, List.foldl_cons, List.foldl_nil, putK_new _ rfl]
    show putK [(kCount, V.int 0)] kRests (V.ref r) = _
    rw [putK_new _ (by rw [valV_neg cr_ne]; rfl)]
    rfl
  rw [this]
def spLaw (K : PySem.W.Frag) : Sp := fun vs H Q _ => ∃ (a : Addr) (ns : List Int), vs = [.ref a] ∧ SqL K H a (ns.map V.int) ∧ ns.length ≤ 63 ∧ ∀ H', Q (.bl true) H'
def KL : KS := { nx := fun _ => False, rt := fun d _ => d = .bl true }
def rhoL (n : Nat) (ns : List Int) : Rho := .val (.scr ns) :: .val .town :: List.replicate (n - 2) .un
section
variable {P : Program} {w : World} {K : PySem.W.Frag} {mg : Str → Option Value} {base : Heap}
theorem fn_law {params : Arguments} {s0 : Stmt} {rest : List Stmt} {scope : Scope} {f : Addr} {fd : FuncData} {N : List Str} {k : Nat} {τ : TDS} (F : FunD K "law" "law" params (s0 :: rest) scope [] [] f fd) (S : FnScope N ["_law_script"] scope) (hN : 2 ≤ N.length)
    (hτ : ∀ ns : List Int, ns.length ≤ 63 → τ (rhoL N.length ns) nokx KL)
    (hb : ∀ (cdv : Value) (A : Around) (outer : List PySem.Env) (s : Shared) (H : Hp) (E : XK), Room k (A.deeper (envOfC "law" scope s.heap.objs.size f cdv)) →
      PS (cxOf (L2.CX P w) P w K mg base N "law" scope f cdv A outer s H E) s0 (tAsg (tCall SpB [] E0 tNil) (L2.gName 1)) ∧ PBd (cxOf (L2.CX P w) P w K mg base N "law" scope f cdv A outer s H E) rest τ) :
    FnOk P w K mg base (L2.CX P w) (k + 1) f fd ["_law_script"] (spLaw K) := by
  refine F.ok S (fun vs H Q E h => by obtain ⟨a, ns, e, _⟩ := h; rw [e]; rfl) fun cdv A outer s H vs Q E hr h => ?_
  obtain ⟨a, ns, rfl, hS, hl, hQ⟩ := h
  obtain ⟨h0, hrest⟩ := hb cdv A outer s H E hr
  refine ⟨_, pss_cons h0 hrest.p, ⟨rfl, fun ta tr H' ne na nr h1 h2 h3 => ?_⟩⟩
  have sm : Same H H' := fun b o e => (h3 b (ne_of_none e na) (ne_of_none e nr)).trans e
  have wok : WOk { G := H, T := some (ta, tr) } (fun _ => none) H' := ⟨sm, (fun _ _ e => by cases e), (fun _ e => (e rfl).elim), fun p hp => by
    cases hp
    exact ⟨townAt_of ne h1 h2 (fun p hp => by simp at hp) (by simp), na, nr, rfl, rfl⟩⟩
  refine ⟨{ G := H, T := some (ta, tr) }, fun _ => none, rhoL N.length ns, nokx, KL, takesNo, ?_, hτ ns hl, ⟨fun _ _ _ _ z => z.elim, fun d ρ' v σ' H2 W2 hk _ _ dv => ?_, fun _ _ _ _ z => z.elim, fun _ _ _ _ z => z.elim⟩⟩
  · refine ⟨wok, ?_, fun i s hs => ?_, fun i j b _ ⟨t, t1, t2, _⟩ => ?_⟩
    · unfold rhoL L2.start
      simp
      omega
    · have eσ : L2.start N [V.ref a] = some (V.ref a) :: List.replicate (N.length - 1) none := rfl
      rw [eσ]
      match i, hs with
      | 0, hs =>
        have : s = .val (.scr ns) := by unfold rhoL at hs; simpa using hs.symm
        subst this
        refine .inr ⟨.ref a, ?_, ?_⟩
        · rw [List.getElem?_set_ne (by decide)]; rfl
        · show DV K mg _ (.scr ns) (.ref a)
          simp only [DV]
          exact ⟨a, rfl, hS, hl⟩
      | 1, hs =>
        have : s = .val .town := by unfold rhoL at hs; simpa using hs.symm
        subst this
        refine .inr ⟨.ref ta, ?_, ?_⟩
        · rw [List.getElem?_set_self (by simp; omega)]
        · show DV K mg _ .town (.ref ta)
          simp only [DV]
          exact ⟨ta, tr, rfl, rfl⟩
      | i + 2, hs =>
        refine .inl ?_
        unfold rhoL at hs
        have : (List.replicate (N.length - 2) DL.S.un)[i]? = some s := by simpa using hs
        exact List.eq_of_mem_replicate (List.mem_of_getElem? this)
    · have hh : t = .val (.scr ns) ∨ t = .val .town ∨ t = .un := by
        have hm := List.mem_of_getElem? t1
        unfold rhoL at hm
        rcases List.mem_cons.mp hm with e | hm
        · exact .inl e
        · rcases List.mem_cons.mp hm with e | hm
          · exact .inr (.inl e)
          · exact .inr (.inr (List.eq_of_mem_replicate hm))
      rcases hh with e | e | e <;> (subst e; cases t2)
  · have hk : d = .bl true := hk
    subst hk
    simp only [DV] at dv
    subst dv
    exact hQ H2
end
theorem law_nox {P : Program} {w : World} {H : Hp} {s : Shared} {e : Value} {s' : Shared} (h : L2.CX P w [] H s (fun _ _ _ => False) e s') : False := by
  obtain ⟨_, _, _, _, _, _, _, _, _, _, _, _, z⟩ := h
  exact z
theorem walkL {l : PySem.W.OpenLaw} {q : Program} {loose : List Str} {XP : (Str → Option Value) → Heap → Prop} {YP : World → Heap → Prop} {d : DefRec} {K : Params → PySem.W.Frag} {k : Nat} (hr : Room k callerA) (hn : l.most = some 63) (hdf : d.params.defaults = [])
    (hY : ∀ (w : World) (h : Heap), YP w h → (K w.params).In h)
    (F : ∀ (w : World) (mg : Str → Option Value) (fa : Addr) (h : Heap), (K w.params).In h → h.Ns mainGlobals mg → mg d.name = some (.ref fa) →
      ∃ fd : FuncData, (∀ (s : Shared) (u : Value), BindsTo s fd ⟨[u], []⟩ [("_law_script", u)]) ∧ ∀ base : Heap, (K w.params).In base → base.Ns mainGlobals mg → FnOk l.prog w (K w.params) mg base (L2.CX l.prog w) k fa fd ["_law_script"] (spLaw (K w.params))) :
    PySem.W.WalkO q loose XP YP l.row.toRowW d [] (fun f vs => PySem.call f vs) :=
  L2.walk_of (n := 63) (k := k) (x := "_law_script") (CX := fun w => L2.CX l.prog w) (sp := fun w => spLaw (K w.params)) hn (by decide) hdf hr hY F (fun _ _ a ns hl _ hS => ⟨a, ns, rfl, hS, hl, fun _ => rfl⟩) fun _ _ _ _ _ z => law_nox z
end DL
set_option maxHeartbeats 4000000
namespace DL
open PySem PySem.Spec PyProof.Rows L2
theorem Fun_binds0 {K : PySem.W.Frag} {x qual : Str} {params : Arguments} {body : List Stmt} {scope : Scope} {kws : List (Str × V)} {f : Addr} {fd : FuncData} (F : FunD K x qual params body scope [] kws f fd)
    (h : ∀ {kV doc pm : Value} {an : Option Addr} {cdv ct : Value}, bindArgs (PySem.W.fnOf x qual params body scope .none kV doc pm an cdv ct) ⟨[], []⟩ = pure []) : Binds K fd [] [] := by
  obtain ⟨oc, od, dV, kV, doc, pm, an, cdv, ct, osl, rfl, lk, hcd, hD, _⟩ := F.ex
  rcases hD with ⟨_, rfl⟩ | ⟨z, _⟩
  · exact .all fun us hl => by
      cases us with
      | nil => exact h
      | cons a b => cases hl
  · exact absurd rfl z
section
variable {X : Cx} {a b : Expr} {τa τb : TD} {pos : Pos}
def gAdd : G2 := gAddI
def gMult : G2 := gMul
theorem pd_mult (ha : PEd X a τa) (hb : PEd X b τb) : PEd X (.BinOp a .Mult b pos) (dOp gMult τa τb) := pd_mul ha hb
def gLt : G2 := gLtI
theorem pd_lt {k : Nat} (hr : Room k X.A) (ha : PEd X a τa) (hb : PEd X b τb) : PEd X (.Compare a [.Lt] [b] pos) (dOp gLt τa τb) := pd_cmp op_lt od_ltI ha hb (nomark _)
end
end DL
set_option maxHeartbeats 4000000
namespace DL
open PySem PySem.Spec PyProof.Rows L2
/-! ### the steps of a reading -/
section
variable {ρ ρ' : Rho} {kx : KX} {k : KE} {kv : KV} {kt : Bool → Rho → Prop} {ka : List D → Rho → Prop} {km : List S → Rho → Prop} {kd : D → Prop}
variable {τ τa τb τc : TD} {τs : TDs} {τl τk τr : TDa} {τi : TDi} {ta tb : TDt} {t u : TDS} {τm : TDm} {γ : TGd} {γs : TGsd}
variable {n r0 b0 : Rho → Prop} {r : D → Rho → Prop} {b c : Rho → Prop} {g : G2} {x y : D} {i : Nat} {d : D} {ds : List D} {s : S} {m : FD} {A B : Prop}
theorem x_var (e : ρ[i]? = some (.val d)) (h : k d ρ) : dVar i ρ kx k := ⟨d, d, e, .same d, h⟩
theorem x_varP (e : ρ[i]? = some (.val (.ptp ds))) (h : k (.tup ds) ρ) : dVar i ρ kx k := ⟨.ptp ds, .tup ds, e, .tup ds, h⟩
theorem x_C (h : k d ρ) : dC d ρ kx k := h
theorem x_op (h : τa ρ kx fun x ρ1 => τb ρ1 kx fun y ρ2 => g x y fun d => k d ρ2) : dOp g τa τb ρ kx k := h
theorem x_un {g : D → (D → Prop) → Prop} (h : τ ρ kx fun d ρ' => g d fun d' => k d' ρ') : dUn g τ ρ kx k := h
theorem x_sub {i j : Int} (h : kd (.int (i - j))) : gSub (.int i) (.int j) kd := ⟨trivial, h⟩
theorem x_mul {i j : Int} (c : CMul i j) (h : kd (.int (i * j))) : gMul (.int i) (.int j) kd := ⟨c, h⟩
theorem x_mult {i j : Int} (c : CMul i j) (h : kd (.int (i * j))) : gMult (.int i) (.int j) kd := ⟨c, h⟩
theorem x_div {i j : Int} (c : CDivN i j) (h : kd (.int (i.fdiv j))) : gDiv (.int i) (.int j) kd := ⟨c, h⟩
theorem x_mod {i j : Int} (c : j ≠ 0) (h : kd (.int (i.fmod j))) : gMod (.int i) (.int j) kd := ⟨c, h⟩
theorem x_add {i j : Int} (h : kd (.int (i + j))) : gAdd (.int i) (.int j) kd := ⟨trivial, h⟩
theorem x_lt {i j : Int} (h : kd (.bl (decide (i < j)))) : gLt (.int i) (.int j) kd := ⟨trivial, h⟩
theorem x_ltI {i j : Int} (h : kd (.bl (decide (i < j)))) : gLtI (.int i) (.int j) kd := ⟨trivial, h⟩
theorem x_leI {i j : Int} (h : kd (.bl (decide (i ≤ j)))) : gLeI (.int i) (.int j) kd := ⟨trivial, h⟩
theorem x_gtI {i j : Int} (h : kd (.bl (decide (j < i)))) : gGtI (.int i) (.int j) kd := ⟨trivial, h⟩
theorem x_geI {i j : Int} (h : kd (.bl (decide (j ≤ i)))) : gGeI (.int i) (.int j) kd := ⟨trivial, h⟩
theorem x_is (h : kd (.bl (gIsN d))) : gIs d kd := h
theorem x_notis (h : kd (.bl (!gIsN d))) : gNotIs d kd := h
theorem x_neg {i : Int} (h : kd (.int (-i))) : gNeg (.int i) kd := h
theorem x_eqI {i j : Int} (h : kd (.bl (decide (i = j)))) : gEq (.int i) (.int j) kd := ⟨rfl, rfl, h⟩
theorem x_neI {i j : Int} (h : kd (.bl (!decide (i = j)))) : gNe (.int i) (.int j) kd := ⟨rfl, rfl, h⟩
theorem x_eq (p : pln 9 x = true) (q : pln 9 y = true) (h : kd (.bl (deq x y))) : gEq x y kd := ⟨p, q, h⟩
theorem x_and (h : ta ρ kx fun c ρ' => if c = true then tb ρ' kx kt else kt false ρ') : dAnd ta tb ρ kx kt := h
theorem x_or (h : ta ρ kx fun c ρ' => if c = true then kt true ρ' else tb ρ' kx kt) : dOr ta tb ρ kx kt := h
theorem x_not (h : ta ρ kx fun c ρ' => kt (!c) ρ') : dNot ta ρ kx kt := h
theorem x_dif (h : ta ρ kx fun c ρ' => if c = true then τa ρ' kx k else τb ρ' kx k) : dIf ta τa τb ρ kx k := h
theorem x_iteD {p : Prop} [Decidable p] (h1 : p → A) (h2 : ¬p → B) : if decide p = true then A else B := by by_cases h : p <;> simp_all
theorem x_yes {p : Prop} [Decidable p] (e : p) (h : A) : if decide p = true then A else B := by rw [decide_eq_true e]; exact h
theorem x_T (h : A) : if true = true then A else B := by simpa using h
theorem x_F (h : B) : if false = true then A else B := by simpa using h
theorem x_nT (h : B) : if (!true) = true then A else B := by simpa using h
theorem x_nF (h : A) : if (!false) = true then A else B := by simpa using h
theorem x_nil (h : ka [] ρ) : dNil ρ kx ka := h
theorem x_cons (h : τ ρ kx fun d ρ1 => τr ρ1 kx fun ds ρ2 => ka (d :: ds) ρ2) : dCons τ τr ρ kx ka := h
theorem x_dct (h : kv (.dct []) ρ) : vDct ρ kx kv := h
theorem x_val (h : τ ρ kx fun d ρ' => kv (.val d) ρ') : vVal τ ρ kx kv := h
theorem x_bc {g : GC} (h : τl ρ kx fun ds ρ' => g ds fun d => k d ρ') : dBC g τl ρ kx k := h
theorem x_min2 {i j : Int} (h : kd (.int (min i j))) : cMin2 [.int i, .int j] kd := h
theorem x_max2 {i j : Int} (h : kd (.int (max i j))) : cMax2 [.int i, .int j] kd := h
theorem x_next (h : n ρ) : sNext ρ kx ⟨n, r, b, c⟩ := h
theorem x_brk (h : b ρ) : sBrk ρ kx ⟨n, r, b, c⟩ := h
theorem x_cont (h : c ρ) : sCnt ρ kx ⟨n, r, b, c⟩ := h
theorem x_seq (h : t ρ kx ⟨fun ρ' => u ρ' kx ⟨n, r, b, c⟩, r, b, c⟩) : sSeq t u ρ kx ⟨n, r, b, c⟩ := h
theorem x_drop (h : τ ρ kx fun _ ρ' => n ρ') : sDrop τ ρ kx ⟨n, r, b, c⟩ := h
theorem x_ret (h : τ ρ kx r) : sRet τ ρ kx ⟨n, r, b, c⟩ := h
theorem x_retN (h : r .non ρ) : sRetN ρ kx ⟨n, r, b, c⟩ := h
theorem x_if (h : ta ρ kx fun b' ρ' => if b' = true then t ρ' kx ⟨n, r, b, c⟩ else u ρ' kx ⟨n, r, b, c⟩) : sIf ta t u ρ kx ⟨n, r, b, c⟩ := h
theorem x_asgT (h : τ ρ kx fun d ρ' => γ d ρ' n) : sAsgT γ τ ρ kx ⟨n, r, b, c⟩ := h
theorem x_gN (e : ρ.set i (.val d) = ρ') (h : n ρ') : gN i d ρ n := by unfold gN; rw [e]; exact h
theorem x_gsN (h : n ρ) : gsN [] ρ n := ⟨rfl, h⟩
theorem x_gsC (h : γ d ρ fun ρ1 => γs ds ρ1 n) : gsC γ γs (d :: ds) ρ n := h
theorem x_gT {m : Nat} (e : ds.length = m) (h : γs ds ρ n) : gT m γs (.tup ds) ρ n := ⟨e, h⟩
theorem x_mNil (h : km [] ρ) : mNil ρ kx km := h
theorem x_mCons (h : τs ρ kx fun s ρ1 => τm ρ1 kx fun ss ρ2 => km (s :: ss) ρ2) : mCons τs τm ρ kx km := h
theorem x_for (h : τi ρ kx fun ds ρ' => forD γ t ds ρ' kx ⟨n, r, b, c⟩) : sFor τi γ t ρ kx ⟨n, r, b, c⟩ := h
theorem x_draw {ns : List Int} {N : Int} {kx : XD → Prop} (h0 : 0 < N ∧ N < 100000) (h : ∀ v : Int, 0 ≤ v → v < N → kd (.int v)) : drawM [.scr ns, .town, .int N] kx kd := ⟨h0, h⟩
theorem x_for_rng (I : Nat → Rho → Prop) {lo : Int} {N : Nat} (h0 : I 0 ρ) (hn : ∀ ρ, I N ρ → n ρ) (hs : ∀ (i : Nat) ρ (P : Rho → Prop), i < N → I i ρ → (∀ ρ', I (i + 1) ρ' → P ρ') → γ (.int (lo + i)) ρ fun ρ1 => t ρ1 kx ⟨P, r, n, P⟩) : forD γ t (rng lo N) ρ kx ⟨n, r, b, c⟩ := by
  have key : ∀ (m j : Nat) (ρ : Rho), j + m = N → I j ρ → forD γ t ((List.range' j m).map fun i => D.int (lo + (i : Nat))) ρ kx ⟨n, r, b, c⟩ := by
    intro m
    induction m with
    | zero => intro j ρ e h; exact hn ρ (by rw [← e]; exact h)
    | succ m ih => intro j ρ e h; exact hs j ρ _ (by omega) h fun ρ' q => ih (j + 1) ρ' (by omega) q
  unfold rng
  rw [List.range_eq_range']
  exact key N 0 ρ (by omega) h0
def testK (kt : Bool → Rho → Prop) : KE := fun d ρ' => match d with | .bl b => kt b ρ' | _ => False
theorem x_dtestK (h : τ ρ kx (testK kt)) : dTest τ ρ kx kt := h
theorem x_testK {b : Bool} (h : kt b ρ) : testK kt (.bl b) ρ := h
def rg1K (ka : List D → Rho → Prop) : List D → Rho → Prop := fun ds ρ' => match ds with
  | [.int j] => (-1000000 ≤ j ∧ j ≤ 1000000) ∧ ka (rng 0 j.toNat) ρ'
  | _ => False
def rg2K (ka : List D → Rho → Prop) : List D → Rho → Prop := fun ds ρ' => match ds with
  | [.int i, .int j] => (-1000000 ≤ i ∧ i ≤ 1000000 ∧ -1000000 ≤ j ∧ j ≤ 1000000 ∧ j - i ≤ 1000000) ∧ ka (rng i (j - i).toNat) ρ'
  | _ => False
theorem x_rg1 (h : τl ρ kx (rg1K ka)) : iRg1 τl ρ kx ka := h
theorem x_rg2 (h : τl ρ kx (rg2K ka)) : iRg2 τl ρ kx ka := h
theorem x_rg1K {j : Int} (e : -1000000 ≤ j ∧ j ≤ 1000000) (h : ka (rng 0 j.toNat) ρ) : rg1K ka [.int j] ρ := ⟨e, h⟩
theorem x_rg2K {i j : Int} (e : -1000000 ≤ i ∧ i ≤ 1000000 ∧ -1000000 ≤ j ∧ j ≤ 1000000 ∧ j - i ≤ 1000000) (h : ka (rng i (j - i).toNat) ρ) : rg2K ka [.int i, .int j] ρ := ⟨e, h⟩
def andK (f : Rho → Prop) (k : KE) : KE := fun d ρ' => match d with | .bl c => (if c = true then f ρ' else k (.bl false) ρ') | _ => False
def orK (f : Rho → Prop) (k : KE) : KE := fun d ρ' => match d with | .bl c => (if c = true then k (.bl true) ρ' else f ρ') | _ => False
def notK (k : KE) : KE := fun d ρ' => match d with | .bl c => k (.bl (!c)) ρ' | _ => False
theorem x_andV (h : τa ρ kx (andK (fun ρ' => τb ρ' kx k) k)) : dAndV τa τb ρ kx k := h
theorem x_orV (h : τa ρ kx (orK (fun ρ' => τb ρ' kx k) k)) : dOrV τa τb ρ kx k := h
theorem x_notV (h : τa ρ kx (notK k)) : dNotV τa ρ kx k := h
theorem x_andK {c : Bool} {f : Rho → Prop} (h : if c = true then f ρ else k (.bl false) ρ) : andK f k (.bl c) ρ := h
theorem x_orK {c : Bool} {f : Rho → Prop} (h : if c = true then k (.bl true) ρ else f ρ) : orK f k (.bl c) ρ := h
theorem x_notK {c : Bool} (h : k (.bl (!c)) ρ) : notK k (.bl c) ρ := h
def lens (n : Nat) (ka : List D → Rho → Prop) : List D → Rho → Prop := fun ds ρ' => ds.length = n ∧ ka ds ρ'
theorem x_cntK {n : Nat} (h : τl ρ kx (lens n ka)) : DL.cnt n τl ρ kx ka := h
theorem x_lens (e : ds.length = i) (h : ka ds ρ) : lens i ka ds ρ := ⟨e, h⟩
def tupK (k : KE) : List D → Rho → Prop := fun ds ρ' => ds.length ≤ BIG ∧ ∃ d, Wk (.ptp ds) d ∧ k d ρ'
theorem x_tupK (h : τl ρ kx (tupK k)) : dTup τl ρ kx k := h
theorem x_tupD (e : ds.length ≤ BIG) (h : k (.tup ds) ρ) : tupK k ds ρ := ⟨e, _, .tup ds, h⟩
def lstK (k : KV) : List D → Rho → Prop := fun ds ρ' => ds.length ≤ BIG ∧ k (.own ds) ρ'
theorem x_lstK (h : τl ρ kx (lstK kv)) : vLst τl ρ kx kv := h
theorem x_lstD (e : ds.length ≤ BIG) (h : kv (.own ds) ρ) : lstK kv ds ρ := ⟨e, h⟩
def parK (is : List Nat) (n : Rho → Prop) : List S → Rho → Prop := fun ss ρ' => ss.length = is.length ∧ n (setS ρ' is ss)
theorem x_parK {is : List Nat} (h : τm ρ kx (parK is n)) : sPar is τm ρ kx ⟨n, r, b, c⟩ := h
theorem x_parD {is : List Nat} {ss : List S} (e1 : ss.length = is.length) (e : setS ρ is ss = ρ') (h : n ρ') : parK is n ss ρ := ⟨e1, e ▸ h⟩
def setK (i : Nat) (n : Rho → Prop) : KV := fun s ρ' => n (ρ'.set i s)
theorem x_asgK (h : τs ρ kx (setK i n)) : sAsg i τs ρ kx ⟨n, r, b, c⟩ := h
theorem x_setK (e : ρ.set i s = ρ') (h : n ρ') : setK i n s ρ := by unfold setK; rw [e]; exact h
def callK (m : FD) (idx : List Nat) (dds ds : List D) (kx : KX) (k : KE) : List D → Rho → Prop := fun ks ρ2 => m (pickD idx (ds ++ dds ++ ks)) (fun x => kx x ρ2) fun d => k d ρ2
theorem x_callK {idx : List Nat} {dds : List D} (h : τl ρ kx fun ds ρ1 => τk ρ1 kx (callK m idx dds ds kx k)) : dCall m idx dds τl τk ρ kx k := h
theorem x_callD {idx : List Nat} {dds ks as : List D} (e : pickD idx (ds ++ dds ++ ks) = as) (h : m as (fun x => kx x ρ) fun d => k d ρ) : callK m idx dds ds kx k ks ρ := by unfold callK; rw [e]; exact h
end
theorem relInt {i : Int} {t : Nat} : RelV (.int i) (.int i t) := ⟨t, rfl⟩
end DL
set_option maxHeartbeats 4000000
/-! DL12: sequences: index, slices, sums of sequences, calls. -/
namespace DL
open PySem PySem.Spec PyProof.Rows L2
section
variable {X : Cx} {a b e : Expr} {τ τa τb : TD} {pos : Pos} {τs : TDa}
def gIdx : G2 := fun x y k => match x, y with
  | .tup ds, .int i => ∃ d, atI ds i = some d ∧ k d
  | .lst ds, .int i => ∃ d, atI ds i = some d ∧ k d
  | .str z, .int i => ∃ c, atI z.cps.toList i = some c ∧ k (.str ⟨#[c]⟩)
  | _, _ => False
/-! a + b -/
def gAddA : G2 := fun x y k => match x, y with
  | .int i, .int j => k (.int (i + j))
  | .str s, .str t => s.length + t.length ≤ BIG ∧ k (.str (s ++ t))
  | .tup ds, .tup es => ds.length + es.length ≤ BIG ∧ k (.tup (ds ++ es))
  | _, _ => False
def rAddA (K : PySem.W.Frag) : R2 := fun x y H Q => rI0 (fun i j => V.int (i + j)) x y H Q ∨ ((∃ i j, x = .str i ∧ y = .str j ∧ i.length + j.length ≤ sizeLine ∧ Q (.str (i ++ j)) H) ∨ rCatA K x y H Q)
theorem op_addA : OpR X (binaryOp .Add) (rAddA X.K) := OpR.or2 op_add (OpR.or2 op_add_str op_catA)
theorem sok_app {s t : Str} (h : SOk s) (k : SOk t) (l : s.length + t.length ≤ BIG) : SOk (s ++ t) := by
  have e : (s ++ t).cps = s.cps ++ t.cps := rfl
  refine ⟨?_, ?_⟩
  · show (s ++ t).cps.size ≤ sizeLine
    rw [e, Array.size_append]; exact big_le l
  · rw [e, Array.all_append, h.2, k.2]; rfl
theorem od_addA : OpD X (rAddA X.K) gAddA := by
  intro W F H σ ρ x y dx dy k Q R hx hy hg hQ
  cases dx <;> try exact hg.elim
  · rename_i i
    cases dy <;> try exact hg.elim
    rename_i j
    simp only [DV] at hx hy
    exact .inl ⟨i, j, hx, hy, hQ _ _ H W hg (Wd.le.refl W) R (by simp only [DV])⟩
  · rename_i s
    cases dy <;> try exact hg.elim
    rename_i t
    simp only [DV] at hx hy
    exact .inr (.inl ⟨s, t, hx.1, hy.1, big_le hg.1, hQ _ _ H W hg.2 (Wd.le.refl W) R (by simp only [DV]; exact ⟨trivial, sok_app hx.2 hy.2 hg.1⟩)⟩)
  · rename_i ds
    cases dy <;> try exact hg.elim
    rename_i es
    have hx' := hx
    have hy' := hy
    simp only [DV] at hx hy
    obtain ⟨p, vs, rfl, g, l, dv⟩ := hx
    obtain ⟨q, ws, rfl, g2, l2, dv2⟩ := hy
    refine .inr (.inr ⟨p, q, vs, ws, rfl, rfl, seqT_mono R.w.g g, seqT_mono R.w.g g2, by rw [← dvs_len dv, ← dvs_len dv2]; exact big_le hg.1, fun z => ?_, fun _ z => ?_, fun _ _ a ha => ?_⟩)
    · subst z
      cases ds with
      | nil => exact hQ _ _ H W hg.2 (Wd.le.refl W) R hy'
      | cons d ds => have := dvs_len dv; cases this
    · subst z
      cases es with
      | nil => refine hQ _ _ H W hg.2 (Wd.le.refl W) R ?_; rw [List.append_nil]; exact hx'
      | cons d ds => have := dvs_len dv2; cases this
    · obtain ⟨R2, le2, d2⟩ := newTup R (ds := ds ++ es) (vs := vs ++ ws) (by rw [List.length_append]; exact hg.1) (dvs_app dv dv2) ha
      exact hQ _ _ _ _ hg.2 le2 R2 d2
theorem pd_addA (ha : PEd X a τa) (hb : PEd X b τb) : PEd X (.BinOp a .Add b pos) (dOp gAddA τa τb) := pd_op op_addA od_addA ha hb
def vCat (τa τb : TD) : TDs := fun ρ kx k => τa ρ kx fun x ρ1 => τb ρ1 kx fun y ρ2 => match x, y with
  | .lst ds, .lst es => ds.length + es.length ≤ BIG ∧ k (.own (ds ++ es)) ρ2
  | _, _ => False
theorem vd_cat (ha : PEd X a τa) (hb : PEd X b τb) : PEv X (.BinOp a .Add b pos) (vCat τa τb) :=
  ⟨PE.imp (pe_op op_cat ha.p hb.p) fun σ H Q ⟨W, F, ρ, kx, k, tk, R, h, hQ⟩ => ⟨W, F, ρ, kx, _, tk, R, h, fun dx ρ1 v1 H1 W1 h1 le1 R1 d1 =>
    ⟨W1, F, ρ1, kx, _, tk.mono le1, R1, h1, fun dy ρ2 v2 H2 W2 h2 le2 R2 d2 => by
      cases dx <;> try exact h2.elim
      rename_i ds
      cases dy <;> try exact h2.elim
      rename_i es
      have d1' := d1.mono le2
      simp only [DV] at d1' d2
      obtain ⟨p, vs, rfl, g, l, dv⟩ := d1'
      obtain ⟨q, ws, rfl, g2, l2, dv2⟩ := d2
      refine ⟨p, q, vs, ws, rfl, rfl, R2.w.g _ _ g, R2.w.g _ _ g2, by rw [← dvs_len dv, ← dvs_len dv2]; exact big_le h2.1, fun a ha => ?_⟩
      obtain ⟨R3, s3, no⟩ := newLst R2 (ds := ds ++ es) (vs := vs ++ ws) (by rw [List.length_append]; exact h2.1) (dvs_app dv dv2) ha
      exact hQ (.own (ds ++ es)) ρ2 _ _ W2 h2.2 (le1.trans le2) R3 s3 (fun a i _ ea => by cases ea; exact no i) (by intro z; cases z)⟩⟩⟩
def vRep (τa τb : TD) : TDs := fun ρ kx k => τa ρ kx fun x ρ1 => τb ρ1 kx fun y ρ2 => match x, y with
  | .lst ds, .int n => -1000000 ≤ n ∧ n ≤ 1000000 ∧ ds.length * n.toNat ≤ BIG ∧ k (.own (List.replicate n.toNat ds).flatten) ρ2
  | _, _ => False
/-! ### slices -/
abbrev TDo := Rho → KX → (Option Int → Rho → Prop) → Prop
def lO (X : Cx) (τ : TDo) : TO := fun σ H Q => ∃ (W : Wd) (F : Hp) (ρ : Rho) (kx : KX) (k : Option Int → Rho → Prop), TakesD X W F kx ∧ Rep X.K X.mg W F H σ ρ ∧ τ ρ kx k ∧
  ∀ o ρ' H' W', k o ρ' → W.le W' → Rep X.K X.mg W' F H' σ ρ' → Q o H'
structure POd (X : Cx) (e : Option Expr) (τ : TDo) : Prop where
  p : PO X e (lO X τ)
def oNo : TDo := fun ρ _ k => k none ρ
def oInt (τ : TD) : TDo := fun ρ kx k => τ ρ kx fun d ρ' => match d with | .int i => k (some i) ρ' | _ => False
theorem PO.imp {e : Option Expr} {t u : TO} (h : PO X e t) (f : ∀ σ H Q, u σ H Q → t σ H Q) : PO X e u := ⟨fun pins s σ H Q I q => h.run pins s σ H Q I (f _ _ _ q)⟩
theorem od_int (h : PEd X e τ) : POd X (some e) (oInt τ) := ⟨PO.imp (po_some h.p) fun σ H Q ⟨W, F, ρ, kx, k, tk, R, h, hQ⟩ => ⟨W, F, ρ, kx, _, tk, R, h, fun d ρ1 v H1 W1 h1 le1 R1 d1 => by
  cases d <;> try exact h1.elim
  rename_i i
  simp only [DV] at d1
  exact ⟨i, d1, hQ (some i) ρ1 H1 W1 h1 le1 R1⟩⟩⟩
def cutD (xs : List D) (lo hi : Option Int) : List D := (xs.drop (HT.sIx xs.length 0 lo)).take (HT.sIx xs.length xs.length hi - HT.sIx xs.length 0 lo)
theorem dvs_cut {K : PySem.W.Frag} {mg : Str → Option Value} {W : Wd} {ds : List D} {vs : List V} {lo hi : Option Int} (h : DVs K mg W ds vs) : DVs K mg W (cutD ds lo hi) (cutV vs lo hi) := by
  unfold cutD cutV
  rw [← dvs_len h]
  exact dvs_take _ (dvs_drop _ h)
theorem cutD_len {ds : List D} {lo hi : Option Int} : (cutD ds lo hi).length ≤ ds.length := by
  unfold cutD
  rw [List.length_take, List.length_drop]
  omega
theorem cutD_all {ds : List D} {lo hi : Option Int} (h : HT.sIx ds.length 0 lo = 0 ∧ HT.sIx ds.length ds.length hi = ds.length) : cutD ds lo hi = ds := by
  unfold cutD
  rw [h.1, h.2, List.drop_zero, Nat.sub_zero, List.take_length]
def dSlT (τ : TD) (tl th : TDo) : TD := fun ρ kx k => τ ρ kx fun d ρ1 => tl ρ1 kx fun lo ρ2 => th ρ2 kx fun hi ρ3 => match d with
  | .tup ds => ds.length ≤ BIG ∧ k (.tup (cutD ds lo hi)) ρ3
  | .str z => k (.str (cutS z lo hi)) ρ3
  | _ => False
theorem sok_sub {z : Str} {l : List Nat} (h : SOk z) (hl : l.length ≤ z.cps.toList.length) (m : ∀ c ∈ l, c ∈ z.cps.toList) : SOk ⟨l.toArray⟩ := by
  refine ⟨Nat.le_trans (by show l.toArray.size ≤ z.cps.size; simpa using hl) h.1, ?_⟩
  have q := h.2
  rw [← Array.all_toList, List.all_eq_true] at q
  rw [← Array.all_toList, List.all_eq_true]
  intro c hc
  exact q c (m c (by simpa using hc))
theorem sok_cut {z : Str} {lo hi : Option Int} (h : SOk z) : SOk (cutS z lo hi) := by
  unfold cutS
  refine sok_sub h ?_ fun c hc => List.mem_of_mem_drop (List.mem_of_mem_take hc)
  rw [List.length_take, List.length_drop]
  omega
theorem pd_sl {lo hi : Option Expr} {tl th : TDo} {p2 : Pos} (he : PEd X e τ) (hl : POd X lo tl) (hu : POd X hi th) : PEd X (.Subscript e (.Slice lo hi none p2) pos) (dSlT τ tl th) :=
  ⟨PE.imp (pe_slice (SlR.or sl_tupA sl_str) he.p hl.p hu.p) fun σ H Q ⟨W, F, ρ, kx, k, tk, R, h, hQ⟩ => ⟨W, F, ρ, kx, _, tk, R, h, fun d ρ1 v1 H1 W1 h1 le1 R1 d1 =>
    ⟨W1, F, ρ1, kx, _, tk.mono le1, R1, h1, fun o ρ2 H2 W2 h2 le2 R2 => ⟨W2, F, ρ2, kx, _, tk.mono (le1.trans le2), R2, h2, fun o2 ρ3 H3 W3 h3 le3 R3 => by
      have le := (le1.trans le2).trans le3
      have d3 := d1.mono (le2.trans le3)
      cases d <;> try exact h3.elim
      · rename_i z
        simp only [DV] at d3
        obtain ⟨rfl, ok⟩ := d3
        exact .inr ⟨z, rfl, ok.1, hQ _ ρ3 _ _ W3 h3 le R3 (by simp only [DV]; exact ⟨trivial, sok_cut ok⟩)⟩
      · rename_i ds
        obtain ⟨hb, hk⟩ := h3
        have d3' := d3
        simp only [DV] at d3
        obtain ⟨p, vs, rfl, g, l, dv⟩ := d3
        refine .inl ⟨p, vs, rfl, seqT_mono R3.w.g g, fun w => ?_, fun w a ha => ?_⟩
        · rw [← dvs_len dv] at w
          rw [cutD_all w] at hk
          exact hQ _ ρ3 _ _ W3 hk le R3 d3'
        · obtain ⟨R4, le4, d4⟩ := newTup R3 (ds := cutD ds o o2) (vs := cutV vs o o2) (Nat.le_trans cutD_len hb) (dvs_cut dv) ha
          exact hQ _ ρ3 _ _ _ hk (le.trans le4) R4 d4⟩⟩⟩⟩
/-! ### calls that make a list -/
abbrev GV := List D → (S → Prop) → Prop
def CallV (X : Cx) (r : List V → Hp → VK → Prop) (g : GV) : Prop := ∀ (W : Wd) (F H : Hp) (σ : L2.St) (ρ : Rho) (vs : List V) (ds : List D) (k : S → Prop) (Q : VK), Rep X.K X.mg W F H σ ρ → DVs X.K X.mg W ds vs → g ds k →
  (∀ ys p ws H', k (.own ys) → H p = none → H' = upd H p (.lst ws) → DVs X.K X.mg W ys ws → ys.length ≤ BIG → Q (.ref p) H') → r vs H Q
def vBC (g : GV) (τs : TDa) : TDs := fun ρ kx k => τs ρ kx fun ds ρ' => g ds fun s => k s ρ'
theorem lV.bc {r : List V → Hp → VK → Prop} {g : GV} (cd : CallV X r g) : ∀ σ H Q, lV X (vBC g τs) σ H Q → tCB r (lA X τs) σ H Q := by
  rintro σ H Q ⟨W, F, ρ, kx, k, tk, R, h, hQ⟩
  refine ⟨W, F, ρ, kx, _, tk, R, h, fun ds ρ1 vs H1 W1 h1 le1 R1 d1 => ?_⟩
  refine cd W1 F H1 σ ρ1 vs ds _ Q R1 d1 h1 fun ys p ws H' hk hp e dv l => ?_
  subst e
  obtain ⟨R2, s2, no⟩ := newLst R1 l dv hp
  exact hQ (.own ys) ρ1 _ _ W1 hk le1 R2 s2 (fun a i _ ea => by cases ea; exact no i) (by intro z; cases z)
variable {x : Str} {p : Pos} {es : List Expr} {id : String} {T : String} {r : List V → Hp → VK → Prop} {g : GV}
theorem vd_bc (hc : CallR X (.builtin id) r) (cd : CallV X r g) (hg : Gl X x) (hm : X.mg x = none) (hv : bootBuiltins x = some (.builtin id)) (ha : PAd X (e :: es) τs) (hn : x ≠ "__name__" := by decide) (hdb : (x == ("__debug__" : Str)) = false := by decide)
    (he : starEach (e :: es) X.env = (false, eval e X.env) :: starEach es X.env := by rfl) (hpl : (backTo pos (starEach es X.env)).any (·.1) = false := by rfl) : PEv X (.Call (.Name x p) (e :: es) [] pos) (vBC g τs) :=
  ⟨PE.imp (pe_callB hc hg hm hv ha.p hn hdb he hpl) (lV.bc cd)⟩
theorem vd_tc (hc : CallR X (.type T) r) (cd : CallV X r g) (hg : Gl X x) (hm : X.mg x = none) (hv : bootBuiltins x = some (.type T)) (ha : PAd X (e :: es) τs) (hn : x ≠ "__name__" := by decide) (hdb : (x == ("__debug__" : Str)) = false := by decide)
    (he : starEach (e :: es) X.env = (false, eval e X.env) :: starEach es X.env := by rfl) (hpl : (backTo pos (starEach es X.env)).any (·.1) = false := by rfl) : PEv X (.Call (.Name x p) (e :: es) [] pos) (vBC g τs) :=
  ⟨PE.imp (pe_callTy hc hg hm hv ha.p hn hdb he hpl) (lV.bc cd)⟩
def cList : GV := fun ds k => match ds with
  | [.lst xs] => xs.length ≤ BIG ∧ k (.own xs)
  | [.tup xs] => xs.length ≤ BIG ∧ k (.own xs)
  | _ => False
theorem cv_list : CallV X (fun xs H Q => ∃ p ys, xs = [.ref p] ∧ (SqL X.K H p ys ∨ SqT X.K H p ys) ∧ ∀ l, H l = none → Q (.ref l) (upd H l (.lst ys))) cList := by
  intro W F H σ ρ vs ds k Q R dv hg hQ
  match ds, hg, dv with
  | [.lst xs], hg, dv =>
    obtain ⟨v, e, r⟩ := dvs1 dv
    simp only [DV] at r
    obtain ⟨a, us, ea, s, l, r⟩ := r
    subst ea
    exact ⟨a, us, e, .inl (.inl (.inl (R.w.g _ _ s))), fun p hp => hQ xs p us _ hg.2 hp rfl r hg.1⟩
  | [.tup xs], hg, dv =>
    obtain ⟨v, e, r⟩ := dvs1 dv
    simp only [DV] at r
    obtain ⟨a, us, ea, s, l, r⟩ := r
    subst ea
    exact ⟨a, us, e, .inr (seqT_mono R.w.g s), fun p hp => hQ xs p us _ hg.2 hp rfl r hg.1⟩
def cTuple : GC := fun ds k => match ds with
  | [.lst xs] => xs.length ≤ BIG ∧ ∃ d, Wk (.ptp xs) d ∧ k d
  | [.tup xs] => k (.tup xs)
  | _ => False
theorem call_tuple_ofF : CallR X (.type "tuple") (fun xs H Q => ∃ p ys, xs = [.ref p] ∧ ((SqL X.K H p ys ∧ ∀ l o, plainT o → H l = none → Q (.ref l) (upd H l (.frz o (.tup ys)))) ∨ (SqT X.K H p ys ∧ Q (.ref p) H))) := by
  intro pins s σ H xs us Q I r h
  obtain ⟨p, ys, rfl, h⟩ := h
  obtain ⟨u, rfl, rx⟩ := vals1 r
  cases rx
  rcases h with ⟨hq, q⟩ | ⟨hq, q⟩
  · obtain ⟨its, r', pl, hz⟩ := I.list hq
    have hlen := r'.length
    refine call_tuple_list pl.isList (fun h' kp => ?_) (by simp only [List.size_toArray] <;> omega)
    have I1 : Inv X pins σ H { s with heap := h' } := I.kept (t' := s.toks) kp
    have e := Heap.get?_push_size h' (o := { cls := .type "tuple", data := .seq its.toArray }) rfl
    have I2 : Inv X pins σ (upd H h'.objs.size (.frz { cls := .type "tuple", data := .seq its.toArray } (.tup ys))) { s with heap := h'.push { cls := .type "tuple", data := .seq its.toArray } } :=
      I1.laid (t' := s.toks) (fun b o e => Heap.get?_push_of_some _ e) (Nat.le_refl _) (show ObjOk X.prog X.w _ _ _ (.frz _ (.tup ys)) from ⟨e, hz, its, r', IsTup.new _ _⟩)
    exact ⟨.ref h'.objs.size, _, I2, rfl, q _ _ ⟨rfl, rfl⟩ (I1.hok.fresh (Nat.le_refl _))⟩
  · obtain ⟨its, r', pl, hz⟩ := I.tuple hq
    exact call_tuple_same pl ⟨.ref p, H, I, rfl, q⟩
theorem cd_tuple : CallD X (fun xs H Q => ∃ p ys, xs = [.ref p] ∧ ((SqL X.K H p ys ∧ ∀ l o, plainT o → H l = none → Q (.ref l) (upd H l (.frz o (.tup ys)))) ∨ (SqT X.K H p ys ∧ Q (.ref p) H))) cTuple := by
  intro W F H σ ρ vs ds k Q R dv hg hQ
  match ds, hg, dv with
  | [.lst xs], hg, dv =>
    obtain ⟨v, e, r⟩ := dvs1 dv
    simp only [DV] at r
    obtain ⟨a, us, ea, s, l, r⟩ := r
    subst ea
    obtain ⟨hg, d', wk, hk⟩ := hg
    refine ⟨a, us, e, .inl ⟨.inl (.inl (R.w.g _ _ s)), fun p o ho hp => ?_⟩⟩
    obtain ⟨R2, le2, d2⟩ := newTupF R hg r ho hp
    exact hQ _ _ _ _ hk le2 R2 (DV.wk wk d2)
  | [.tup xs], hg, dv =>
    obtain ⟨v, e, r⟩ := dvs1 dv
    have r' := r
    simp only [DV] at r
    obtain ⟨a, us, ea, s, l, r⟩ := r
    subst ea
    exact ⟨a, us, e, .inr ⟨seqT_mono R.w.g s, hQ _ _ _ W hg (Wd.le.refl W) R r'⟩⟩
end
end DL
set_option maxHeartbeats 4000000
/-! DL13: sum, sorted, min, max and the like over lists and tuples. -/
namespace DL
open PySem PySem.Spec PyProof.Rows L2 SrtO
section
variable {prog : Program} {w : World} {A : Around} {E : Value → Shared → Prop} {s : Shared}
theorem collectT {l : Addr} {vs : List Value} {Q : List Value → Shared → Prop} (hl : IsTup s.heap l vs.toArray) (hsz : vs.length ≤ sizeLine)
    (h : Q vs { s with heap := (s.heap.push (seqObj "list" #[] 0)).update s.heap.objs.size (Obj.mapSeq (· ++ vs.toArray)) }) :
    wpAny (model prog w) A (collect (.ref l)) Q E s := by
  obtain ⟨o, ho, hc, n, hd⟩ := id hl; unfold collect
  refine wpAny_bind (wpAny_runValue (codeAny_builtin entry_proto_collect' ?_)); show wpAny _ _ (do again (.builtin "list.__iadd__" ⟨[← newList [], .ref l], []⟩)) _ _ s
  refine wpAny_bind (wpAny_newList (wpAny_pure ⟨Code.quiet_builtin _ (by decide +kernel), codeAny_builtin entry_list_iadd' ?_⟩)); show wpAny _ _ (Builtin.List.listExtendWith (.ref s.heap.objs.size) (.ref l) (.ref s.heap.objs.size)) _ _ { s with heap := s.heap.push (seqObj "list" #[] 0) }
  unfold Builtin.List.listExtendWith; have ho' : (s.heap.push (seqObj "list" #[] 0)).get? l = some o := Heap.get?_push_of_some _ ho
  refine wpAny_bind (wpAny_typeOf (T := "tuple") ⟨o, ho', hc⟩ ?_); have ht : (Value.type "tuple" == Value.type "tuple") = true := by rfl
  rw [if_pos (by rw [ht]; simp)]; refine wpAny_bind (listItems_at ho' hd ?_); refine wpAny_bind (listItems_at (xs := #[]) (n := 0) (Heap.get?_push_size _ rfl) rfl ?_)
  rw [if_neg (by simp)]; refine wpAny_bind (listUpdate_at (xs := #[]) (n := 0) (Heap.get?_push_size _ rfl) rfl ?_ (Nat.zero_le _) (by show (#[] ++ vs.toArray).size ≤ sizeLine + 1; simp only [Array.size_append, List.size_toArray, List.length_nil]; omega))
  refine wpAny_pure ?_; show wpAny (model prog w) A (do
      let ob ← load s.heap.objs.size
      match ob.data with
      | .seq ys _ => pure ys.toList
      | _ => unsupported "internal:collect") Q E { s with heap := (s.heap.push (seqObj "list" #[] 0)).update s.heap.objs.size (Obj.mapSeq (· ++ vs.toArray)) }
  refine wpAny_bind (wpAny_load (get?_update_seq (Heap.get?_push_size _ rfl) _) ?_); show wpAny _ _ (pure ((#[] : Array Value) ++ vs.toArray).toList) Q E _
  rw [show ((#[] : Array Value) ++ vs.toArray).toList = vs by simp]; exact wpAny_pure h
theorem sorted_ordT {l : Addr} {vs : List Value} {ltv : Value → Value → Bool} {Q : Value → Shared → Prop} (O : Swo ltv) (hl : IsTup s.heap l vs.toArray) (hz : vs.length ≤ sizeLine)
    (hS : 2 ≤ vs.length → ∀ (h₁ : Heap) (a : Addr), h₁.get? a = some (seqObj "list" vs.toArray 0) → (∀ b o, s.heap.get? b = some o → b ≠ a ∧ h₁.get? b = some o) → SortableO prog w A.in1.in1 { s with heap := h₁ } a vs ltv)
    (h : ∀ out : List Value, Srtd ltv out → Stb ltv out vs → Q (.ref (s.heap.objs.size + 1)) { s with heap := sortedAll s.heap vs out.toArray }) : wpAny (model prog w) A (call (.builtin "sorted") [.ref l]) Q E s := by
  refine Calls.call_function_entry kind_sorted plain_sorted entry_sorted (args_sorted1 _) ?_; unfold Builtin.«sorted»
  refine wpAny_bind (m := checkCount "sorted" 1 1 _) (wpAny_pure ?_); refine wpAny_bind (collectT hl hz ?_); refine wpAny_bind (wpAny_newList ?_ hz)
  have e1 : ((s.heap.push (seqObj "list" #[] 0)).update s.heap.objs.size (Obj.mapSeq (· ++ vs.toArray))).objs.size = s.heap.objs.size + 1 := by rw [Heap.size_update, size_push']
  have e2 : (((s.heap.push (seqObj "list" #[] 0)).update s.heap.objs.size (Obj.mapSeq (· ++ vs.toArray))).push (seqObj "list" vs.toArray 0)).get? (s.heap.objs.size + 1) = some (seqObj "list" vs.toArray 0) := by rw [← e1]; exact Heap.get?_push_size _ rfl
  have kp : ∀ b o, s.heap.get? b = some o → b ≠ s.heap.objs.size + 1 ∧ (((s.heap.push (seqObj "list" #[] 0)).update s.heap.objs.size (Obj.mapSeq (· ++ vs.toArray))).push (seqObj "list" vs.toArray 0)).get? b = some o := fun b o q => by
    have z : b < s.heap.objs.size := Heap.lt_size q
    refine ⟨Nat.ne_of_lt (Nat.lt_succ_of_lt z), Heap.get?_push_of_some _ ?_⟩; rw [Heap.get?_update_ne _ _ _ _ (Nat.ne_of_lt z)]; exact Heap.get?_push_of_some _ q
  show wpAny _ _ _ _ _ { s with heap := ((s.heap.push (seqObj "list" #[] 0)).update s.heap.objs.size (Obj.mapSeq (· ++ vs.toArray))).push (seqObj "list" vs.toArray 0) }; rw [e1]
  refine wpAny_bind (wpAny_holding (wpAny_call_entry slot_list_sort ⟨_, e2, rfl⟩ entry_list_sort (list_sort_ord O e2 hz (fun h2 => hS h2 _ _ e2 kp) fun out hs hb => ⟨_, rfl, ?_⟩) (args_list_sort _))); exact wpAny_pure ⟨_, rfl, h out hs hb⟩
end
section
variable {X : Cx}
theorem CallR.or2 {f : Value} {r r' : List V → Hp → VK → Prop} (h : CallR X f r) (h' : CallR X f r') : CallR X f (fun xs H Q => r xs H Q ∨ r' xs H Q) := by
  intro pins s σ H vs us Q I rr q
  rcases q with q | q
  · exact h pins s σ H vs us Q I rr q
  · exact h' pins s σ H vs us Q I rr q
def cSum : GC := fun ds k => match ds with
  | [.lst xs] => ∃ ns : List Int, xs = ns.map D.int ∧ k (.int ns.sum)
  | [.tup xs] => ∃ ns : List Int, xs = ns.map D.int ∧ k (.int ns.sum)
  | _ => False
def rSortedIT (K : PySem.W.Frag) : List V → Hp → VK → Prop := fun vs H Q => ∃ (a : Addr) (ns : List Int), vs = [V.ref a] ∧ SqT K H a (ns.map V.int) ∧
  ∀ (ms : List Int) (p : Addr), ms.Perm ns → ms.Pairwise (· ≤ ·) → H p = none → Q (.ref p) (upd H p (.lst (ms.map V.int)))
theorem cr_sortedIT : CallR X (.builtin "sorted") (rSortedIT X.K) := by
  intro pins s σ H vs us Q I r h
  obtain ⟨a, ns, rfl, hs, q⟩ := h
  obtain ⟨its, rv, hl, hz⟩ := I.tuple hs
  rw [Vals.ref1 r]
  have hi : IntsAre its ns := rv.ints
  refine sorted_ordT SrtO.swo_int hl (by rw [← rv.length]; exact hz) (fun h2 h₁ a' _ _ => SrtO.ints_sortable hi h2) fun out h1 h2 => ?_
  obtain ⟨k1, k2, k3⟩ := SrtO.ints_out hi h1 h2
  obtain ⟨ep, he'⟩ := PyProof.Rows.sortedAll_at s.heap its out.toArray
  have hl2 : ((out.map SrtO.iv).map V.int).length ≤ sizeLine := by rw [List.length_map, k2.length_eq]; rw [List.length_map] at hz; exact hz
  exact ⟨.ref _, upd H (s.heap.objs.size + 1) (.lst ((out.map SrtO.iv).map V.int)), I.laid (t' := s.toks) (fun _ _ => PyProof.Rows.sortedAll_old) (Nat.le_succ _) ⟨hl2, out, ep, vals_of_ints k1, he'⟩, rfl, q _ _ k2 k3 (I.hok.fresh (Nat.le_succ _))⟩
def rSortedA (K : PySem.W.Frag) : List V → Hp → VK → Prop := fun vs H Q => rSortedI K vs H Q ∨ rSortedIT K vs H Q
theorem cr_sortedA : CallR X (.builtin "sorted") (rSortedA X.K) := CallR.or2 cr_sortedI cr_sortedIT
def cSortedI : GV := fun ds k => match ds with
  | [.lst xs] => ∃ ns : List Int, xs = ns.map D.int ∧ ns.length ≤ BIG ∧ ∀ ms : List Int, ms.Perm ns → ms.Pairwise (· ≤ ·) → k (.own (ms.map D.int))
  | [.tup xs] => ∃ ns : List Int, xs = ns.map D.int ∧ ns.length ≤ BIG ∧ ∀ ms : List Int, ms.Perm ns → ms.Pairwise (· ≤ ·) → k (.own (ms.map D.int))
  | _ => False
theorem cv_sortedI : CallV X (rSortedA X.K) cSortedI := by
  intro W F H σ ρ vs ds k Q R dv hg hQ
  match ds, hg, dv with
  | [.lst xs], ⟨ns, ex, hb, hk⟩, dv =>
    subst ex
    obtain ⟨v, e, r⟩ := dvs1 dv
    simp only [DV] at r
    obtain ⟨a, us, ea, s, l, r⟩ := r
    subst ea
    rw [dvs_ints r] at s
    exact .inl ⟨a, ns, e, .inl (.inl (R.w.g _ _ s)), fun ms p h1 h2 hp => hQ _ p _ _ (hk ms h1 h2) hp rfl (dvs_ofInts ms) (by rw [List.length_map, h1.length_eq]; exact hb)⟩
  | [.tup xs], ⟨ns, ex, hb, hk⟩, dv =>
    subst ex
    obtain ⟨v, e, r⟩ := dvs1 dv
    simp only [DV] at r
    obtain ⟨a, us, ea, s, l, r⟩ := r
    subst ea
    rw [dvs_ints r] at s
    exact .inr ⟨a, ns, e, seqT_mono R.w.g s, fun ms p h1 h2 hp => hQ _ p _ _ (hk ms h1 h2) hp rfl (dvs_ofInts ms) (by rw [List.length_map, h1.length_eq]; exact hb)⟩
end
end DL
set_option maxHeartbeats 4000000
/-! DL14: what a slot owns is changed in place. -/
namespace DL
open PySem PySem.Spec PyProof.Rows L2
section
variable {K : PySem.W.Frag} {mg : Str → Option Value} {W : Wd} {F H : Hp} {σ : L2.St} {ρ : Rho}
theorem holdS.isOwn {s : S} {a : Addr} (h : holdS K mg W H a s) : s.isOwn = true := h.own
theorem Rep.mutS (R : Rep K mg W F H σ ρ) {i : Nat} {a : Addr} {s s' : S} {o : HO} (hs : ρ[i]? = some s) (ow : s.isOwn = true) (hv : σ[i]? = some (some (.ref a))) (h : holdS K mg W (upd H a o) a s') :
    Rep K mg W F (upd H a o) σ (ρ.set i s') := by
  have oi : OwnsAt σ ρ i a := ⟨s, hs, ow, hv⟩
  obtain ⟨_, _, _, _, _, fr⟩ := R.owned oi
  have ne : ∀ {b : Addr}, W.G b ≠ none → b ≠ a := fun q z => q (z ▸ fr.1)
  have neF : ∀ {b : Addr}, F b ≠ none → b ≠ a := fun q z => q (z ▸ fr.2.1)
  have hi : i < ρ.length := (List.getElem?_eq_some_iff.mp hs).1
  have back : ∀ {j : Nat} {b : Addr}, OwnsAt σ (ρ.set i s') j b → OwnsAt σ ρ j b := fun {j b} ⟨t, t1, t2, t3⟩ => by
    by_cases e : i = j
    · subst e
      exact ⟨s, hs, ow, t3⟩
    · rw [List.getElem?_set_ne e] at t1
      exact ⟨t, t1, t2, t3⟩
  refine ⟨⟨fun b u e => ?_, fun b u e => ?_, R.w.gf, fun q hq => ?_⟩, by rw [List.length_set]; exact R.len, fun j t hj => ?_, fun j k b hjk h1 h2 => R.sep j k b hjk (back h1) (back h2)⟩
  · rw [upd_ne (ne (by rw [e]; exact fun z => by cases z))]; exact R.w.g b u e
  · rw [upd_ne (neF (by rw [e]; exact fun z => by cases z))]; exact R.w.f b u e
  · obtain ⟨t, g1, g2, f1, f2⟩ := R.w.t q hq
    obtain ⟨n1, n2⟩ := fr.2.2 q hq
    exact ⟨t.keep (upd_ne n1) (upd_ne n2), g1, g2, f1, f2⟩
  · by_cases e : i = j
    · subst e
      rw [List.getElem?_set_self hi] at hj
      cases hj
      exact .inr ⟨_, hv, SV.toOwn h fr⟩
    · rw [List.getElem?_set_ne e] at hj
      rcases R.sl j t hj with z | ⟨v, e1, r⟩
      · exact .inl z
      · refine .inr ⟨v, e1, r.mono (Wd.le.refl W) fun b eb ob => ?_⟩
        have oj : OwnsAt σ ρ j b := ⟨t, hj, ob, by rw [e1, eb]⟩
        obtain ⟨_, _, _, _, _, fr2⟩ := R.owned oj
        exact ⟨upd_ne fun z => R.sep i j a e oi (z ▸ oj), fr2⟩
end
section
variable {X : Cx} {e : Expr} {es : List Expr} {τ τa τb : TD} {pos : Pos} {τs : TDa} {apos cpos p : Pos} {x : Str} {i : Nat}
abbrev GM := List D → List D → (List D → D → Prop) → Prop
def MtD (X : Cx) (r : V → List V → Hp → VK → Prop) (g : GM) : Prop := ∀ (W : Wd) (H : Hp) (a : Addr) (ds as : List D) (ws vs : List V) (k : List D → D → Prop) (Q : VK), Same W.G H → H a = some (.lst ws) → ws.length ≤ sizeLine → DVs X.K X.mg W ds ws → DVs X.K X.mg W as vs → g ds as k →
  (∀ es d ws' v, k es d → ws'.length ≤ sizeLine → DVs X.K X.mg W es ws' → DV X.K X.mg W d v → Q v (upd H a (.lst ws'))) → r (.ref a) vs H Q
def dMt (g : GM) (i : Nat) (τs : TDa) : TD := fun ρ kx k => (∃ ds, ρ[i]? = some (.own ds)) ∧ τs ρ kx fun as ρ1 => ∃ ds, ρ1[i]? = some (.own ds) ∧ g ds as fun es d => k d (ρ1.set i (.own es))
theorem lE.mt {x : Str} {r : V → List V → Hp → VK → Prop} {g : GM} (cd : MtD X r g) : ∀ σ H Q, lE X (dMt g i τs) σ H Q → tBM X.K "list" r (tVar i) (lA X τs) σ H Q := by
  rintro σ H Q ⟨W, F, ρ, kx, k, tk, R, ⟨⟨ds0, hi⟩, h⟩, hQ⟩
  obtain ⟨v, hv, sv⟩ := R.slot hi (by intro z; cases z)
  obtain ⟨a, ev, ⟨vs0, ha, hz, dv⟩, fr⟩ := sv
  subst ev
  refine ⟨.ref a, hv, .inl ⟨rfl, vs0, .inl (.inl ha)⟩, W, F, ρ, kx, _, tk, R, h, fun as ρ1 vs H1 W1 h1 le1 R1 d1 => ?_⟩
  obtain ⟨ds, hj, hg⟩ := h1
  obtain ⟨v1, hv1, sv1⟩ := R1.slot hj (by intro z; cases z)
  rw [hv] at hv1
  cases hv1
  obtain ⟨b, eb, ⟨ws, hb, hz1, dw⟩, fr1⟩ := sv1
  cases eb
  exact cd W1 H1 a ds as ws vs _ Q R1.w.g hb hz1 dw d1 hg fun es d ws' v' hk hl dv' dd =>
    hQ d _ v' _ W1 hk le1 (R1.mutS hj rfl hv ⟨ws', upd_same, hl, dv'⟩) dd
theorem pd_mt {name : Str} {id : String} {r : V → List V → Hp → VK → Prop} {g : GM} (i : Nat) (slot : Slot "list" name id) (hty : typeOf (.builtin id) = pure (.type "method_descriptor")) (hm : MtR X id r) (cd : MtD X r g) (ha : PAd X (e :: es) τs)
    (hN : X.N[i]? = some x := by rfl) (hv : Vis X.env.scope x := by first | exact Or.inl rfl | exact Or.inr (Or.inl rfl) | exact Or.inr (Or.inr rfl))
    (hd : (x == ("__debug__" : Str)) = false := by decide) (hcd : (x == ("__classdict__" : Str)) = false := by decide)
    (hbase : attributeBase (.Name x p) name X.env (eval (.Name x p) X.env) = eval (.Name x p) X.env := by rfl)
    (hfew : ((backTo cpos (starEach (e :: es) X.env)).all (fun x => !x.1) && (backToKw cpos (keywordEach [] X.env)).all (fun x => x.1.isSome) && decide ((e :: es).length + ([] : List Keyword).length + (if ([] : List Keyword).isEmpty then 0 else 1) < 30)) = true := by rfl)
    (hline : (apos.endLine == cpos.line) = true := by rfl) (hs : starEach (e :: es) X.env = (false, eval e X.env) :: starEach es X.env := by rfl) (hplain : (backTo cpos (starEach es X.env)).any (·.1) = false := by rfl) :
    PEd X (.Call (.Attribute (.Name x p) name apos) (e :: es) [] cpos) (dMt g i τs) :=
  ⟨PE.imp (pe_bm PySem.F.plainAttrs_list slot hty hm (pe_var hN hv hd hcd) ha.p hbase hfew hline hs hplain) (lE.mt (x := x) cd)⟩
def mAppend : GM := fun ds as k => match as with
  | [d] => ds.length < BIG ∧ k (ds ++ [d]) .non
  | _ => False
theorem md_append : MtD X rAppend mAppend := by
  intro W H a ds as ws vs k Q _ ha hz dw dv hg hQ
  match as, hg, dv with
  | [d], ⟨hb, hk⟩, dv =>
    obtain ⟨v, ev, dd⟩ := dvs1 dv
    have l : ws.length < BIG := by rw [← dvs_len dw]; exact hb
    exact ⟨a, ws, v, rfl, ev, ha, big_lt l, hQ _ _ _ _ hk (by rw [List.length_append]; exact big_le l) (dvs_app dw (dvs_cons dd dvs_nil)) (by simp only [DV])⟩
/-! ### a look at what is owned -/
def dLenO (i : Nat) : TD := fun ρ _ k => ∃ ds, ρ[i]? = some (.own ds) ∧ k (.int (ds.length : Nat)) ρ
def dIxO (i : Nat) (τ : TD) : TD := fun ρ kx k => (∃ ds, ρ[i]? = some (.own ds)) ∧ τ ρ kx fun y ρ1 => ∃ ds j d, ρ1[i]? = some (.own ds) ∧ y = .int j ∧ atI ds j = some d ∧ k d ρ1
end
end DL
set_option maxHeartbeats 4000000
/-! DL15: classes. -/
namespace DL
open PySem PySem.Spec PyProof.Rows L2
theorem PE.or {X : Cx} {e : Expr} {t u : TE} (h : PE X e t) (k : PE X e u) : PE X e (fun σ H Q => t σ H Q ∨ u σ H Q) := ⟨fun pins s σ H Q I q => by
  rcases q with q | q
  · exact h.run pins s σ H Q I q
  · exact k.run pins s σ H Q I q⟩
def dAlt (τ τ' : TD) : TD := fun ρ kx k => τ ρ kx k ∨ τ' ρ kx k
section
variable {X : Cx} {a b e o : Expr} {es : List Expr} {kws : List Keyword} {τ τa τb : TD} {pos pos' : Pos} {τs τk : TDa} {c f m x : Str} {C : Addr}
def fldK (c f : Str) (k : KE) : KE := fun d ρ => match d with | .ins c' fs ds => c' = c ∧ ∃ d' d'', (fs.zip ds).lookup f = some d' ∧ Wk d' d'' ∧ k d'' ρ | _ => False
def dFld (c f : Str) (τ : TD) : TD := fun ρ kx k => τ ρ kx (fldK c f k)
/-! ### __init__ -/
def endI (x : Addr) (c : Str) (k : D → Prop) : Rho → Prop := fun ρ => ∃ fs xs, ρ[0]? = some (.slf x c fs xs) ∧ k (.ins c fs xs)
def selfK (c : Str) (i : Nat) (f : Str) (n : Rho → Prop) : KE := fun d ρ => ∃ a fs xs, ρ[i]? = some (.slf a c fs xs) ∧ fs.contains f = false ∧ fs.length < 1000 ∧ n (ρ.set i (.slf a c (fs ++ [f]) (xs ++ [d])))
def sSelf (c : Str) (i : Nat) (f : Str) (τ : TD) : TDS := fun ρ kx k => τ ρ kx (selfK c i f k.nx)
/-! ### a new instance -/
section
variable {k n nk : Nat} {fi : Addr} {fd : FuncData} {ps ks : List Str} {p : Pos} {mI : FD} {idx : List Nat} {dvs : List V} {dds : List D}
/-! ### methods -/
variable {apos : Pos} {mM : FD} {fm : Addr}
def lenK (c : Str) (m : FD) (kx : KX) (k : KE) : KE := fun d ρ => match d with
  | .ins c' fs ds => c' = c ∧ m [.ins c' fs ds] (fun x => kx x ρ) (fun r => ∃ n : Int, r = .int n ∧ (0 ≤ n ∧ n ≤ 1000000) ∧ k (.int n) ρ)
  | _ => False
def dLenI (c : Str) (m : FD) (τ : TD) : TD := fun ρ kx k => τ ρ kx (lenK c m kx k)
end
end
end DL
set_option maxHeartbeats 4000000
/-! DL16: more calls, walks. -/
namespace DL
open PySem PySem.Spec PyProof.Rows L2
section
variable {X : Cx} {a b e e2 : Expr} {es : List Expr} {τ τa τb : TD} {pos p : Pos} {τs : TDa} {x : Str}
def cDivmod : GC := fun ds k => match ds with
  | [.int i, .int j] => (0 < j ∧ j < 1073741824) ∧ k (.tup [.int (i / j), .int (i % j)])
  | _ => False
theorem cd_divmod : CallD X (fun xs H Q => ∃ i j, xs = [.int i, .int j] ∧ CDiv i j ∧ ∀ p, H p = none → Q (.ref p) (upd H p (.tup [.int (i / j), .int (i % j)]))) cDivmod := by
  intro W F H σ ρ vs ds k Q R dv hg hQ
  match ds, hg, dv with
  | [.int i, .int j], hg, dv =>
    obtain ⟨v, v2, e, r, r2⟩ := dvs2 dv
    simp only [DV] at r r2
    subst r
    subst r2
    refine ⟨i, j, e, hg.1, fun p hp => ?_⟩
    obtain ⟨R2, le2, d2⟩ := newTup R (ds := [.int (i / j), .int (i % j)]) (vs := [.int (i / j), .int (i % j)]) (by show 2 ≤ BIG; unfold BIG; omega) (dvs_cons (by simp only [DV]) (dvs_cons (by simp only [DV]) dvs_nil)) hp
    exact hQ _ _ _ _ hg.2 le2 R2 d2
def cAbs : GC := fun ds k => match ds with
  | [.int i] => k (.int (if i < 0 then -i else i))
  | _ => False
def cInt : GC := fun ds k => match ds with
  | [.int i] => k (.int i)
  | [.bl c] => k (.int (if c then 1 else 0))
  | _ => False
theorem cd_int : CallD X (fun xs H Q => (∃ i, xs = [.int i] ∧ Q (.int i) H) ∨ ∃ k, xs = [.bl k] ∧ Q (.int (if k then 1 else 0)) H) cInt := by
  intro W F H σ ρ vs ds k Q R dv hg hQ
  match ds, hg, dv with
  | [.int i], hg, dv =>
    obtain ⟨v, e, r⟩ := dvs1 dv
    simp only [DV] at r
    subst r
    exact .inl ⟨i, e, hQ _ _ H W hg (Wd.le.refl W) R (by simp only [DV])⟩
  | [.bl c], hg, dv =>
    obtain ⟨v, e, r⟩ := dvs1 dv
    simp only [DV] at r
    subst r
    exact .inr ⟨c, e, hQ _ _ H W hg (Wd.le.refl W) R (by simp only [DV])⟩
def cStr : GC := fun ds k => match ds with
  | [.int i] => i.natAbs.log2 < 1920 ∧ SOk (Str.ofString (toString i)) ∧ k (.str (Str.ofString (toString i)))
  | [.str z] => k (.str z)
  | _ => False
theorem cd_str : CallD X (fun xs H Q => (∃ i, xs = [.int i] ∧ i.natAbs.log2 < 1920 ∧ Q (.str (toString i)) H) ∨ (∃ z, xs = [V.str z] ∧ Q (.str z) H)) cStr := by
  intro W F H σ ρ vs ds k Q R dv hg hQ
  match ds, hg, dv with
  | [.int i], hg, dv =>
    obtain ⟨v, e, r⟩ := dvs1 dv
    simp only [DV] at r
    subst r
    exact .inl ⟨i, e, hg.1, hQ _ _ H W hg.2.2 (Wd.le.refl W) R (by simp only [DV]; exact ⟨trivial, hg.2.1⟩)⟩
  | [.str z], hg, dv =>
    obtain ⟨v, e, r⟩ := dvs1 dv
    simp only [DV] at r
    obtain ⟨rfl, ok⟩ := r
    exact .inr ⟨z, e, hQ _ _ H W hg (Wd.le.refl W) R (by simp only [DV]; exact ⟨trivial, ok⟩)⟩
def cAll : GC := fun ds k => match ds with
  | [.lst xs] => ∃ bs : List Bool, xs = bs.map D.bl ∧ k (.bl (bs.all id))
  | _ => False
def cMaxL : GC := fun ds k => match ds with
  | [.lst xs] => ∃ ns : List Int, xs = ns.map D.int ∧ 0 < ns.length ∧ ∀ m, m ∈ ns → (∀ y, y ∈ ns → y ≤ m) → k (.int m)
  | _ => False
def cMinL : GC := fun ds k => match ds with
  | [.lst xs] => ∃ ns : List Int, xs = ns.map D.int ∧ 0 < ns.length ∧ ∀ m, m ∈ ns → (∀ y, y ∈ ns → m ≤ y) → k (.int m)
  | _ => False
theorem cd_maxL : CallD X (rMax X.K) cMaxL := by
  intro W F H σ ρ vs ds k Q R dv hg hQ
  match ds, hg, dv with
  | [.lst xs], ⟨ns, ex, h0, hk⟩, dv =>
    subst ex
    obtain ⟨v, e, r⟩ := dvs1 dv
    simp only [DV] at r
    obtain ⟨a, us, ea, s, l, r⟩ := r
    subst ea
    rw [dvs_ints r] at s
    exact ⟨a, ns, e, .inl (.inl (R.w.g _ _ s)), h0, fun m h1 h2 => hQ _ _ _ W (hk m h1 h2) (Wd.le.refl W) R (by simp only [DV])⟩
theorem cd_minL : CallD X (rMin X.K) cMinL := by
  intro W F H σ ρ vs ds k Q R dv hg hQ
  match ds, hg, dv with
  | [.lst xs], ⟨ns, ex, h0, hk⟩, dv =>
    subst ex
    obtain ⟨v, e, r⟩ := dvs1 dv
    simp only [DV] at r
    obtain ⟨a, us, ea, s, l, r⟩ := r
    subst ea
    rw [dvs_ints r] at s
    exact ⟨a, ns, e, .inl (.inl (R.w.g _ _ s)), h0, fun m h1 h2 => hQ _ _ _ W (hk m h1 h2) (Wd.le.refl W) R (by simp only [DV])⟩
/-! ### list(range(..)) -/
def rgL1 (τ : TD) : TDs := fun ρ kx k => τ ρ kx fun d ρ' => match d with | .int j => (-1000000 ≤ j ∧ j ≤ 1000000) ∧ k (.own (rng 0 j.toNat)) ρ' | _ => False
def rgL2 (τa τb : TD) : TDs := fun ρ kx k => τa ρ kx fun d ρ1 => τb ρ1 kx fun d2 ρ2 => match d, d2 with
  | .int i, .int j => (-1000000 ≤ i ∧ i ≤ 1000000 ∧ -1000000 ≤ j ∧ j ≤ 1000000 ∧ j - i ≤ 1000000) ∧ k (.own (rng i (j - i).toNat)) ρ2
  | _, _ => False
/-! ### isinstance, a built-in type -/
def isTyN : D → Option String
  | .non => some "NoneType"
  | .bl _ => some "bool"
  | .int _ => some "int"
  | .str _ => some "str"
  | .tup _ => some "tuple"
  | .lst _ => some "list"
  | _ => none
def gIsi (T : String) (d : D) (k : D → Prop) : Prop := ∃ t b, isTyN d = some t ∧ (∀ K : PySem.W.Frag, PySem.W.kitOne K (.type t) (.type T) = some b) ∧ k (.bl b)
end
end DL
set_option maxHeartbeats 4000000
/-! DL17: enumerate, zip, index, reversed copies, in. -/
namespace DL
open PySem PySem.Spec PyProof.Rows L2
section
variable {X : Cx} {tg e e2 : Expr} {τ τa τb : TD} {pos p tpos : Pos} {elts : List Expr} {kk : Nat} {x : Str}
def pairD (a b : D) : D := .tup [a, b]
theorem yPairD {W2 : Wd} {F2 H2 H3 : Hp} {σ2 : L2.St} {ρ2 : Rho} {f g : Nat → Option V} {i : Nat} {v : V} {da db : D} (R : Rep X.K X.mg W2 F2 H2 σ2 ρ2) (y : YPair f g i H2 v H3) (ha : ∀ w, f i = some w → DV X.K X.mg W2 da w) (hb : ∀ w, g i = some w → DV X.K X.mg W2 db w) :
    ∃ W3, W2.le W3 ∧ Rep X.K X.mg W3 F2 H3 σ2 ρ2 ∧ DV X.K X.mg W3 (pairD da db) v := by
  obtain ⟨T, u, w, rfl, hT, rfl, e1, e2⟩ := y
  obtain ⟨R2, le2, d2⟩ := newTup R (ds := [da, db]) (vs := [u, w]) (by show 2 ≤ BIG; unfold BIG; omega) (dvs_cons (ha _ e1) (dvs_cons (hb _ e2) dvs_nil)) hT
  exact ⟨_, le2, R2, d2⟩
def enumD (ds : List D) : List D := ds.mapIdx fun i d => pairD (.int (i : Nat)) d
def iEnm (τ : TD) : TDi := fun ρ kx k => τ ρ kx fun d ρ' => match d with
  | .lst ds => k (enumD ds) ρ'
  | _ => False
def zipD (ds es : List D) : List D := List.zipWith pairD ds es
def iZp (τa τb : TD) : TDi := fun ρ kx k => τa ρ kx fun d ρ1 => τb ρ1 kx fun d2 ρ2 => match d, d2 with
  | .lst ds, .lst es => k (zipD ds es) ρ2
  | .tup ds, .tup es => k (zipD ds es) ρ2
  | _, _ => False
/-! ### index, of ints -/
end
end DL
set_option maxHeartbeats 4000000
/-! DL18: x op= e; steps of the readings of DL12 to DL17. -/
namespace DL
open PySem PySem.Spec PyProof.Rows L2
section
variable {X : Cx} {e : Expr} {τ : TD} {pos pos' : Pos} {x : Str}
def sAug (i : Nat) (g : G2) (τ : TD) : TDS := fun ρ kx k => ∃ d, ρ[i]? = some (.val d) ∧ τ ρ kx fun y ρ1 => ρ1[i]? = some (.val d) ∧ g d y fun z => k.nx (ρ1.set i (.val z))
end
section
variable {ρ ρ' : Rho} {kx : KX} {k : KE} {kv : KV} {kt : Bool → Rho → Prop} {ka : List D → Rho → Prop} {kd : D → Prop} {ks : S → Prop} {ko : Option Int → Rho → Prop}
variable {τ τa τb τ' : TD} {τs : TDs} {τl τk : TDa} {τi : TDi} {tl th : TDo} {t : TDS}
variable {n b c : Rho → Prop} {r : D → Rho → Prop} {x y d : D} {ds es as : List D} {i : Nat} {s : S} {f : Str} {cn : Str} {m : FD}
theorem x_addI {i j : Int} (h : kd (.int (i + j))) : gAddA (.int i) (.int j) kd := h
theorem x_addS {s t : Str} (l : s.length + t.length ≤ BIG) (h : kd (.str (s ++ t))) : gAddA (.str s) (.str t) kd := ⟨l, h⟩
theorem x_ixT {i : Int} (e : atI ds i = some d) (h : kd d) : gIdx (.tup ds) (.int i) kd := ⟨d, e, h⟩
theorem x_ixL {i : Int} (e : atI ds i = some d) (h : kd d) : gIdx (.lst ds) (.int i) kd := ⟨d, e, h⟩
def slTK (lo hi : Option Int) (d : D) (k : KE) (ρ : Rho) : Prop := match d with | .tup ds => ds.length ≤ BIG ∧ k (.tup (cutD ds lo hi)) ρ | .str z => k (.str (cutS z lo hi)) ρ | _ => False
theorem x_slT (h : τ ρ kx fun d ρ1 => tl ρ1 kx fun lo ρ2 => th ρ2 kx fun hi ρ3 => slTK lo hi d k ρ3) : dSlT τ tl th ρ kx k := by
  have e : dSlT τ tl th ρ kx k = τ ρ kx fun d ρ1 => tl ρ1 kx fun lo ρ2 => th ρ2 kx fun hi ρ3 => slTK lo hi d k ρ3 := by
    unfold dSlT slTK
    rfl
  rw [e]; exact h
theorem x_slTK {lo hi : Option Int} (l : ds.length ≤ BIG) (h : k (.tup (cutD ds lo hi)) ρ) : slTK lo hi (.tup ds) k ρ := ⟨l, h⟩
theorem x_oNo (h : ko none ρ) : oNo ρ kx ko := h
def oIntK (ko : Option Int → Rho → Prop) : KE := fun d ρ => match d with | .int i => ko (some i) ρ | _ => False
theorem x_oInt (h : τ ρ kx (oIntK ko)) : oInt τ ρ kx ko := h
theorem x_oIntK {i : Int} (h : ko (some i) ρ) : oIntK ko (.int i) ρ := h
theorem x_vbc {g : GV} (h : τl ρ kx fun ds ρ' => g ds fun s => kv s ρ') : vBC g τl ρ kx kv := h
theorem x_listT (l : ds.length ≤ BIG) (h : ks (.own ds)) : cList [.tup ds] ks := ⟨l, h⟩
theorem x_tupleL (l : ds.length ≤ BIG) (h : kd (.tup ds)) : cTuple [.lst ds] kd := ⟨l, _, .tup ds, h⟩
theorem x_tupleT (h : kd (.tup ds)) : cTuple [.tup ds] kd := h
theorem x_lenT (h : kd (.int (ds.length : Nat))) : cLen [.tup ds] kd := h
theorem x_lenL (h : kd (.int (ds.length : Nat))) : cLen [.lst ds] kd := h
theorem x_lenO1 (e : ρ[i]? = some (.own ds)) (h : k (.int (ds.length : Nat)) ρ) : dAlt (dLenO i) τ' ρ kx k := .inl ⟨ds, e, h⟩
theorem x_lenO2 (h : τ' ρ kx k) : dAlt (dLenO i) τ' ρ kx k := .inr h
theorem x_ixO1 (e : ρ[i]? = some (.own ds)) (h : τ ρ kx fun y ρ1 => ∃ ds j d, ρ1[i]? = some (.own ds) ∧ y = .int j ∧ atI ds j = some d ∧ k d ρ1) : dAlt (dIxO i τ) τ' ρ kx k := .inl ⟨⟨ds, e⟩, h⟩
theorem x_ixO2 (h : τ' ρ kx k) : dAlt (dIxO i τ) τ' ρ kx k := .inr h
def mtK (g : GM) (i : Nat) (k : KE) : List D → Rho → Prop := fun as ρ1 => ∃ ds, ρ1[i]? = some (.own ds) ∧ g ds as fun es d => k d (ρ1.set i (.own es))
theorem x_mt {g : GM} (e : ρ[i]? = some (.own ds)) (h : τl ρ kx (mtK g i k)) : dMt g i τl ρ kx k := ⟨⟨ds, e⟩, h⟩
theorem x_append (e : ρ[i]? = some (.own ds)) (l : ds.length < BIG) (e2 : ρ.set i (.own (ds ++ [d])) = ρ') (h : k .non ρ') : mtK mAppend i k [d] ρ := ⟨ds, e, l, by subst e2; exact h⟩
theorem x_sfz {t : TDS} {kk : KS} (e : fzR i ρ = ρ') (h : t ρ' kx kk) : sFz i t ρ kx kk := by unfold sFz; rw [e]; exact h
theorem x_fld (h : τ ρ kx (fldK cn f k)) : dFld cn f τ ρ kx k := h
theorem x_fldK {fs : List Str} {d' : D} (e : (fs.zip ds).lookup f = some d') (h : k d' ρ) : fldK cn f k (.ins cn fs ds) ρ := ⟨rfl, d', d', e, .same d', h⟩
theorem x_fldP {fs : List Str} {es : List D} (e : (fs.zip ds).lookup f = some (.ptp es)) (h : k (.tup es) ρ) : fldK cn f k (.ins cn fs ds) ρ := ⟨rfl, _, _, e, .tup es, h⟩
theorem x_selfS (h : τ ρ kx (selfK cn i f n)) : sSelf cn i f τ ρ kx ⟨n, r, b, c⟩ := h
theorem x_selfK {a : Addr} {fs : List Str} {xs : List D} (e : ρ[i]? = some (.slf a cn fs xs)) (hf : fs.contains f = false ∧ fs.length < 1000) (e2 : ρ.set i (.slf a cn (fs ++ [f]) (xs ++ [d])) = ρ') (h : n ρ') : selfK cn i f n d ρ := ⟨a, fs, xs, e, hf.1, hf.2, by rw [e2]; exact h⟩
theorem x_endI {a : Addr} {fs : List Str} {xs : List D} (e : ρ[0]? = some (.slf a cn fs xs)) (h : kd (.ins cn fs xs)) : endI a cn kd ρ := ⟨fs, xs, e, h⟩
theorem x_lenI (h : τ ρ kx (lenK cn m kx k)) : dLenI cn m τ ρ kx k := h
theorem x_lenK {fs : List Str} (h : m [.ins cn fs ds] (fun x => kx x ρ) (fun r => ∃ n : Int, r = .int n ∧ (0 ≤ n ∧ n ≤ 1000000) ∧ k (.int n) ρ)) : lenK cn m kx k (.ins cn fs ds) ρ := ⟨rfl, h⟩
theorem x_isi {T t : String} {b : Bool} (e : isTyN d = some t) (hk : ∀ K : PySem.W.Frag, PySem.W.kitOne K (.type t) (.type T) = some b) (h : kd (.bl b)) : gIsi T d kd := ⟨t, b, e, hk, h⟩
theorem x_sumT {ns : List Int} (h : kd (.int ns.sum)) : cSum [.tup (ns.map D.int)] kd := ⟨ns, rfl, h⟩
theorem x_sumL {ns : List Int} (h : kd (.int ns.sum)) : cSum [.lst (ns.map D.int)] kd := ⟨ns, rfl, h⟩
theorem x_allL {bs : List Bool} (h : kd (.bl (bs.all id))) : cAll [.lst (bs.map D.bl)] kd := ⟨bs, rfl, h⟩
theorem x_intI {i : Int} (h : kd (.int i)) : cInt [.int i] kd := h
theorem x_intB {b : Bool} (h : kd (.int (if b then 1 else 0))) : cInt [.bl b] kd := h
theorem x_abs {i : Int} (h : kd (.int (if i < 0 then -i else i))) : cAbs [.int i] kd := h
theorem x_divmod {i j : Int} (hb : 0 < j ∧ j < 1073741824) (h : kd (.tup [.int (i / j), .int (i % j)])) : cDivmod [.int i, .int j] kd := ⟨hb, h⟩
def iseqK (ka : List D → Rho → Prop) : KE := fun d ρ' => match d with | .lst ds => ka ds ρ' | _ => False
def itupK (ka : List D → Rho → Prop) : KE := fun d ρ' => match d with | .tup ds => ka ds ρ' | _ => False
theorem x_iseqS (h : τ ρ kx (iseqK ka)) : iSeq τ ρ kx ka := h
theorem x_iseqD (h : ka ds ρ) : iseqK ka (.lst ds) ρ := h
theorem x_itupS (h : τ ρ kx (itupK ka)) : iTupD τ ρ kx ka := h
theorem x_itupD (h : ka ds ρ) : itupK ka (.tup ds) ρ := h
def chK (g g' : G2) (x y : D) (ρ2 : Rho) (kx : KX) (τc : TD) (k : KE) (z : D) : Prop := match z with | .bl c => (if c = true then τc ρ2 kx fun w ρ3 => g' y w fun d => k d ρ3 else k (.bl false) ρ2) | _ => False
theorem x_chain {g g' : G2} {τc : TD} (h : τa ρ kx fun x ρ1 => τb ρ1 kx fun y ρ2 => g x y (chK g g' x y ρ2 kx τc k)) : dChain g g' τa τb τc ρ kx k := h
theorem x_chK {g g' : G2} {τc : TD} {q : Bool} (h : if q = true then τc ρ kx fun w ρ3 => g' y w fun d => k d ρ3 else k (.bl false) ρ) : chK g g' x y ρ kx τc k (.bl q) := h
def rg1LK (kv : KV) : KE := fun d ρ' => match d with | .int j => (-1000000 ≤ j ∧ j ≤ 1000000) ∧ kv (.own (rng 0 j.toNat)) ρ' | _ => False
def rg2LK (kv : KV) (d : D) : KE := fun d2 ρ2 => match d, d2 with | .int i, .int j => (-1000000 ≤ i ∧ i ≤ 1000000 ∧ -1000000 ≤ j ∧ j ≤ 1000000 ∧ j - i ≤ 1000000) ∧ kv (.own (rng i (j - i).toNat)) ρ2 | _, _ => False
theorem x_rgL1 (h : τ ρ kx (rg1LK kv)) : rgL1 τ ρ kx kv := h
theorem x_rgL2 (h : τa ρ kx fun d ρ1 => τb ρ1 kx (rg2LK kv d)) : rgL2 τa τb ρ kx kv := h
theorem x_rg1LK {j : Int} (e : -1000000 ≤ j ∧ j ≤ 1000000) (h : kv (.own (rng 0 j.toNat)) ρ) : rg1LK kv (.int j) ρ := ⟨e, h⟩
theorem x_rg2LK {i j : Int} (e : -1000000 ≤ i ∧ i ≤ 1000000 ∧ -1000000 ≤ j ∧ j ≤ 1000000 ∧ j - i ≤ 1000000) (h : kv (.own (rng i (j - i).toNat)) ρ) : rg2LK kv (.int i) (.int j) ρ := ⟨e, h⟩
end
end DL
set_option maxHeartbeats 4000000
/-! DL19: comprehensions and loops, by what is kept. -/
namespace DL
open PySem PySem.Spec PyProof.Rows L2
inductive All2 {α β : Type} (R : α → β → Prop) : List α → List β → Prop
  | nil : All2 R [] []
  | cons {a : α} {b : β} {as : List α} {bs : List β} (h : R a b) (t : All2 R as bs) : All2 R (a :: as) (b :: bs)
theorem All2.len {α β : Type} {R : α → β → Prop} {as : List α} {bs : List β} (h : All2 R as bs) : as.length = bs.length := by
  induction h with
  | nil => rfl
  | cons _ _ ih => simp [ih]
theorem All2.map {α β : Type} {g : α → β} {as : List α} {bs : List β} (h : All2 (fun a b => b = g a) as bs) : bs = as.map g := by
  induction h with
  | nil => rfl
  | cons e _ ih => rw [List.map_cons, e, ih]
theorem All2.ints {α : Type} {P : Int → Prop} {as : List α} {bs : List D} (h : All2 (fun _ b => ∃ n : Int, b = D.int n ∧ P n) as bs) : ∃ ns : List Int, bs = ns.map D.int ∧ ns.length = as.length ∧ ∀ n ∈ ns, P n := by
  induction h with
  | nil => exact ⟨[], rfl, rfl, fun n hn => by cases hn⟩
  | cons e _ ih =>
    obtain ⟨n, rfl, hn⟩ := e
    obtain ⟨ns, rfl, hl, hp⟩ := ih
    exact ⟨n :: ns, rfl, by simp [hl], fun m hm => by
      rcases List.mem_cons.mp hm with z | z
      · rw [z]; exact hn
      · exact hp m z⟩
inductive LcR (R : D → Option D → Prop) : List D → List D → Prop
  | nil : LcR R [] []
  | yes {d y : D} {ds ys : List D} (h : R d (some y)) (t : LcR R ds ys) : LcR R (d :: ds) (y :: ys)
  | no {d : D} {ds ys : List D} (h : R d none) (t : LcR R ds ys) : LcR R (d :: ds) ys
theorem pickD_cons (i : Nat) (idx : List Nat) (l : List D) : pickD (i :: idx) l = l.getD i .non :: pickD idx l := rfl
theorem gD0 (a : D) (l : List D) (d : D) : (a :: l).getD 0 d = a := rfl
theorem gDs (a : D) (l : List D) (d : D) (n : Nat) : (a :: l).getD (n + 1) d = l.getD n d := rfl
theorem pickD_nil (l : List D) : pickD [] l = [] := rfl
section
variable {γ : TGd} {tt : TDt} {te : TD} {ρ0 : Rho} {kl : List D → Prop} {ds : List D}
theorem x_lc_all (R : D → D → Prop) (hs : ∀ d ∈ ds, ∀ A : D → Prop, (∀ y, R d y → A y) → γ d ρ0 fun ρ1 => te ρ1 nokx fun y ρ3 => ρ3 = ρ1 ∧ A y) (hk : ∀ ys, All2 R ds ys → kl ys) : lcD γ tYesD te ρ0 ds kl := by
  have key : ∀ (ds : List D) (kl : List D → Prop), (∀ d ∈ ds, ∀ A : D → Prop, (∀ y, R d y → A y) → γ d ρ0 fun ρ1 => te ρ1 nokx fun y ρ3 => ρ3 = ρ1 ∧ A y) → (∀ ys, All2 R ds ys → kl ys) → lcD γ tYesD te ρ0 ds kl := by
    intro ds
    induction ds with
    | nil => intro kl _ hk; exact hk [] .nil
    | cons d ds ih =>
      intro kl hs hk
      unfold lcD tYesD
      have e : (fun ρ1 => (ρ1 = ρ1 ∧ if true = true then te ρ1 nokx fun y ρ3 => ρ3 = ρ1 ∧ lcD γ (fun ρ x k => k true ρ) te ρ0 ds fun ys => kl (y :: ys) else lcD γ (fun ρ x k => k true ρ) te ρ0 ds kl)) = fun ρ1 => te ρ1 nokx fun y ρ3 => ρ3 = ρ1 ∧ lcD γ (fun ρ x k => k true ρ) te ρ0 ds fun ys => kl (y :: ys) := by
        funext ρ1
        simp
      show γ d ρ0 (fun ρ1 => (ρ1 = ρ1 ∧ if true = true then te ρ1 nokx fun y ρ3 => ρ3 = ρ1 ∧ lcD γ (fun ρ x k => k true ρ) te ρ0 ds fun ys => kl (y :: ys) else lcD γ (fun ρ x k => k true ρ) te ρ0 ds kl))
      rw [e]
      exact hs d (List.mem_cons_self ..) _ fun y hy => ih _ (fun d' hd' => hs d' (List.mem_cons_of_mem _ hd')) fun ys q => hk _ (.cons hy q)
  exact key ds kl hs hk
theorem LcR.map {p : D → Bool} {g : D → D} {ds ys : List D} (h : LcR (fun d o => o = if p d = true then some (g d) else none) ds ys) : ys = (ds.filter p).map g := by
  induction h with
  | nil => rfl
  | yes h _ ih =>
    rename_i d y ds ys t
    by_cases q : p d = true
    · rw [if_pos q] at h
      cases h
      rw [List.filter_cons_of_pos q, List.map_cons, ih]
    · rw [if_neg q] at h; cases h
  | no h _ ih =>
    rename_i d ds ys t
    by_cases q : p d = true
    · rw [if_pos q] at h; cases h
    · rw [List.filter_cons_of_neg q, ih]
def fzK (k : KE) : KV := fun s ρ => k s.toD ρ
theorem x_fzS {τs : TDs} {ρ : Rho} {kx : KX} {k : KE} (h : τs ρ kx (fzK k)) : dFz τs ρ kx k := h
theorem x_fzOwn {ρ : Rho} {k : KE} (h : k (.lst ds) ρ) : fzK k (.own ds) ρ := h
def lcK (γ : TGd) (tt : TDt) (te : TD) (vs : List Nat) (kv : KV) : List D → Rho → Prop := fun ds ρ' => nown ρ' vs = true ∧ lcD γ tt te (wipeR ρ' vs) ds fun ys => kv (.own ys) ρ'
theorem x_lcS {τi : TDi} {vs : List Nat} {ρ : Rho} {kx : KX} {kv : KV} (h : τi ρ kx (lcK γ tt te vs kv)) : vLc τi γ tt te vs ρ kx kv := h
theorem x_lcK {vs : List Nat} {ρ ρ' : Rho} {kv : KV} (e : nown ρ vs = true) (e2 : wipeR ρ vs = ρ') (h : lcD γ tt te ρ' ds fun ys => kv (.own ys) ρ) : lcK γ tt te vs kv ds ρ := ⟨e, by rw [e2]; exact h⟩
theorem x_isi_NoneType_int {kd : D → Prop} (h : kd (.bl false)) : gIsi "int" .non kd := x_isi rfl (fun _ => rfl) h
theorem x_isi_NoneType_bool {kd : D → Prop} (h : kd (.bl false)) : gIsi "bool" .non kd := x_isi rfl (fun _ => rfl) h
theorem x_isi_NoneType_str {kd : D → Prop} (h : kd (.bl false)) : gIsi "str" .non kd := x_isi rfl (fun _ => rfl) h
theorem x_isi_NoneType_tuple {kd : D → Prop} (h : kd (.bl false)) : gIsi "tuple" .non kd := x_isi rfl (fun _ => rfl) h
theorem x_isi_NoneType_list {kd : D → Prop} (h : kd (.bl false)) : gIsi "list" .non kd := x_isi rfl (fun _ => rfl) h
theorem x_isi_bool_int {b : Bool} {kd : D → Prop} (h : kd (.bl true)) : gIsi "int" (.bl b) kd := x_isi rfl (fun _ => rfl) h
theorem x_isi_bool_bool {b : Bool} {kd : D → Prop} (h : kd (.bl true)) : gIsi "bool" (.bl b) kd := x_isi rfl (fun _ => rfl) h
theorem x_isi_bool_str {b : Bool} {kd : D → Prop} (h : kd (.bl false)) : gIsi "str" (.bl b) kd := x_isi rfl (fun _ => rfl) h
theorem x_isi_bool_tuple {b : Bool} {kd : D → Prop} (h : kd (.bl false)) : gIsi "tuple" (.bl b) kd := x_isi rfl (fun _ => rfl) h
theorem x_isi_bool_list {b : Bool} {kd : D → Prop} (h : kd (.bl false)) : gIsi "list" (.bl b) kd := x_isi rfl (fun _ => rfl) h
theorem x_isi_int_int {i : Int} {kd : D → Prop} (h : kd (.bl true)) : gIsi "int" (.int i) kd := x_isi rfl (fun _ => rfl) h
theorem x_isi_int_bool {i : Int} {kd : D → Prop} (h : kd (.bl false)) : gIsi "bool" (.int i) kd := x_isi rfl (fun _ => rfl) h
theorem x_isi_int_str {i : Int} {kd : D → Prop} (h : kd (.bl false)) : gIsi "str" (.int i) kd := x_isi rfl (fun _ => rfl) h
theorem x_isi_int_tuple {i : Int} {kd : D → Prop} (h : kd (.bl false)) : gIsi "tuple" (.int i) kd := x_isi rfl (fun _ => rfl) h
theorem x_isi_int_list {i : Int} {kd : D → Prop} (h : kd (.bl false)) : gIsi "list" (.int i) kd := x_isi rfl (fun _ => rfl) h
theorem x_isi_str_int {z : Str} {kd : D → Prop} (h : kd (.bl false)) : gIsi "int" (.str z) kd := x_isi rfl (fun _ => rfl) h
theorem x_isi_str_bool {z : Str} {kd : D → Prop} (h : kd (.bl false)) : gIsi "bool" (.str z) kd := x_isi rfl (fun _ => rfl) h
theorem x_isi_str_str {z : Str} {kd : D → Prop} (h : kd (.bl true)) : gIsi "str" (.str z) kd := x_isi rfl (fun _ => rfl) h
theorem x_isi_str_tuple {z : Str} {kd : D → Prop} (h : kd (.bl false)) : gIsi "tuple" (.str z) kd := x_isi rfl (fun _ => rfl) h
theorem x_isi_str_list {z : Str} {kd : D → Prop} (h : kd (.bl false)) : gIsi "list" (.str z) kd := x_isi rfl (fun _ => rfl) h
theorem x_isi_tuple_int {kd : D → Prop} (h : kd (.bl false)) : gIsi "int" (.tup ds) kd := x_isi rfl (fun _ => rfl) h
theorem x_isi_tuple_bool {kd : D → Prop} (h : kd (.bl false)) : gIsi "bool" (.tup ds) kd := x_isi rfl (fun _ => rfl) h
theorem x_isi_tuple_str {kd : D → Prop} (h : kd (.bl false)) : gIsi "str" (.tup ds) kd := x_isi rfl (fun _ => rfl) h
theorem x_isi_tuple_tuple {kd : D → Prop} (h : kd (.bl true)) : gIsi "tuple" (.tup ds) kd := x_isi rfl (fun _ => rfl) h
theorem x_isi_tuple_list {kd : D → Prop} (h : kd (.bl false)) : gIsi "list" (.tup ds) kd := x_isi rfl (fun _ => rfl) h
theorem x_isi_list_int {kd : D → Prop} (h : kd (.bl false)) : gIsi "int" (.lst ds) kd := x_isi rfl (fun _ => rfl) h
theorem x_isi_list_bool {kd : D → Prop} (h : kd (.bl false)) : gIsi "bool" (.lst ds) kd := x_isi rfl (fun _ => rfl) h
theorem x_isi_list_str {kd : D → Prop} (h : kd (.bl false)) : gIsi "str" (.lst ds) kd := x_isi rfl (fun _ => rfl) h
theorem x_isi_list_tuple {kd : D → Prop} (h : kd (.bl false)) : gIsi "tuple" (.lst ds) kd := x_isi rfl (fun _ => rfl) h
theorem x_isi_list_list {kd : D → Prop} (h : kd (.bl true)) : gIsi "list" (.lst ds) kd := x_isi rfl (fun _ => rfl) h
end
/-! strong reads: a tuple with a known object stays one -/
def dVarS (i : Nat) : TD := fun ρ _ k => ∃ d, ρ[i]? = some (.val d) ∧ k d ρ
theorem x_varS {ρ : Rho} {kx : KX} {k : KE} {i : Nat} {d : D} (e : ρ[i]? = some (.val d)) (h : k d ρ) : dVarS i ρ kx k := ⟨d, e, h⟩
def fldSK (c f : Str) (k : KE) : KE := fun d ρ => match d with | .ins c' fs ds => c' = c ∧ ∃ d', (fs.zip ds).lookup f = some d' ∧ k d' ρ | _ => False
def dFldS (c f : Str) (τ : TD) : TD := fun ρ kx k => τ ρ kx (fldSK c f k)
theorem x_fldS {ρ : Rho} {kx : KX} {k : KE} {cn f : Str} {τ : TD} (h : τ ρ kx (fldSK cn f k)) : dFldS cn f τ ρ kx k := h
theorem x_fldSK {ρ : Rho} {k : KE} {cn f : Str} {ds : List D} {fs : List Str} {d' : D} (e : (fs.zip ds).lookup f = some d') (h : k d' ρ) : fldSK cn f k (.ins cn fs ds) ρ := ⟨rfl, d', e, h⟩
/-! a display of which the prover says whether its object is known -/
def tupKP (k : KE) : List D → Rho → Prop := fun ds ρ' => ds.length ≤ BIG ∧ k (.ptp ds) ρ'
theorem x_tupPD {ρ : Rho} {k : KE} {ds : List D} (e : ds.length ≤ BIG) (h : k (.ptp ds) ρ) : tupKP k ds ρ := ⟨e, h⟩
end DL
set_option maxHeartbeats 4000000
/-! DL20: the course: its making, by data. -/
namespace CS
open PySem PySem.Spec PyProof.Rows L2 DL
local macro_rules | `(tactic| sizeOf_list_dec) => `(tactic| with_reducible first
  | (refine x_varP (by with_unfolding_all rfl) ?_) | (refine x_var (by with_unfolding_all rfl) ?_) | (refine x_varS (by with_unfolding_all rfl) ?_)
  | (refine x_C ?_) | (refine x_op ?_) | (refine x_un ?_) | (refine x_sub ?_)
  | (refine x_mul (by first | with_unfolding_all decide | (unfold CMul; omega)) ?_) | (refine x_mult (by first | with_unfolding_all decide | (unfold CMul; omega)) ?_)
  | (refine x_div (by unfold CDivN; omega) ?_) | (refine x_mod (by omega) ?_) | (refine x_add ?_) | (refine x_lt ?_) | (refine x_ltI ?_) | (refine x_leI ?_) | (refine x_gtI ?_) | (refine x_geI ?_)
  | (refine x_is ?_) | (refine x_notis ?_) | (refine x_neg ?_) | (refine x_eqI ?_) | (refine x_neI ?_)
  | (refine x_dtestK ?_) | (refine x_testK ?_) | (refine x_and ?_) | (refine x_or ?_) | (refine x_not ?_) | (refine x_dif ?_)
  | (refine x_T ?_) | (refine x_F ?_) | (refine x_nT ?_) | (refine x_nF ?_)
  | (refine x_nil ?_) | (refine x_cons ?_) | (refine x_cntK ?_) | (refine x_lens (by with_unfolding_all rfl) ?_)
  | (refine x_tupK ?_) | (refine x_tupD (by first | with_unfolding_all decide | (simp only [BIG, List.length_cons, List.length_nil]; omega)) ?_) | (refine x_tupPD (by first | with_unfolding_all decide | (simp only [BIG, List.length_cons, List.length_nil]; omega)) ?_) | (refine x_lstK ?_) | (refine x_lstD (by first | with_unfolding_all decide | (simp only [BIG, List.length_cons, List.length_nil]; omega)) ?_)
  | (refine x_dct ?_) | (refine x_fzS ?_) | (refine x_fzOwn ?_) | (refine x_val ?_)
  | (refine x_callK ?_) | (refine x_callD (by first | (dsimp only [pickD_cons, pickD_nil, List.cons_append, List.nil_append, List.append_nil, gD0, gDs]; done) | (dsimp only [pickD_cons, pickD_nil, List.cons_append, List.nil_append, List.append_nil, gD0, gDs]; exact rfl)) ?_)
  | (refine x_bc ?_) | (refine x_min2 ?_) | (refine x_max2 ?_)
  | (refine x_seq ?_) | (refine x_next ?_) | (refine x_brk ?_) | (refine x_cont ?_) | (refine x_drop ?_) | (refine x_ret ?_) | (refine x_retN ?_) | (refine x_if ?_)
  | (refine x_asgK ?_) | (refine x_setK (by first | (dsimp only [List.set_cons_zero, List.set_cons_succ]; done) | (dsimp only [List.set_cons_zero, List.set_cons_succ]; exact rfl)) ?_)
  | (refine x_asgT ?_) | (refine x_gN (by first | (dsimp only [List.set_cons_zero, List.set_cons_succ]; done) | (dsimp only [List.set_cons_zero, List.set_cons_succ]; exact rfl)) ?_) | (refine x_gsN ?_) | (refine x_gsC ?_) | (refine x_gT (by with_unfolding_all rfl) ?_)
  | (refine x_mNil ?_) | (refine x_mCons ?_) | (refine x_parK ?_) | (refine x_parD (by with_unfolding_all rfl) (by first | (dsimp only [setS, List.set_cons_zero, List.set_cons_succ]; done) | (dsimp only [setS, List.set_cons_zero, List.set_cons_succ]; exact rfl)) ?_)
  | (refine x_for ?_) | (refine x_rg1 ?_) | (refine x_rg2 ?_) | (refine x_rg1K (by omega) ?_) | (refine x_rg2K (by omega) ?_)
  | (refine x_andV ?_) | (refine x_orV ?_) | (refine x_notV ?_) | (refine x_andK ?_) | (refine x_orK ?_) | (refine x_notK ?_)
  | (refine x_addI ?_) | (refine x_ixL (by with_unfolding_all rfl) ?_) | (refine x_ixT (by with_unfolding_all rfl) ?_) | (refine x_slT ?_) | (refine x_oNo ?_) | (refine x_oInt ?_) | (refine x_oIntK ?_)
  | (refine x_vbc ?_) | (refine x_lenT ?_) | (refine x_lenL ?_) | (refine x_lenO1 (by with_unfolding_all rfl) ?_) | (refine x_lenO2 ?_) | (refine x_ixO1 (by with_unfolding_all rfl) ?_) | (refine x_ixO2 ?_)
  | (refine x_mt (by with_unfolding_all rfl) ?_) | (refine x_fld ?_) | (refine x_fldS ?_) | (refine x_fldP (by with_unfolding_all rfl) ?_) | (refine x_fldSK (by with_unfolding_all rfl) ?_) | (refine x_fldK (by with_unfolding_all rfl) ?_) | (refine x_selfS ?_)
  | (refine x_selfK (by with_unfolding_all rfl) (by with_unfolding_all decide) (by first | (dsimp only [List.set_cons_zero, List.set_cons_succ, List.cons_append, List.nil_append]; done) | (dsimp only [List.set_cons_zero, List.set_cons_succ, List.cons_append, List.nil_append]; exact rfl)) ?_)
  | (refine x_endI (by with_unfolding_all rfl) ?_) | (refine x_lenI ?_) | (refine x_lenK ?_) | (refine x_isi_NoneType_int ?_) | (refine x_isi_NoneType_bool ?_) | (refine x_isi_NoneType_str ?_) | (refine x_isi_NoneType_tuple ?_) | (refine x_isi_NoneType_list ?_) | (refine x_isi_bool_int ?_) | (refine x_isi_bool_bool ?_) | (refine x_isi_bool_str ?_) | (refine x_isi_bool_tuple ?_) | (refine x_isi_bool_list ?_) | (refine x_isi_int_int ?_) | (refine x_isi_int_bool ?_) | (refine x_isi_int_str ?_) | (refine x_isi_int_tuple ?_) | (refine x_isi_int_list ?_) | (refine x_isi_str_int ?_) | (refine x_isi_str_bool ?_) | (refine x_isi_str_str ?_) | (refine x_isi_str_tuple ?_) | (refine x_isi_str_list ?_) | (refine x_isi_tuple_int ?_) | (refine x_isi_tuple_bool ?_) | (refine x_isi_tuple_str ?_) | (refine x_isi_tuple_tuple ?_) | (refine x_isi_tuple_list ?_) | (refine x_isi_list_int ?_) | (refine x_isi_list_bool ?_) | (refine x_isi_list_str ?_) | (refine x_isi_list_tuple ?_) | (refine x_isi_list_list ?_)
  | (refine x_tupleT ?_) | (refine x_sumT ?_) | (refine x_sumL ?_) | (refine x_allL ?_) | (refine x_intI ?_) | (refine x_intB ?_) | (refine x_abs ?_) | (refine x_divmod (by omega) ?_)
  | (refine x_lcS ?_) | (refine x_lcK (by with_unfolding_all rfl) (by first | (dsimp only [wipeR, List.set_cons_zero, List.set_cons_succ]; done) | (dsimp only [wipeR, List.set_cons_zero, List.set_cons_succ]; exact rfl)) ?_) | (refine x_iseqS ?_) | (refine x_iseqD ?_) | (refine x_itupS ?_) | (refine x_itupD ?_) | (refine x_chain ?_) | (refine x_chK ?_)
  | (refine x_rgL1 ?_) | (refine x_rgL2 ?_) | (refine x_rg1LK (by omega) ?_) | (refine x_rg2LK (by omega) ?_)
  | (refine x_sfz (by first | (simp only [fzR, S.toD, List.getElem?_cons_zero, List.getElem?_cons_succ, List.set_cons_zero, List.set_cons_succ]; done) | (simp only [fzR, S.toD, List.getElem?_cons_zero, List.getElem?_cons_succ, List.set_cons_zero, List.set_cons_succ]; exact rfl)) ?_))
theorem plns_int : ∀ (n : Nat) (ns : List Int), plns n (ns.map D.int) = true
  | _, [] => rfl
  | n, a :: ns => by rw [List.map_cons]; simp only [plns, pln, Bool.true_and]; exact plns_int n ns
theorem pln_lstI (ns : List Int) : pln 9 (.lst (ns.map D.int)) = true := plns_int 8 ns
mutual
theorem eqv_refl : ∀ (d : D), (∃ n, pln n d = true) → PyData.eqv (toPy d) (toPy d) = true
  | .non, _ => rfl
  | .bl b, _ => by simp [toPy, PyData.eqv]
  | .int i, _ => by simp [toPy, PyData.eqv]
  | .str x, _ => by simp [toPy, PyData.eqv]
  | .tup ds, h => by
    simp only [toPy, PyData.eqv]
    exact eqvs_refl ds (by
      obtain ⟨n, h⟩ := h
      cases n with
      | zero => simp [pln] at h
      | succ n => exact ⟨n, by simpa [pln] using h⟩)
  | .lst ds, h => by
    simp only [toPy, PyData.eqv]
    exact eqvs_refl ds (by
      obtain ⟨n, h⟩ := h
      cases n with
      | zero => simp [pln] at h
      | succ n => exact ⟨n, by simpa [pln] using h⟩)
  | .ins _ _ _, ⟨n, h⟩ => by cases n <;> simp [pln] at h
  | .dic _ _, ⟨n, h⟩ => by cases n <;> simp [pln] at h
  | .exc _ _ _, ⟨n, h⟩ => by cases n <;> simp [pln] at h
  | .town, ⟨n, h⟩ => by cases n <;> simp [pln] at h
  | .scr _, ⟨n, h⟩ => by cases n <;> simp [pln] at h
theorem eqvs_refl : ∀ (ds : List D), (∃ n, plns n ds = true) → PyData.eqvAll (toPys ds) (toPys ds) = true
  | [], _ => rfl
  | d :: ds, h => by
    obtain ⟨n, h⟩ := h
    simp only [plns, Bool.and_eq_true] at h
    simp only [toPys, PyData.eqvAll, Bool.and_eq_true]
    exact ⟨eqv_refl d ⟨n, h.1⟩, eqvs_refl ds ⟨n, h.2⟩⟩
end
theorem deq_refl {d : D} (h : pln 9 d = true) : deq d d = true := eqv_refl d ⟨9, h⟩
theorem x_neRefl {x : D} {kd : D → Prop} (p : pln 9 x = true) (h : kd (.bl false)) : gNe x x kd := ⟨p, p, by rw [deq_refl p]; exact h⟩
theorem x_eqRefl {x : D} {kd : D → Prop} (p : pln 9 x = true) (h : kd (.bl true)) : gEq x x kd := ⟨p, p, by rw [deq_refl p]; exact h⟩
theorem sorted_uniq : ∀ {as bs : List Int}, as.Perm bs → as.Pairwise (· ≤ ·) → bs.Pairwise (· ≤ ·) → as = bs := fun h h1 h2 => h.eq_of_pairwise (fun a b _ _ x y => Int.le_antisymm x y) h1 h2
end CS
set_option maxHeartbeats 4000000
/-! DZ1: zip(a, b, strict=True) of lists and tuples of one length, at the library's level. -/
namespace DZ
open PySem PySem.Spec PyProof.Rows
open PySem.Sem (wp)
def AtIt (h : Heap) (t : Bool) (it l : Addr) (i : Nat) : Prop := match t with | true => h.IsTupleIter it l i | false => h.IsListIter it l i
def AtSq (h : Heap) (t : Bool) (l : Addr) (xs : Array Value) : Prop := match t with | true => h.IsTuple l xs | false => h.IsList l xs
theorem AtIt.at {h h' : Heap} {t : Bool} {it l : Addr} {i : Nat} (x : AtIt h t it l i) (k : ∀ o, h.get? it = some o → h'.get? it = some o) : AtIt h' t it l i := by
  cases t
  · exact Heap.IsListIter.at x k
  · exact Heap.IsTupleIter.at x k
theorem AtIt.there {h : Heap} {t : Bool} {it l : Addr} {i : Nat} (x : AtIt h t it l i) : ∃ o, h.get? it = some o := by
  cases t
  · obtain ⟨o, e, _⟩ := x; exact ⟨o, e⟩
  · obtain ⟨o, e, _⟩ := x; exact ⟨o, e⟩
theorem AtSq.at {h h' : Heap} {t : Bool} {l : Addr} {xs : Array Value} (x : AtSq h t l xs) (k : ∀ o, h.get? l = some o → h'.get? l = some o) : AtSq h' t l xs := by
  cases t
  · exact Heap.IsList.at x k
  · exact Heap.IsTuple.at x k
/-! the making -/
section
variable {prog : Program} {w : World} {A : Around} {E : Value → Shared → Prop} {s : Shared}
theorem AtSq.push {h : Heap} {t : Bool} {l : Addr} {xs : Array Value} (x : AtSq h t l xs) (o : Obj) : AtSq (h.push o) t l xs := x.at fun o e => Heap.get?_push_of_some _ e
end
end DZ
set_option maxHeartbeats 4000000
/-! DZ2: the walk over zip(a, b, strict=True). -/
set_option maxHeartbeats 4000000
/-! DZ3: zip(a, b, strict=True) as a thing to walk, by data. -/
namespace DZ
open PySem PySem.Spec PyProof.Rows L2 DL
section
variable {X : Cx} {e e2 : Expr} {ta : TA} {tk : TA} {p pos tpos kp cp : Pos} {elts : List Expr} {kk kj : Nat}
variable {τa τb : TD}
def seqD : D → Option (List D)
  | .tup ds => some ds
  | .lst ds => some ds
  | _ => none
def iZpS (τa τb : TD) : TDi := fun ρ kx k => τa ρ kx fun d ρ1 => τb ρ1 kx fun d2 ρ2 => ∃ ds es, seqD d = some ds ∧ seqD d2 = some es ∧ ds.length = es.length ∧ k (zipD ds es) ρ2
end
end DZ
namespace DL
open PySem PySem.Spec PyProof.Rows L2
section
variable {ρ : Rho} {kx : KX} {k : KE} {cn : Str} {m : FD} {ds es : List D} {τa τb τ : TD} {ka : List D → Rho → Prop}
def lenR (k : KE) (ρ : Rho) : D → Prop := fun r => ∃ n : Int, r = .int n ∧ (0 ≤ n ∧ n ≤ 1000000) ∧ k (.int n) ρ
theorem x_lenK2 {fs : List Str} (h : m [.ins cn fs ds] (fun x => kx x ρ) (lenR k ρ)) : lenK cn m kx k (.ins cn fs ds) ρ := ⟨rfl, h⟩
def zpK (ka : List D → Rho → Prop) (d : D) : KE := fun d2 ρ2 => ∃ ds es, DZ.seqD d = some ds ∧ DZ.seqD d2 = some es ∧ ds.length = es.length ∧ ka (zipD ds es) ρ2
theorem x_zpS (h : τa ρ kx fun d ρ1 => τb ρ1 kx (zpK ka d)) : DZ.iZpS τa τb ρ kx ka := h
def zpN (ka : List D → Rho → Prop) (d : D) : KE := fun d2 ρ2 => match d, d2 with | .lst ds, .lst es => ka (zipD ds es) ρ2 | .tup ds, .tup es => ka (zipD ds es) ρ2 | _, _ => False
theorem x_zp (h : τa ρ kx fun d ρ1 => τb ρ1 kx (zpN ka d)) : iZp τa τb ρ kx ka := h
theorem x_zpNT (h : ka (zipD ds es) ρ) : zpN ka (.tup ds) (.tup es) ρ := h
theorem x_zpNL (h : ka (zipD ds es) ρ) : zpN ka (.lst ds) (.lst es) ρ := h
def enmK (ka : List D → Rho → Prop) : KE := fun d ρ' => match d with | .lst ds => ka (enumD ds) ρ' | _ => False
theorem x_enm (h : τ ρ kx (enmK ka)) : iEnm τ ρ kx ka := h
theorem x_enmK (h : ka (enumD ds) ρ) : enmK ka (.lst ds) ρ := h
theorem x_gTp {n : Nat} {γs : TGsd} {a b : D} {k : Rho → Prop} (e : n = 2) (h : γs [a, b] ρ k) : gT n γs (pairD a b) ρ k := ⟨e.symm, h⟩
end
end DL
set_option maxHeartbeats 4000000
namespace CS
open PySem PySem.Spec PyProof.Rows L2 DL
local macro_rules | `(tactic| sizeOf_list_dec) => `(tactic| with_reducible first
  | (refine x_varP (by with_unfolding_all rfl) ?_) | (refine x_var (by with_unfolding_all rfl) ?_) | (refine x_varS (by with_unfolding_all rfl) ?_)
  | (refine x_C ?_) | (refine x_op ?_) | (refine x_un ?_) | (refine x_sub ?_)
  | (refine x_mul (by first | with_unfolding_all decide | (unfold CMul; omega)) ?_) | (refine x_mult (by first | with_unfolding_all decide | (unfold CMul; omega)) ?_)
  | (refine x_div (by unfold CDivN; omega) ?_) | (refine x_mod (by omega) ?_) | (refine x_add ?_) | (refine x_lt ?_) | (refine x_ltI ?_) | (refine x_leI ?_) | (refine x_gtI ?_) | (refine x_geI ?_)
  | (refine x_is ?_) | (refine x_notis ?_) | (refine x_neg ?_) | (refine x_eqI ?_) | (refine x_neI ?_)
  | (refine x_dtestK ?_) | (refine x_testK ?_) | (refine x_and ?_) | (refine x_or ?_) | (refine x_not ?_) | (refine x_dif ?_)
  | (refine x_T ?_) | (refine x_F ?_) | (refine x_nT ?_) | (refine x_nF ?_)
  | (refine x_nil ?_) | (refine x_cons ?_) | (refine x_cntK ?_) | (refine x_lens (by with_unfolding_all rfl) ?_)
  | (refine x_tupK ?_) | (refine x_tupD (by first | with_unfolding_all decide | (simp only [BIG, List.length_cons, List.length_nil]; omega)) ?_) | (refine x_tupPD (by first | with_unfolding_all decide | (simp only [BIG, List.length_cons, List.length_nil]; omega)) ?_) | (refine x_lstK ?_) | (refine x_lstD (by first | with_unfolding_all decide | (simp only [BIG, List.length_cons, List.length_nil]; omega)) ?_)
  | (refine x_dct ?_) | (refine x_fzS ?_) | (refine x_fzOwn ?_) | (refine x_val ?_)
  | (refine x_callK ?_) | (refine x_callD (by first | (dsimp only [pickD_cons, pickD_nil, List.cons_append, List.nil_append, List.append_nil, gD0, gDs]; done) | (dsimp only [pickD_cons, pickD_nil, List.cons_append, List.nil_append, List.append_nil, gD0, gDs]; exact rfl)) ?_)
  | (refine x_bc ?_) | (refine x_min2 ?_) | (refine x_max2 ?_)
  | (refine x_seq ?_) | (refine x_next ?_) | (refine x_brk ?_) | (refine x_cont ?_) | (refine x_drop ?_) | (refine x_ret ?_) | (refine x_retN ?_) | (refine x_if ?_)
  | (refine x_asgK ?_) | (refine x_setK (by first | (dsimp only [List.set_cons_zero, List.set_cons_succ]; done) | (dsimp only [List.set_cons_zero, List.set_cons_succ]; exact rfl)) ?_)
  | (refine x_asgT ?_) | (refine x_gN (by first | (dsimp only [List.set_cons_zero, List.set_cons_succ]; done) | (dsimp only [List.set_cons_zero, List.set_cons_succ]; exact rfl)) ?_) | (refine x_gsN ?_) | (refine x_gsC ?_) | (refine x_gT (by with_unfolding_all rfl) ?_)
  | (refine x_mNil ?_) | (refine x_mCons ?_) | (refine x_parK ?_) | (refine x_parD (by with_unfolding_all rfl) (by first | (dsimp only [setS, List.set_cons_zero, List.set_cons_succ]; done) | (dsimp only [setS, List.set_cons_zero, List.set_cons_succ]; exact rfl)) ?_)
  | (refine x_for ?_) | (refine x_rg1 ?_) | (refine x_rg2 ?_) | (refine x_rg1K (by omega) ?_) | (refine x_rg2K (by omega) ?_)
  | (refine x_andV ?_) | (refine x_orV ?_) | (refine x_notV ?_) | (refine x_andK ?_) | (refine x_orK ?_) | (refine x_notK ?_)
  | (refine x_addI ?_) | (refine x_ixL (by with_unfolding_all rfl) ?_) | (refine x_ixT (by with_unfolding_all rfl) ?_) | (refine x_slT ?_) | (refine x_oNo ?_) | (refine x_oInt ?_) | (refine x_oIntK ?_)
  | (refine x_vbc ?_) | (refine x_lenT ?_) | (refine x_lenL ?_) | (refine x_lenO1 (by with_unfolding_all rfl) ?_) | (refine x_lenO2 ?_) | (refine x_ixO1 (by with_unfolding_all rfl) ?_) | (refine x_ixO2 ?_)
  | (refine x_mt (by with_unfolding_all rfl) ?_) | (refine x_fld ?_) | (refine x_fldS ?_) | (refine x_fldP (by with_unfolding_all rfl) ?_) | (refine x_fldSK (by with_unfolding_all rfl) ?_) | (refine x_fldK (by with_unfolding_all rfl) ?_) | (refine x_selfS ?_)
  | (refine x_selfK (by with_unfolding_all rfl) (by with_unfolding_all decide) (by first | (dsimp only [List.set_cons_zero, List.set_cons_succ, List.cons_append, List.nil_append]; done) | (dsimp only [List.set_cons_zero, List.set_cons_succ, List.cons_append, List.nil_append]; exact rfl)) ?_)
  | (refine x_endI (by with_unfolding_all rfl) ?_) | (refine x_lenI ?_) | (refine x_lenK2 ?_) | (refine x_isi_NoneType_int ?_) | (refine x_isi_NoneType_bool ?_) | (refine x_isi_NoneType_str ?_) | (refine x_isi_NoneType_tuple ?_) | (refine x_isi_NoneType_list ?_) | (refine x_isi_bool_int ?_) | (refine x_isi_bool_bool ?_) | (refine x_isi_bool_str ?_) | (refine x_isi_bool_tuple ?_) | (refine x_isi_bool_list ?_) | (refine x_isi_int_int ?_) | (refine x_isi_int_bool ?_) | (refine x_isi_int_str ?_) | (refine x_isi_int_tuple ?_) | (refine x_isi_int_list ?_) | (refine x_isi_str_int ?_) | (refine x_isi_str_bool ?_) | (refine x_isi_str_str ?_) | (refine x_isi_str_tuple ?_) | (refine x_isi_str_list ?_) | (refine x_isi_tuple_int ?_) | (refine x_isi_tuple_bool ?_) | (refine x_isi_tuple_str ?_) | (refine x_isi_tuple_tuple ?_) | (refine x_isi_tuple_list ?_) | (refine x_isi_list_int ?_) | (refine x_isi_list_bool ?_) | (refine x_isi_list_str ?_) | (refine x_isi_list_tuple ?_) | (refine x_isi_list_list ?_)
  | (refine x_tupleT ?_) | (refine x_sumT ?_) | (refine x_sumL ?_) | (refine x_allL ?_) | (refine x_intI ?_) | (refine x_intB ?_) | (refine x_abs ?_) | (refine x_divmod (by omega) ?_)
  | (refine x_lcS ?_) | (refine x_lcK (by with_unfolding_all rfl) (by first | (dsimp only [wipeR, List.set_cons_zero, List.set_cons_succ]; done) | (dsimp only [wipeR, List.set_cons_zero, List.set_cons_succ]; exact rfl)) ?_) | (refine x_iseqS ?_) | (refine x_iseqD ?_) | (refine x_itupS ?_) | (refine x_itupD ?_) | (refine x_chain ?_) | (refine x_chK ?_)
  | (refine x_rgL1 ?_) | (refine x_rgL2 ?_) | (refine x_rg1LK (by omega) ?_) | (refine x_rg2LK (by omega) ?_)
  | (refine x_sfz (by first | (simp only [fzR, S.toD, List.getElem?_cons_zero, List.getElem?_cons_succ, List.set_cons_zero, List.set_cons_succ]; done) | (simp only [fzR, S.toD, List.getElem?_cons_zero, List.getElem?_cons_succ, List.set_cons_zero, List.set_cons_succ]; exact rfl)) ?_)
  | (refine x_zpS ?_) | (refine x_zp ?_) | (refine x_zpNT ?_) | (refine x_zpNL ?_) | (refine x_enm ?_) | (refine x_enmK ?_) | (refine x_gTp (by with_unfolding_all rfl) ?_))
/-! the strokes that are given, the cards, by data -/
def gf (n : Nat) (ranks : List Int) (strokes : Int) : List Int := ranks.map fun r => strokes / (n : Int) + if r ≤ strokes % (n : Int) then 1 else 0
theorem x_lc_mapA {α : Type} (g : α → D) {γ : TGd} {te : TD} {ρ0 : Rho} {kl : List D → Prop} {f : α → D} {l : List α} (hs : ∀ a ∈ l, ∀ A : D → Prop, A (g a) → γ (f a) ρ0 fun ρ1 => te ρ1 nokx fun y ρ3 => ρ3 = ρ1 ∧ A y) (hk : kl (l.map g)) : lcD γ tYesD te ρ0 (l.map f) kl := by
  have key : ∀ (l : List α) (kl : List D → Prop), (∀ a ∈ l, ∀ A : D → Prop, A (g a) → γ (f a) ρ0 fun ρ1 => te ρ1 nokx fun y ρ3 => ρ3 = ρ1 ∧ A y) → kl (l.map g) → lcD γ tYesD te ρ0 (l.map f) kl := by
    intro l
    induction l with
    | nil => intro kl _ hk; exact hk
    | cons a l ih =>
      intro kl hs hk
      rw [List.map_cons]
      unfold lcD tYesD
      have e : (fun ρ1 => (ρ1 = ρ1 ∧ if true = true then te ρ1 nokx fun y ρ3 => ρ3 = ρ1 ∧ lcD γ (fun ρ x k => k true ρ) te ρ0 (l.map f) fun ys => kl (y :: ys) else lcD γ (fun ρ x k => k true ρ) te ρ0 (l.map f) kl)) = fun ρ1 => te ρ1 nokx fun y ρ3 => ρ3 = ρ1 ∧ lcD γ (fun ρ x k => k true ρ) te ρ0 (l.map f) fun ys => kl (y :: ys) := by
        funext ρ1
        simp
      show γ (f a) ρ0 (fun ρ1 => (ρ1 = ρ1 ∧ if true = true then te ρ1 nokx fun y ρ3 => ρ3 = ρ1 ∧ lcD γ (fun ρ x k => k true ρ) te ρ0 (l.map f) fun ys => kl (y :: ys) else lcD γ (fun ρ x k => k true ρ) te ρ0 (l.map f) kl))
      rw [e]
      exact hs a (List.mem_cons_self ..) _ (ih _ (fun a' ha' => hs a' (List.mem_cons_of_mem _ ha')) (by rw [List.map_cons] at hk; exact hk))
  exact key l kl hs hk
theorem x_for_pre {α : Type} {f : α → D} {l : List α} {γ : TGd} {t : TDS} {kx : KX} {ρ : Rho} {n b c : Rho → Prop} {r : D → Rho → Prop} (I : List α → Rho → Prop) (h0 : I [] ρ) (hn : ∀ ρ, I l ρ → n ρ)
    (hs : ∀ pre a post ρ (P : Rho → Prop), l = pre ++ a :: post → I pre ρ → (∀ ρ', I (pre ++ [a]) ρ' → P ρ') → γ (f a) ρ fun ρ1 => t ρ1 kx ⟨P, r, n, P⟩) : forD γ t (l.map f) ρ kx ⟨n, r, b, c⟩ := by
  have key : ∀ (post pre : List α) (ρ : Rho), l = pre ++ post → I pre ρ → forD γ t (post.map f) ρ kx ⟨n, r, b, c⟩ := by
    intro post
    induction post with
    | nil => intro pre ρ e h; rw [List.append_nil] at e; subst e; exact hn ρ h
    | cons a post ih => intro pre ρ e h; exact hs pre a post ρ _ e h fun ρ' q => ih (pre ++ [a]) ρ' (by rw [e]; simp) q
  exact key l [] ρ rfl h0
end CS
set_option maxHeartbeats 4000000
/-! DL22: in, not in, over flat items. -/
namespace DL
open PySem PySem.Spec PyProof.Rows L2
end DL
set_option maxHeartbeats 4000000
/-! DL23: x op= e; xs[i] op= e and xs[i] = e, xs owned. -/
namespace DL
open PySem PySem.Spec PyProof.Rows L2
section
variable {X : Cx} {e ix : Expr} {τ τi : TD} {pos pos' p : Pos} {x : Str}
def IpD (X : Cx) (t : TIp) (g : G2) : Prop := ∀ (W : Wd) (F H : Hp) (σ : L2.St) (ρ : Rho) (x y : V) (dx dy : D) (k : D → Prop) (Q : VK), Rep X.K X.mg W F H σ ρ → DV X.K X.mg W dx x → DV X.K X.mg W dy y → g dx dy k →
  (∀ d v H' W', k d → W.le W' → Rep X.K X.mg W' F H' σ ρ → DV X.K X.mg W' d v → Q v H') → t x y H Q
theorem ip_I {f : Int → Int → Int} : IpD X (ipI f) (gI (fun _ _ => True) fun i j => .int (f i j)) := by
  intro W F H σ ρ x y dx dy k Q R hx hy hg hQ
  cases dx <;> try exact hg.elim
  rename_i i
  cases dy <;> try exact hg.elim
  rename_i j
  simp only [DV] at hx hy
  exact ⟨i, j, hx, hy, hQ _ _ H W hg.2 (Wd.le.refl W) R (by simp only [DV])⟩
theorem sd_aug {op : Operator} {t : TIp} {g : G2} (i : Nat) (hN : X.N.Nodup) (hp : PIp X op t) (ip : IpD X t g) (he : PEd X e τ) (hi : X.N[i]? = some x := by rfl) (hx : Loc X.env.scope x := by first | exact Or.inl rfl | exact Or.inr rfl)
    (hf : X.fn x = true ∨ X.env.scope.names.lookup x = some .local := by first | exact .inl rfl | exact .inr rfl) : PSd X (.AugAssign (.Name x pos') op e pos) (sAug i g τ) :=
  ⟨PS.imp (ps_aug hN hi hx he.p hp hf) fun D σ H ⟨W, F, ρ, kx, k, tk, R, h, L⟩ => by
    obtain ⟨d, hd, h⟩ := h
    obtain ⟨v, hv, dv⟩ := R.slot hd (by intro z; cases z)
    refine ⟨v, hv, W, F, ρ, kx, _, tk, R, h, fun y ρ1 v1 H1 W1 ⟨hd1, hg⟩ le1 R1 d1 => ?_⟩
    have dv1 : DV X.K X.mg W1 d v := DV.mono le1 d v dv
    exact ip W1 F H1 σ ρ1 v v1 d y _ _ R1 dv1 d1 hg fun z w H2 W2 hk le2 R2 dw => L.nx _ _ H2 W2 hk (le1.trans le2) (R2.setVal dw)⟩
def sAugIx (i : Nat) (τi : TD) (g : G2) (τ : TD) : TDS := fun ρ kx k => (∃ ds, ρ[i]? = some (.own ds)) ∧ τi ρ kx fun j ρ1 => ∃ n ds d, j = .int n ∧ ρ1[i]? = some (.own ds) ∧ 0 ≤ n ∧ ds[n.toNat]? = some d ∧
  τ ρ1 kx fun y ρ2 => ρ2[i]? = some (.own ds) ∧ g d y fun z => k.nx (ρ2.set i (.own (ds.set n.toNat z)))
end
end DL
set_option maxHeartbeats 4000000
namespace CS
open PySem PySem.Spec PyProof.Rows L2 DL
local macro_rules | `(tactic| sizeOf_list_dec) => `(tactic| with_reducible first
  | (refine x_varP (by with_unfolding_all rfl) ?_) | (refine x_var (by with_unfolding_all rfl) ?_) | (refine x_varS (by with_unfolding_all rfl) ?_)
  | (refine x_C ?_) | (refine x_op ?_) | (refine x_un ?_) | (refine x_sub ?_)
  | (refine x_mul (by first | with_unfolding_all decide | (unfold CMul; omega)) ?_) | (refine x_mult (by first | with_unfolding_all decide | (unfold CMul; omega)) ?_)
  | (refine x_div (by unfold CDivN; omega) ?_) | (refine x_mod (by omega) ?_) | (refine x_add ?_) | (refine x_lt ?_) | (refine x_ltI ?_) | (refine x_leI ?_) | (refine x_gtI ?_) | (refine x_geI ?_)
  | (refine x_is ?_) | (refine x_notis ?_) | (refine x_neg ?_) | (refine x_eqI ?_) | (refine x_neI ?_)
  | (refine x_dtestK ?_) | (refine x_testK ?_) | (refine x_and ?_) | (refine x_or ?_) | (refine x_not ?_) | (refine x_dif ?_)
  | (refine x_T ?_) | (refine x_F ?_) | (refine x_nT ?_) | (refine x_nF ?_)
  | (refine x_nil ?_) | (refine x_cons ?_) | (refine x_cntK ?_) | (refine x_lens (by with_unfolding_all rfl) ?_)
  | (refine x_tupK ?_) | (refine x_tupD (by first | with_unfolding_all decide | (simp only [BIG, List.length_cons, List.length_nil]; omega)) ?_) | (refine x_tupPD (by first | with_unfolding_all decide | (simp only [BIG, List.length_cons, List.length_nil]; omega)) ?_) | (refine x_lstK ?_) | (refine x_lstD (by first | with_unfolding_all decide | (simp only [BIG, List.length_cons, List.length_nil]; omega)) ?_)
  | (refine x_dct ?_) | (refine x_fzS ?_) | (refine x_fzOwn ?_) | (refine x_val ?_)
  | (refine x_callK ?_) | (refine x_callD (by first | (dsimp only [pickD_cons, pickD_nil, List.cons_append, List.nil_append, List.append_nil, gD0, gDs]; done) | (dsimp only [pickD_cons, pickD_nil, List.cons_append, List.nil_append, List.append_nil, gD0, gDs]; exact rfl)) ?_)
  | (refine x_bc ?_) | (refine x_min2 ?_) | (refine x_max2 ?_)
  | (refine x_seq ?_) | (refine x_next ?_) | (refine x_brk ?_) | (refine x_cont ?_) | (refine x_drop ?_) | (refine x_ret ?_) | (refine x_retN ?_) | (refine x_if ?_)
  | (refine x_asgK ?_) | (refine x_setK (by first | (dsimp only [List.set_cons_zero, List.set_cons_succ]; done) | (dsimp only [List.set_cons_zero, List.set_cons_succ]; exact rfl)) ?_)
  | (refine x_asgT ?_) | (refine x_gN (by first | (dsimp only [List.set_cons_zero, List.set_cons_succ]; done) | (dsimp only [List.set_cons_zero, List.set_cons_succ]; exact rfl)) ?_) | (refine x_gsN ?_) | (refine x_gsC ?_) | (refine x_gT (by with_unfolding_all rfl) ?_)
  | (refine x_mNil ?_) | (refine x_mCons ?_) | (refine x_parK ?_) | (refine x_parD (by with_unfolding_all rfl) (by first | (dsimp only [setS, List.set_cons_zero, List.set_cons_succ]; done) | (dsimp only [setS, List.set_cons_zero, List.set_cons_succ]; exact rfl)) ?_)
  | (refine x_for ?_) | (refine x_rg1 ?_) | (refine x_rg2 ?_) | (refine x_rg1K (by omega) ?_) | (refine x_rg2K (by omega) ?_)
  | (refine x_andV ?_) | (refine x_orV ?_) | (refine x_notV ?_) | (refine x_andK ?_) | (refine x_orK ?_) | (refine x_notK ?_)
  | (refine x_addI ?_) | (refine x_ixL (by with_unfolding_all rfl) ?_) | (refine x_ixT (by with_unfolding_all rfl) ?_) | (refine x_slT ?_) | (refine x_oNo ?_) | (refine x_oInt ?_) | (refine x_oIntK ?_)
  | (refine x_vbc ?_) | (refine x_lenT ?_) | (refine x_lenL ?_) | (refine x_lenO1 (by with_unfolding_all rfl) ?_) | (refine x_lenO2 ?_) | (refine x_ixO1 (by with_unfolding_all rfl) ?_) | (refine x_ixO2 ?_)
  | (refine x_mt (by with_unfolding_all rfl) ?_) | (refine x_fld ?_) | (refine x_fldS ?_) | (refine x_fldP (by with_unfolding_all rfl) ?_) | (refine x_fldSK (by with_unfolding_all rfl) ?_) | (refine x_fldK (by with_unfolding_all rfl) ?_) | (refine x_selfS ?_)
  | (refine x_selfK (by with_unfolding_all rfl) (by with_unfolding_all decide) (by first | (dsimp only [List.set_cons_zero, List.set_cons_succ, List.cons_append, List.nil_append]; done) | (dsimp only [List.set_cons_zero, List.set_cons_succ, List.cons_append, List.nil_append]; exact rfl)) ?_)
  | (refine x_endI (by with_unfolding_all rfl) ?_) | (refine x_lenI ?_) | (refine x_lenK2 ?_) | (refine x_isi_NoneType_int ?_) | (refine x_isi_NoneType_bool ?_) | (refine x_isi_NoneType_str ?_) | (refine x_isi_NoneType_tuple ?_) | (refine x_isi_NoneType_list ?_) | (refine x_isi_bool_int ?_) | (refine x_isi_bool_bool ?_) | (refine x_isi_bool_str ?_) | (refine x_isi_bool_tuple ?_) | (refine x_isi_bool_list ?_) | (refine x_isi_int_int ?_) | (refine x_isi_int_bool ?_) | (refine x_isi_int_str ?_) | (refine x_isi_int_tuple ?_) | (refine x_isi_int_list ?_) | (refine x_isi_str_int ?_) | (refine x_isi_str_bool ?_) | (refine x_isi_str_str ?_) | (refine x_isi_str_tuple ?_) | (refine x_isi_str_list ?_) | (refine x_isi_tuple_int ?_) | (refine x_isi_tuple_bool ?_) | (refine x_isi_tuple_str ?_) | (refine x_isi_tuple_tuple ?_) | (refine x_isi_tuple_list ?_) | (refine x_isi_list_int ?_) | (refine x_isi_list_bool ?_) | (refine x_isi_list_str ?_) | (refine x_isi_list_tuple ?_) | (refine x_isi_list_list ?_)
  | (refine x_tupleT ?_) | (refine x_sumT ?_) | (refine x_sumL ?_) | (refine x_allL ?_) | (refine x_intI ?_) | (refine x_intB ?_) | (refine x_abs ?_) | (refine x_divmod (by omega) ?_)
  | (refine x_lcS ?_) | (refine x_lcK (by with_unfolding_all rfl) (by first | (dsimp only [wipeR, List.set_cons_zero, List.set_cons_succ]; done) | (dsimp only [wipeR, List.set_cons_zero, List.set_cons_succ]; exact rfl)) ?_) | (refine x_iseqS ?_) | (refine x_iseqD ?_) | (refine x_itupS ?_) | (refine x_itupD ?_) | (refine x_chain ?_) | (refine x_chK ?_)
  | (refine x_rgL1 ?_) | (refine x_rgL2 ?_) | (refine x_rg1LK (by omega) ?_) | (refine x_rg2LK (by omega) ?_)
  | (refine x_sfz (by first | (simp only [fzR, S.toD, List.getElem?_cons_zero, List.getElem?_cons_succ, List.set_cons_zero, List.set_cons_succ]; done) | (simp only [fzR, S.toD, List.getElem?_cons_zero, List.getElem?_cons_succ, List.set_cons_zero, List.set_cons_succ]; exact rfl)) ?_)
  | (refine x_zpS ?_) | (refine x_zp ?_) | (refine x_zpNT ?_) | (refine x_zpNL ?_) | (refine x_enm ?_) | (refine x_enmK ?_) | (refine x_gTp (by with_unfolding_all rfl) ?_))
def absI (i : Int) : Int := if i < 0 then -i else i
def t3 (p : Int × Int × Int) : D := .tup [.int p.1, .int p.2.1, .int p.2.2]
end CS
set_option maxHeartbeats 4000000
/-! DL25: a * b of ints, or of a tuple and an int. -/
namespace DL
open PySem PySem.Spec PyProof.Rows L2
end DL
set_option maxHeartbeats 4000000
/-! DZ4: enumerate over a tuple. -/
namespace DZ
open PySem PySem.Spec PyProof.Rows L2 DL
open AutoSeq1 (wpAny_loadPart')
theorem meets_enumT (l : Addr) (items : Array Value) :
    Meets (Builtin.«enumerate.__new__» ⟨[.type "enumerate", .ref l], []⟩) (fun _ R s => s.heap.IsTuple l items ∧
      R (.ok (.ret (.ref (s.heap.push { cls := .type "tuple_iterator", data := .fields #[.ref l, .int 0 0] }).objs.size)))
        { s with heap := (s.heap.push { cls := .type "tuple_iterator", data := .fields #[.ref l, .int 0 0] }).push { cls := .type "enumerate", data := .fields #[.none, .bool false, .ref s.heap.objs.size, rawInt 0, .none, .none] } }) :=
  .of_wp fun prog w A R s h => by
    obtain ⟨hp, g, d, tk, os⟩ := s; obtain ⟨hl, h⟩ := h
    have hsub := sub_enumerate
    have hL : Heap.IsTuple (Shared.heap ⟨hp, g, d, tk, os⟩) l items := hl
    wp_walk using wpAny_pyIter_tuple hL
    refine wpAny_stack_any fun st => wpAny_pure ?_
    split
    · rename_i c _ _ _ _ _
      cases (c == Value.type "enumerate")
      · wp_walk using wpAny_pyIter_tuple hL
        exact ⟨_, rfl, h⟩
      · wp_walk using wpAny_pyIter_tuple hL
        exact ⟨_, rfl, h⟩
    · wp_walk using wpAny_pyIter_tuple hL
      exact ⟨_, rfl, h⟩
section
variable {prog : Program} {w : World} {A : Around} {E : Value → Shared → Prop} {s : Shared}
theorem call_enumT {l : Addr} {items : Array Value} {Q : Value → Shared → Prop} (hL : s.heap.IsTuple l items)
    (h : ∀ h', IsEnum h' (s.heap.objs.size + 1) s.heap.objs.size 0 .none → h'.IsTupleIter s.heap.objs.size l 0 → h'.objs.size = s.heap.objs.size + 2 →
      (∀ b o, s.heap.get? b = some o → h'.get? b = some o) → Q (.ref (s.heap.objs.size + 1)) { s with heap := h' }) :
    wpAny (model prog w) A (call (.type "enumerate") [.ref l]) Q E s := by
  refine callType_new F.called_enumerate (by decide) (F.typeCall_enumerate_1 _) (F.newCall_enumerate_1 _) (fun obj => F.args_object_init_2 obj _) F.entry_enumerate_new
    (meets_enumT l items) ⟨hL, ?_⟩
  have hz : (s.heap.push { cls := .type "tuple_iterator", data := .fields #[.ref l, .int 0 0] }).objs.size = s.heap.objs.size + 1 := Heap.size_push ..
  show _ ∧ _
  rw [hz]
  have he : IsEnum ((s.heap.push { cls := .type "tuple_iterator", data := .fields #[.ref l, .int 0 0] }).push
      { cls := .type "enumerate", data := .fields #[.none, .bool false, .ref s.heap.objs.size, rawInt 0, .none, .none] }) (s.heap.objs.size + 1) s.heap.objs.size 0 .none := by
    have := Heap.get?_push_size (s.heap.push { cls := .type "tuple_iterator", data := .fields #[.ref l, .int 0 0] })
      (o := { cls := .type "enumerate", data := .fields #[.none, .bool false, .ref s.heap.objs.size, rawInt 0, .none, .none] }) rfl
    rw [hz] at this; exact this
  refine ⟨⟨_, he, rfl⟩, h _ he ⟨_, Heap.get?_push_of_some _ (Heap.get?_push_size _ rfl), rfl, rfl⟩ (by rw [Heap.size_push, hz]) fun b o x => Heap.get?_push_of_some _ (Heap.get?_push_of_some _ x)⟩
end
def IteT (K : PySem.W.Frag) (a : Addr) : It :=
  ⟨fun i H => ∃ (xs : List V) (x : V), SqT K H a xs ∧ xs[i]? = some x, fun i H v H' => ∃ T x, v = .ref T ∧ H T = none ∧ H' = upd H T (.tup [.int (i : Nat), x]) ∧ ∀ xs, SqT K H a xs → xs[i]? = some x, fun i H => ∃ xs : List V, SqT K H a xs ∧ xs.length = i⟩
theorem turn_enumT {P : Program} {w : World} {K : PySem.W.Frag} {elts : List Expr} {kk : Nat} {tpos : Pos} (a e it : Addr) :
    Turn P w K (.Tuple elts kk tpos) (IteT K a) [e, it] e (fun i h => (∃ old, IsEnum h e it ((i : Nat) : Int) old) ∧ h.IsTupleIter it a i ∧ e ≠ it ∧ e ≠ a ∧ a ≠ it) where
  mem := by simp
  obj := fun i h st b hb => by
    obtain ⟨⟨old, he⟩, ⟨o, ho, hc, hd⟩, _⟩ := st
    have e' : b = e ∨ b = it := by simpa using hb
    rcases e' with z | z
    · rw [z]; exact ⟨_, he, fun v q => nomatch q⟩
    · rw [z]; exact ⟨o, ho, fun v q => by rw [hd] at q; cases q⟩
  keep := fun i h h' st k => let ⟨⟨old, he⟩, hi, hne⟩ := st; ⟨⟨old, k e (by simp) _ he⟩, hi.at fun o q => k it (by simp) o q, hne⟩
  item := by
    intro X hP hw hK hc i pins s σ H E I hf st hg
    subst hP hw hK
    obtain ⟨⟨old, he⟩, hit, hne, hea, hai⟩ := st
    obtain ⟨xs, x, hq, hx⟩ := hg
    obtain ⟨its, rv, p, hz⟩ := I.tuple hq
    obtain ⟨u, hu, ru⟩ := rv.get hx
    have hel : e < s.heap.objs.size := Heap.lt_size he
    have hil : it < s.heap.objs.size := by obtain ⟨_, q, _⟩ := hit; exact Heap.lt_size q
    have hh := I.ok.hd hc
    have hit2 := hit
    refine wpAny_pyNext_enum_itemD (fp := [it, a]) (n := its.toArray.size) (P := fun i v => its.toArray[i]? = some v) (St := fun i h => h.IsTupleIter it a i ∧ h.IsTuple a its.toArray) (Draws.tuple (by first | exact hh | simpa using hh) it a hai its.toArray) he ⟨hit2, p⟩ (by
      have := (List.getElem?_eq_some_iff.mp hu).1
      simpa using this) hne (by simp [hne, hea]) fun x' h' tk hx' ho hst' hT hsz hk => ?_
    have ex : x' = u := by
      have : its.toArray[i]? = some u := by simpa using hu
      rw [this] at hx'
      exact (Option.some.inj hx').symm
    subst ex
    refine ⟨_, rfl, wpAny_letOwnedTupleGo_enum (s := { s with heap := h', toks := tk + 1 }) ho fun h'' he' sb => ?_⟩
    have hT2 : h''.get? s.heap.objs.size = some { cls := .type "tuple", data := .seq #[.int i tk, x'] } := (sb.2 _ (Nat.ne_of_gt hel)).trans hT
    have new : ObjOk X.prog X.w (upd H s.heap.objs.size (.tup [.int (i : Nat), x])) h'' s.heap.objs.size (.tup [.int (i : Nat), x]) :=
      ⟨by show 2 ≤ sizeLine; decide, [.int i tk, x'], .cons ⟨_, rfl⟩ (.cons ru .nil), ⟨_, hT2, rfl, _, rfl⟩⟩
    have I1 : Inv X pins σ (upd H s.heap.objs.size (.tup [.int (i : Nat), x])) { s with heap := h'', toks := tk + 1 } :=
      I.turnedNew (ch := [e, it]) (fun b ob hb q => (sb.2 b (fun z => hb (by simp [z]))).trans (hk b ob (fun z => hb (by simp [z])) (fun z => hb (by simp [z])) q)) hf (Nat.le_refl _) new
    refine ⟨.ref s.heap.objs.size, _, I1, rfl, ⟨_, x, rfl, I.hok.fresh (Nat.le_refl _), rfl, fun ys hy => by rw [I.tuple_inj hy hq]; exact hx⟩, ⟨⟨x', ?_⟩, hst'.1.at fun o q => (sb.2 it (Ne.symm hne)).trans q, hne, hea, hai⟩, fun b hb => ?_⟩
    · have e1 : ((i + 1 : Nat) : Int) = (i : Int) + 1 := by omega
      rw [e1]; exact he'
    · have hb' : b < s.heap.objs.size := by
        have e' : b = e ∨ b = it := by simpa using hb
        rcases e' with z | z
        · rw [z]; exact hel
        · rw [z]; exact hil
      rw [upd_ne (Nat.ne_of_lt hb')]
      exact (hf b hb).1
  done := by
    intro X hP hw hK hc i pins s σ H E I hf st hg
    subst hP hw hK
    obtain ⟨⟨old, he⟩, hit, hne, hea, hai⟩ := st
    obtain ⟨xs, hq, hx⟩ := hg
    obtain ⟨its, rv, p, hz⟩ := I.tuple hq
    obtain ⟨f0, f1, f2, f3, f4, f5⟩ := hf it (by simp)
    have hl := rv.length
    have hn : its.toArray.size = i := by simp; omega
    have hh := I.ok.hd hc
    exact wpAny_pyNext_enum_endD (fp := [it, a]) (n := its.toArray.size) (P := fun i v => its.toArray[i]? = some v) (St := fun i h => h.IsTupleIter it a i ∧ h.IsTuple a its.toArray) (Draws.tuple (by first | exact hh | simpa using hh) it a hai its.toArray) he (by rw [hn]; exact ⟨hit, p⟩) fun h' eb => ⟨rfl, I.turned (t' := s.toks) (fun b o hb q => eb b o hb q) f0 f1 f3 f4 f5⟩
  self := fun A i s Q E st h => let ⟨⟨_, he⟩, _⟩ := st; wpAny_pyIter_enum he h
def iEnumT (K : PySem.W.Frag) (ta : TA) : TI := fun σ H R => ta σ H fun vs H1 => ∃ a xs, vs = [.ref a] ∧ SqT K H1 a xs ∧ R (IteT K a) H1
theorem pi_enumT {X : Cx} {e : Expr} {ta : TA} {p pos tpos : Pos} {elts : List Expr} {kk : Nat} (hg : Gl X "enumerate") (hm : X.mg "enumerate" = none) (ha : PA X [e] ta) (hs : starEach [e] X.env = [(false, eval e X.env)] := by rfl) :
    PI X (.Tuple elts kk tpos) (.Call (.Name "enumerate" p) [e] [] pos) (iEnumT X.K ta) := by
  refine ⟨fun pins s σ H R I h => ?_⟩
  refine Call_ (ld_blt I hg hm boot_enumerate (PyProof.Rows.callWith_type1 (thn (ha.run pos pins s σ H _ I h) fun us s1 ⟨vs, H1, I1, r1, q1⟩ => ?_) hs rfl))
  obtain ⟨a, xs, ex, hq, q⟩ := q1
  subst ex
  cases r1 with
  | cons r rr =>
    cases rr
    cases r
    obtain ⟨its, rv, p', hz⟩ := I1.tuple hq
    have hal : a < s1.heap.objs.size := by obtain ⟨o, e, _⟩ := p'; exact Heap.lt_size e
    refine call_enumT p' fun h' he hit hsz hk => wpAny_pyIter_enum he ?_
    have I2 : Inv X pins σ H1 { s1 with heap := h' } := I1.kept (t' := s1.toks) hk
    refine ⟨s1.heap.objs.size + 1, [s1.heap.objs.size + 1, s1.heap.objs.size], _, _, H1, rfl, I2, turn_enumT a (s1.heap.objs.size + 1) s1.heap.objs.size, ⟨⟨.none, he⟩, hit, Nat.succ_ne_self _, Nat.ne_of_gt (Nat.lt_succ_of_lt hal), Nat.ne_of_lt hal⟩, fun b hb => ?_, q⟩
    have e' : b = s1.heap.objs.size + 1 ∨ b = s1.heap.objs.size := by simpa using hb
    have hle : s1.heap.objs.size ≤ b := by
      rcases e' with z | z
      · rw [z]; exact Nat.le_add_right _ _
      · rw [z]; exact Nat.le_refl _
    exact I1.fpOk hle (I1.hok.fresh hle)
end DZ
namespace DL
open PySem PySem.Spec PyProof.Rows L2
section
variable {X : Cx} {tg e e2 : Expr} {τ τa τb : TD} {pos p tpos : Pos} {elts : List Expr} {kk : Nat} {x : Str}
theorem walk_enumT {K : PySem.W.Frag} {a : Addr} {xs : List V} : Walk (DZ.IteT K a) xs.length (fun H => SqT K H a xs) (YPair (fun i => some (.int (i : Nat))) (fun i => xs[i]?)) := by
  refine ⟨fun i _ hi q => ⟨xs, xs[i], q, by simp [hi]⟩, fun _ q => ⟨xs, q, rfl⟩, fun i H v H' _ q y => ?_⟩
  obtain ⟨T, x, h1, h2, h3, h4⟩ := y
  exact ⟨T, .int (i : Nat), x, h1, h2, h3, rfl, h4 xs q⟩
def enmTK (k : List D → Rho → Prop) : KE := fun d ρ' => match d with
  | .tup ds => k (enumD ds) ρ'
  | _ => False
def iEnmT (τ : TD) : TDi := fun ρ kx k => τ ρ kx (enmTK k)
theorem id_enumT (hg : Gl X "enumerate") (hm : X.mg "enumerate" = none) (h : PEd X e τ) (hs : starEach [e] X.env = [(false, eval e X.env)] := by rfl) : PId X (.Tuple elts kk tpos) (.Call (.Name "enumerate" p) [e] [] pos) (iEnmT τ) :=
  ⟨⟨_, DZ.pi_enumT hg hm (pa_cons h.p pa_nil hs) hs, fun σ H R W F ρ kx k tk Rp hτ hR => ⟨W, F, ρ, kx, _, tk, Rp, hτ, fun d ρ1 v1 H1 W1 h1 le1 R1 d1 => by
    cases d <;> try exact h1.elim
    rename_i ds
    simp only [DV] at d1
    obtain ⟨a, vs, rfl, g, l, dv⟩ := d1
    have hl := dvs_len dv
    have el : (enumD ds).length = vs.length := by unfold enumD; rw [List.length_mapIdx, hl]
    refine ⟨a, vs, rfl, seqT_mono R1.w.g g, hR _ ρ1 H1 W1 _ h1 le1 R1 ⟨by rw [el]; exact l, (fun H => SqT X.K H a vs), _, by rw [el]; exact walk_enumT, fun H2 s2 => seqT_mono s2 g, fun i H2 H3 x W2 F2 σ2 ρ2 hi le2 R2 y => ?_⟩⟩
    obtain ⟨d, hd⟩ : ∃ d, ds[i]? = some d := ⟨ds[i]'(by omega), by simp⟩
    obtain ⟨W3, le3, R3, d3⟩ := yPairD R2 y (da := .int (i : Nat)) (db := d) (fun w e => by cases e; simp only [DV]) (fun w e => by
      obtain ⟨d', hd', dd⟩ := dvs_getV dv e
      rw [hd] at hd'
      cases hd'
      exact dd.mono le2)
    exact ⟨_, W3, by unfold enumD; rw [List.getElem?_mapIdx, hd]; rfl, le3, R3, d3⟩⟩⟩⟩
theorem x_enmT {ρ : Rho} {kx : KX} {k : List D → Rho → Prop} (h : τ ρ kx (enmTK k)) : iEnmT τ ρ kx k := h
theorem x_enmTK {ρ : Rho} {k : List D → Rho → Prop} {ds : List D} (h : k (enumD ds) ρ) : enmTK k (.tup ds) ρ := h
theorem enumD_map {α : Type} (f : α → D) (l : List α) : enumD (l.map f) = l.zipIdx.map fun p => pairD (.int (p.2 : Nat)) (f p.1) := by
  unfold enumD
  apply List.ext_getElem?
  intro i
  rw [List.getElem?_mapIdx, List.getElem?_map, List.getElem?_map, List.getElem?_zipIdx]
  cases l[i]? <;> simp
theorem zipIdx_mem {α : Type} {l : List α} {p : α × Nat} (h : p ∈ l.zipIdx) : l[p.2]? = some p.1 := by
  obtain ⟨a, i⟩ := p
  exact List.mk_mem_zipIdx_iff_getElem?.mp h
end
end DL
set_option maxHeartbeats 4000000
/-! DL26: index and count of lists and tuples with flat items. -/
namespace DL
open PySem PySem.Spec PyProof.Rows L2
/-! by data -/
abbrev GQ := List D → D → (D → Prop) → Prop
section
variable {X : Cx} {o e : Expr} {es : List Expr} {τ : TD} {τs : TDa} {name : Str} {apos cpos p : Pos} {x : Str} {id : String} {r : V → List V → Hp → VK → Prop} {g : GQ}
def mvK (g : GQ) (k : KE) (d : D) : List D → Rho → Prop := fun as ρ2 => match d, as with
  | .lst ds, [x] => g ds x fun z => k z ρ2
  | _, _ => False
def mvtK (g : GQ) (k : KE) (d : D) : List D → Rho → Prop := fun as ρ2 => match d, as with
  | .ptp ds, [x] => g ds x fun z => k z ρ2
  | _, _ => False
def isLst (d : D) : Prop := ∃ ds, d = .lst ds
def isPtp (d : D) : Prop := ∃ ds, d = .ptp ds
def dMv (g : GQ) (τ : TD) (τs : TDa) : TD := fun ρ kx k => τ ρ kx fun d ρ1 => isLst d ∧ τs ρ1 kx (mvK g k d)
def dMvT (g : GQ) (τ : TD) (τs : TDa) : TD := fun ρ kx k => τ ρ kx fun d ρ1 => isPtp d ∧ τs ρ1 kx (mvtK g k d)
end
/-! steps -/
section
variable {ρ ρ' : Rho} {kx : KX} {k : KE} {kd : D → Prop} {τ : TD} {τs : TDa} {g : GQ} {ds : List D} {d : D}
theorem x_mv (h : τ ρ kx fun d ρ1 => isLst d ∧ τs ρ1 kx (mvK g k d)) : dMv g τ τs ρ kx k := h
theorem x_mvT (h : τ ρ kx fun d ρ1 => isPtp d ∧ τs ρ1 kx (mvtK g k d)) : dMvT g τ τs ρ kx k := h
theorem x_isLst {A : Prop} (h : A) : isLst (.lst ds) ∧ A := ⟨⟨ds, rfl⟩, h⟩
theorem x_isPtp {A : Prop} (h : A) : isPtp (.ptp ds) ∧ A := ⟨⟨ds, rfl⟩, h⟩
theorem x_mvK (h : g ds d fun z => k z ρ) : mvK g k (.lst ds) [d] ρ := h
theorem x_mvtK (h : g ds d fun z => k z ρ) : mvtK g k (.ptp ds) [d] ρ := h
theorem x_gaddI {i j : Int} (h : kd (.int (i + j))) : gAddI (.int i) (.int j) kd := ⟨trivial, h⟩
def setVK (i : Nat) (n : Rho → Prop) (ρ : Rho) : D → Prop := fun z => n (ρ.set i (.val z))
def augK (i : Nat) (d : D) (g : G2) (n : Rho → Prop) : KE := fun y ρ1 => ρ1[i]? = some (.val d) ∧ g d y (setVK i n ρ1)
theorem x_aug {i : Nat} {g : G2} {n b c : Rho → Prop} {r : D → Rho → Prop} (e : ρ[i]? = some (.val d)) (h : τ ρ kx (augK i d g n)) : sAug i g τ ρ kx ⟨n, r, b, c⟩ := ⟨d, e, h⟩
theorem x_augK {i : Nat} {g : G2} {n : Rho → Prop} {y : D} (e : ρ[i]? = some (.val d)) (h : g d y (setVK i n ρ)) : augK i d g n y ρ := ⟨e, h⟩
theorem x_setVK {i : Nat} {n : Rho → Prop} (e : ρ.set i (.val d) = ρ') (h : n ρ') : setVK i n ρ d := by unfold setVK; rw [e]; exact h
def augIxL (i : Nat) (ds : List D) (d : D) (j : Nat) (g : G2) (n : Rho → Prop) : KE := fun y ρ2 => ρ2[i]? = some (.own ds) ∧ g d y fun z => n (ρ2.set i (.own (ds.set j z)))
def augIxK (i : Nat) (g : G2) (τ : TD) (kx : KX) (n : Rho → Prop) : KE := fun j ρ1 => ∃ m ds d, j = .int m ∧ ρ1[i]? = some (.own ds) ∧ 0 ≤ m ∧ ds[m.toNat]? = some d ∧ τ ρ1 kx (augIxL i ds d m.toNat g n)
theorem x_augIx {i : Nat} {τi : TD} {g : G2} {n b c : Rho → Prop} {r : D → Rho → Prop} (e : ρ[i]? = some (.own ds)) (h : τi ρ kx (augIxK i g τ kx n)) : sAugIx i τi g τ ρ kx ⟨n, r, b, c⟩ := ⟨⟨ds, e⟩, h⟩
end
end DL
set_option maxHeartbeats 4000000
/-! DL27: common lemmas of the plain laws. -/
namespace CS
open PySem PySem.Spec PyProof.Rows L2 DL
end CS
set_option maxHeartbeats 4000000
namespace CS
open PySem PySem.Spec PyProof.Rows L2 DL
local macro_rules | `(tactic| sizeOf_list_dec) => `(tactic| with_reducible first
  | (refine x_varP (by with_unfolding_all rfl) ?_) | (refine x_var (by with_unfolding_all rfl) ?_) | (refine x_varS (by with_unfolding_all rfl) ?_)
  | (refine x_C ?_) | (refine x_op ?_) | (refine x_un ?_) | (refine x_sub ?_)
  | (refine x_mul (by first | with_unfolding_all decide | (unfold CMul; omega)) ?_) | (refine x_mult (by first | with_unfolding_all decide | (unfold CMul; omega)) ?_)
  | (refine x_div (by unfold CDivN; omega) ?_) | (refine x_mod (by omega) ?_) | (refine x_add ?_) | (refine x_lt ?_) | (refine x_ltI ?_) | (refine x_leI ?_) | (refine x_gtI ?_) | (refine x_geI ?_)
  | (refine x_is ?_) | (refine x_notis ?_) | (refine x_neg ?_) | (refine x_eqI ?_) | (refine x_neI ?_)
  | (refine x_dtestK ?_) | (refine x_testK ?_) | (refine x_and ?_) | (refine x_or ?_) | (refine x_not ?_) | (refine x_dif ?_)
  | (refine x_T ?_) | (refine x_F ?_) | (refine x_nT ?_) | (refine x_nF ?_)
  | (refine x_nil ?_) | (refine x_cons ?_) | (refine x_cntK ?_) | (refine x_lens (by with_unfolding_all rfl) ?_)
  | (refine x_tupK ?_) | (refine x_tupD (by first | with_unfolding_all decide | (simp only [BIG, List.length_cons, List.length_nil]; omega)) ?_) | (refine x_tupPD (by first | with_unfolding_all decide | (simp only [BIG, List.length_cons, List.length_nil]; omega)) ?_) | (refine x_lstK ?_) | (refine x_lstD (by first | with_unfolding_all decide | (simp only [BIG, List.length_cons, List.length_nil]; omega)) ?_)
  | (refine x_dct ?_) | (refine x_fzS ?_) | (refine x_fzOwn ?_) | (refine x_val ?_)
  | (refine x_callK ?_) | (refine x_callD (by first | (dsimp only [pickD_cons, pickD_nil, List.cons_append, List.nil_append, List.append_nil, gD0, gDs]; done) | (dsimp only [pickD_cons, pickD_nil, List.cons_append, List.nil_append, List.append_nil, gD0, gDs]; exact rfl)) ?_)
  | (refine x_bc ?_) | (refine x_min2 ?_) | (refine x_max2 ?_)
  | (refine x_seq ?_) | (refine x_next ?_) | (refine x_brk ?_) | (refine x_cont ?_) | (refine x_drop ?_) | (refine x_ret ?_) | (refine x_retN ?_) | (refine x_if ?_)
  | (refine x_asgK ?_) | (refine x_setK (by first | (dsimp only [List.set_cons_zero, List.set_cons_succ]; done) | (dsimp only [List.set_cons_zero, List.set_cons_succ]; exact rfl)) ?_)
  | (refine x_asgT ?_) | (refine x_gN (by first | (dsimp only [List.set_cons_zero, List.set_cons_succ]; done) | (dsimp only [List.set_cons_zero, List.set_cons_succ]; exact rfl)) ?_) | (refine x_gsN ?_) | (refine x_gsC ?_) | (refine x_gT (by with_unfolding_all rfl) ?_)
  | (refine x_mNil ?_) | (refine x_mCons ?_) | (refine x_parK ?_) | (refine x_parD (by with_unfolding_all rfl) (by first | (dsimp only [setS, List.set_cons_zero, List.set_cons_succ]; done) | (dsimp only [setS, List.set_cons_zero, List.set_cons_succ]; exact rfl)) ?_)
  | (refine x_for ?_) | (refine x_rg1 ?_) | (refine x_rg2 ?_) | (refine x_rg1K (by omega) ?_) | (refine x_rg2K (by omega) ?_)
  | (refine x_andV ?_) | (refine x_orV ?_) | (refine x_notV ?_) | (refine x_andK ?_) | (refine x_orK ?_) | (refine x_notK ?_)
  | (refine x_addI ?_) | (refine x_ixL (by with_unfolding_all rfl) ?_) | (refine x_ixT (by with_unfolding_all rfl) ?_) | (refine x_slT ?_) | (refine x_oNo ?_) | (refine x_oInt ?_) | (refine x_oIntK ?_)
  | (refine x_vbc ?_) | (refine x_lenT ?_) | (refine x_lenL ?_) | (refine x_lenO1 (by with_unfolding_all rfl) ?_) | (refine x_lenO2 ?_) | (refine x_ixO1 (by with_unfolding_all rfl) ?_) | (refine x_ixO2 ?_)
  | (refine x_mt (by with_unfolding_all rfl) ?_) | (refine x_fld ?_) | (refine x_fldS ?_) | (refine x_fldP (by with_unfolding_all rfl) ?_) | (refine x_fldSK (by with_unfolding_all rfl) ?_) | (refine x_fldK (by with_unfolding_all rfl) ?_) | (refine x_selfS ?_)
  | (refine x_selfK (by with_unfolding_all rfl) (by with_unfolding_all decide) (by first | (dsimp only [List.set_cons_zero, List.set_cons_succ, List.cons_append, List.nil_append]; done) | (dsimp only [List.set_cons_zero, List.set_cons_succ, List.cons_append, List.nil_append]; exact rfl)) ?_)
  | (refine x_endI (by with_unfolding_all rfl) ?_) | (refine x_lenI ?_) | (refine x_lenK2 ?_) | (refine x_isi_NoneType_int ?_) | (refine x_isi_NoneType_bool ?_) | (refine x_isi_NoneType_str ?_) | (refine x_isi_NoneType_tuple ?_) | (refine x_isi_NoneType_list ?_) | (refine x_isi_bool_int ?_) | (refine x_isi_bool_bool ?_) | (refine x_isi_bool_str ?_) | (refine x_isi_bool_tuple ?_) | (refine x_isi_bool_list ?_) | (refine x_isi_int_int ?_) | (refine x_isi_int_bool ?_) | (refine x_isi_int_str ?_) | (refine x_isi_int_tuple ?_) | (refine x_isi_int_list ?_) | (refine x_isi_str_int ?_) | (refine x_isi_str_bool ?_) | (refine x_isi_str_str ?_) | (refine x_isi_str_tuple ?_) | (refine x_isi_str_list ?_) | (refine x_isi_tuple_int ?_) | (refine x_isi_tuple_bool ?_) | (refine x_isi_tuple_str ?_) | (refine x_isi_tuple_tuple ?_) | (refine x_isi_tuple_list ?_) | (refine x_isi_list_int ?_) | (refine x_isi_list_bool ?_) | (refine x_isi_list_str ?_) | (refine x_isi_list_tuple ?_) | (refine x_isi_list_list ?_)
  | (refine x_tupleT ?_) | (refine x_sumT ?_) | (refine x_sumL ?_) | (refine x_allL ?_) | (refine x_intI ?_) | (refine x_intB ?_) | (refine x_abs ?_) | (refine x_divmod (by omega) ?_)
  | (refine x_lcS ?_) | (refine x_lcK (by with_unfolding_all rfl) (by first | (dsimp only [wipeR, List.set_cons_zero, List.set_cons_succ]; done) | (dsimp only [wipeR, List.set_cons_zero, List.set_cons_succ]; exact rfl)) ?_) | (refine x_iseqS ?_) | (refine x_iseqD ?_) | (refine x_itupS ?_) | (refine x_itupD ?_) | (refine x_chain ?_) | (refine x_chK ?_)
  | (refine x_rgL1 ?_) | (refine x_rgL2 ?_) | (refine x_rg1LK (by omega) ?_) | (refine x_rg2LK (by omega) ?_)
  | (refine x_sfz (by first | (simp only [fzR, S.toD, List.getElem?_cons_zero, List.getElem?_cons_succ, List.set_cons_zero, List.set_cons_succ]; done) | (simp only [fzR, S.toD, List.getElem?_cons_zero, List.getElem?_cons_succ, List.set_cons_zero, List.set_cons_succ]; exact rfl)) ?_)
  | (refine x_mv ?_) | (refine x_mvT ?_) | (refine x_isLst ?_) | (refine x_isPtp ?_) | (refine x_mvK ?_) | (refine x_mvtK ?_)
  | (refine x_zpS ?_) | (refine x_zp ?_) | (refine x_zpNT ?_) | (refine x_zpNL ?_) | (refine x_enm ?_) | (refine x_enmK ?_) | (refine x_enmT ?_) | (refine x_enmTK ?_) | (refine x_gTp (by with_unfolding_all rfl) ?_))
/-! given by hand, hole by hole -/
theorem atI_nat {ds : List D} {j : Nat} {d : D} (h : ds[j]? = some d) : atI ds (j : Nat) = some d := by
  have hl := (List.getElem?_eq_some_iff.mp h).1
  unfold atI ixN
  rw [if_pos (by omega), if_pos (by omega)]
  simpa using h
end CS
set_option maxHeartbeats 4000000
namespace CS
open PySem PySem.Spec PyProof.Rows L2 DL
local macro_rules | `(tactic| sizeOf_list_dec) => `(tactic| with_reducible first
  | (refine x_varP (by with_unfolding_all rfl) ?_) | (refine x_var (by with_unfolding_all rfl) ?_) | (refine x_varS (by with_unfolding_all rfl) ?_)
  | (refine x_C ?_) | (refine x_op ?_) | (refine x_un ?_) | (refine x_sub ?_)
  | (refine x_mul (by first | with_unfolding_all decide | (unfold CMul; omega)) ?_) | (refine x_mult (by first | with_unfolding_all decide | (unfold CMul; omega)) ?_)
  | (refine x_div (by unfold CDivN; omega) ?_) | (refine x_mod (by omega) ?_) | (refine x_add ?_) | (refine x_lt ?_) | (refine x_ltI ?_) | (refine x_leI ?_) | (refine x_gtI ?_) | (refine x_geI ?_)
  | (refine x_is ?_) | (refine x_notis ?_) | (refine x_neg ?_) | (refine x_eqI ?_) | (refine x_neI ?_)
  | (refine x_dtestK ?_) | (refine x_testK ?_) | (refine x_and ?_) | (refine x_or ?_) | (refine x_not ?_) | (refine x_dif ?_)
  | (refine x_T ?_) | (refine x_F ?_) | (refine x_nT ?_) | (refine x_nF ?_)
  | (refine x_nil ?_) | (refine x_cons ?_) | (refine x_cntK ?_) | (refine x_lens (by with_unfolding_all rfl) ?_)
  | (refine x_tupK ?_) | (refine x_tupD (by first | with_unfolding_all decide | (simp only [BIG, List.length_cons, List.length_nil]; omega)) ?_) | (refine x_tupPD (by first | with_unfolding_all decide | (simp only [BIG, List.length_cons, List.length_nil]; omega)) ?_) | (refine x_lstK ?_) | (refine x_lstD (by first | with_unfolding_all decide | (simp only [BIG, List.length_cons, List.length_nil]; omega)) ?_)
  | (refine x_dct ?_) | (refine x_fzS ?_) | (refine x_fzOwn ?_) | (refine x_val ?_)
  | (refine x_callK ?_) | (refine x_callD (by first | (dsimp only [pickD_cons, pickD_nil, List.cons_append, List.nil_append, List.append_nil, gD0, gDs]; done) | (dsimp only [pickD_cons, pickD_nil, List.cons_append, List.nil_append, List.append_nil, gD0, gDs]; exact rfl)) ?_)
  | (refine x_bc ?_) | (refine x_min2 ?_) | (refine x_max2 ?_)
  | (refine x_seq ?_) | (refine x_next ?_) | (refine x_brk ?_) | (refine x_cont ?_) | (refine x_drop ?_) | (refine x_ret ?_) | (refine x_retN ?_) | (refine x_if ?_)
  | (refine x_asgK ?_) | (refine x_setK (by first | (dsimp only [List.set_cons_zero, List.set_cons_succ]; done) | (dsimp only [List.set_cons_zero, List.set_cons_succ]; exact rfl)) ?_)
  | (refine x_asgT ?_) | (refine x_gN (by first | (dsimp only [List.set_cons_zero, List.set_cons_succ]; done) | (dsimp only [List.set_cons_zero, List.set_cons_succ]; exact rfl)) ?_) | (refine x_gsN ?_) | (refine x_gsC ?_) | (refine x_gT (by with_unfolding_all rfl) ?_)
  | (refine x_mNil ?_) | (refine x_mCons ?_) | (refine x_parK ?_) | (refine x_parD (by with_unfolding_all rfl) (by first | (dsimp only [setS, List.set_cons_zero, List.set_cons_succ]; done) | (dsimp only [setS, List.set_cons_zero, List.set_cons_succ]; exact rfl)) ?_)
  | (refine x_for ?_) | (refine x_rg1 ?_) | (refine x_rg2 ?_) | (refine x_rg1K (by omega) ?_) | (refine x_rg2K (by omega) ?_)
  | (refine x_andV ?_) | (refine x_orV ?_) | (refine x_notV ?_) | (refine x_andK ?_) | (refine x_orK ?_) | (refine x_notK ?_)
  | (refine x_addI ?_) | (refine x_ixL (by with_unfolding_all rfl) ?_) | (refine x_ixT (by with_unfolding_all rfl) ?_) | (refine x_slT ?_) | (refine x_oNo ?_) | (refine x_oInt ?_) | (refine x_oIntK ?_)
  | (refine x_vbc ?_) | (refine x_lenT ?_) | (refine x_lenL ?_) | (refine x_lenO1 (by with_unfolding_all rfl) ?_) | (refine x_lenO2 ?_) | (refine x_ixO1 (by with_unfolding_all rfl) ?_) | (refine x_ixO2 ?_)
  | (refine x_mt (by with_unfolding_all rfl) ?_) | (refine x_fld ?_) | (refine x_fldS ?_) | (refine x_fldP (by with_unfolding_all rfl) ?_) | (refine x_fldSK (by with_unfolding_all rfl) ?_) | (refine x_fldK (by with_unfolding_all rfl) ?_) | (refine x_selfS ?_)
  | (refine x_selfK (by with_unfolding_all rfl) (by with_unfolding_all decide) (by first | (dsimp only [List.set_cons_zero, List.set_cons_succ, List.cons_append, List.nil_append]; done) | (dsimp only [List.set_cons_zero, List.set_cons_succ, List.cons_append, List.nil_append]; exact rfl)) ?_)
  | (refine x_endI (by with_unfolding_all rfl) ?_) | (refine x_lenI ?_) | (refine x_lenK2 ?_) | (refine x_isi_NoneType_int ?_) | (refine x_isi_NoneType_bool ?_) | (refine x_isi_NoneType_str ?_) | (refine x_isi_NoneType_tuple ?_) | (refine x_isi_NoneType_list ?_) | (refine x_isi_bool_int ?_) | (refine x_isi_bool_bool ?_) | (refine x_isi_bool_str ?_) | (refine x_isi_bool_tuple ?_) | (refine x_isi_bool_list ?_) | (refine x_isi_int_int ?_) | (refine x_isi_int_bool ?_) | (refine x_isi_int_str ?_) | (refine x_isi_int_tuple ?_) | (refine x_isi_int_list ?_) | (refine x_isi_str_int ?_) | (refine x_isi_str_bool ?_) | (refine x_isi_str_str ?_) | (refine x_isi_str_tuple ?_) | (refine x_isi_str_list ?_) | (refine x_isi_tuple_int ?_) | (refine x_isi_tuple_bool ?_) | (refine x_isi_tuple_str ?_) | (refine x_isi_tuple_tuple ?_) | (refine x_isi_tuple_list ?_) | (refine x_isi_list_int ?_) | (refine x_isi_list_bool ?_) | (refine x_isi_list_str ?_) | (refine x_isi_list_tuple ?_) | (refine x_isi_list_list ?_)
  | (refine x_tupleT ?_) | (refine x_sumT ?_) | (refine x_sumL ?_) | (refine x_allL ?_) | (refine x_intI ?_) | (refine x_intB ?_) | (refine x_abs ?_) | (refine x_divmod (by omega) ?_)
  | (refine x_lcS ?_) | (refine x_lcK (by with_unfolding_all rfl) (by first | (dsimp only [wipeR, List.set_cons_zero, List.set_cons_succ]; done) | (dsimp only [wipeR, List.set_cons_zero, List.set_cons_succ]; exact rfl)) ?_) | (refine x_iseqS ?_) | (refine x_iseqD ?_) | (refine x_itupS ?_) | (refine x_itupD ?_) | (refine x_chain ?_) | (refine x_chK ?_)
  | (refine x_rgL1 ?_) | (refine x_rgL2 ?_) | (refine x_rg1LK (by omega) ?_) | (refine x_rg2LK (by omega) ?_)
  | (refine x_sfz (by first | (simp only [fzR, S.toD, List.getElem?_cons_zero, List.getElem?_cons_succ, List.set_cons_zero, List.set_cons_succ]; done) | (simp only [fzR, S.toD, List.getElem?_cons_zero, List.getElem?_cons_succ, List.set_cons_zero, List.set_cons_succ]; exact rfl)) ?_)
  | (refine x_gaddI ?_) | (refine x_aug (by with_unfolding_all rfl) ?_) | (refine x_augK (by with_unfolding_all rfl) ?_) | (refine x_setVK (by first | (dsimp only [List.set_cons_zero, List.set_cons_succ]; done) | (dsimp only [List.set_cons_zero, List.set_cons_succ]; exact rfl)) ?_) | (refine x_augIx (by with_unfolding_all rfl) ?_)
  | (refine x_mv ?_) | (refine x_mvT ?_) | (refine x_isLst ?_) | (refine x_isPtp ?_) | (refine x_mvK ?_) | (refine x_mvtK ?_)
  | (refine x_zpS ?_) | (refine x_zp ?_) | (refine x_zpNT ?_) | (refine x_zpNL ?_) | (refine x_enm ?_) | (refine x_enmK ?_) | (refine x_enmT ?_) | (refine x_enmTK ?_) | (refine x_gTp (by with_unfolding_all rfl) ?_))
end CS
set_option maxHeartbeats 4000000
namespace CS
open PySem PySem.Spec PyProof.Rows L2 DL
local macro_rules | `(tactic| sizeOf_list_dec) => `(tactic| with_reducible first
  | (refine x_varP (by with_unfolding_all rfl) ?_) | (refine x_var (by with_unfolding_all rfl) ?_) | (refine x_varS (by with_unfolding_all rfl) ?_)
  | (refine x_C ?_) | (refine x_op ?_) | (refine x_un ?_) | (refine x_sub ?_)
  | (refine x_mul (by first | with_unfolding_all decide | (unfold CMul; omega)) ?_) | (refine x_mult (by first | with_unfolding_all decide | (unfold CMul; omega)) ?_)
  | (refine x_div (by unfold CDivN; omega) ?_) | (refine x_mod (by omega) ?_) | (refine x_add ?_) | (refine x_lt ?_) | (refine x_ltI ?_) | (refine x_leI ?_) | (refine x_gtI ?_) | (refine x_geI ?_)
  | (refine x_is ?_) | (refine x_notis ?_) | (refine x_neg ?_) | (refine x_eqI ?_) | (refine x_neI ?_)
  | (refine x_dtestK ?_) | (refine x_testK ?_) | (refine x_and ?_) | (refine x_or ?_) | (refine x_not ?_) | (refine x_dif ?_)
  | (refine x_T ?_) | (refine x_F ?_) | (refine x_nT ?_) | (refine x_nF ?_)
  | (refine x_nil ?_) | (refine x_cons ?_) | (refine x_cntK ?_) | (refine x_lens (by with_unfolding_all rfl) ?_)
  | (refine x_tupK ?_) | (refine x_tupD (by first | with_unfolding_all decide | (simp only [BIG, List.length_cons, List.length_nil]; omega)) ?_) | (refine x_tupPD (by first | with_unfolding_all decide | (simp only [BIG, List.length_cons, List.length_nil]; omega)) ?_) | (refine x_lstK ?_) | (refine x_lstD (by first | with_unfolding_all decide | (simp only [BIG, List.length_cons, List.length_nil]; omega)) ?_)
  | (refine x_dct ?_) | (refine x_fzS ?_) | (refine x_fzOwn ?_) | (refine x_val ?_)
  | (refine x_callK ?_) | (refine x_callD (by first | (dsimp only [pickD_cons, pickD_nil, List.cons_append, List.nil_append, List.append_nil, gD0, gDs]; done) | (dsimp only [pickD_cons, pickD_nil, List.cons_append, List.nil_append, List.append_nil, gD0, gDs]; exact rfl)) ?_)
  | (refine x_bc ?_) | (refine x_min2 ?_) | (refine x_max2 ?_)
  | (refine x_seq ?_) | (refine x_next ?_) | (refine x_brk ?_) | (refine x_cont ?_) | (refine x_drop ?_) | (refine x_ret ?_) | (refine x_retN ?_) | (refine x_if ?_)
  | (refine x_asgK ?_) | (refine x_setK (by first | (dsimp only [List.set_cons_zero, List.set_cons_succ]; done) | (dsimp only [List.set_cons_zero, List.set_cons_succ]; exact rfl)) ?_)
  | (refine x_asgT ?_) | (refine x_gN (by first | (dsimp only [List.set_cons_zero, List.set_cons_succ]; done) | (dsimp only [List.set_cons_zero, List.set_cons_succ]; exact rfl)) ?_) | (refine x_gsN ?_) | (refine x_gsC ?_) | (refine x_gT (by with_unfolding_all rfl) ?_)
  | (refine x_mNil ?_) | (refine x_mCons ?_) | (refine x_parK ?_) | (refine x_parD (by with_unfolding_all rfl) (by first | (dsimp only [setS, List.set_cons_zero, List.set_cons_succ]; done) | (dsimp only [setS, List.set_cons_zero, List.set_cons_succ]; exact rfl)) ?_)
  | (refine x_for ?_) | (refine x_rg1 ?_) | (refine x_rg2 ?_) | (refine x_rg1K (by omega) ?_) | (refine x_rg2K (by omega) ?_)
  | (refine x_andV ?_) | (refine x_orV ?_) | (refine x_notV ?_) | (refine x_andK ?_) | (refine x_orK ?_) | (refine x_notK ?_)
  | (refine x_addI ?_) | (refine x_ixL (by with_unfolding_all rfl) ?_) | (refine x_ixT (by with_unfolding_all rfl) ?_) | (refine x_slT ?_) | (refine x_oNo ?_) | (refine x_oInt ?_) | (refine x_oIntK ?_)
  | (refine x_vbc ?_) | (refine x_lenT ?_) | (refine x_lenL ?_) | (refine x_lenO1 (by with_unfolding_all rfl) ?_) | (refine x_lenO2 ?_) | (refine x_ixO1 (by with_unfolding_all rfl) ?_) | (refine x_ixO2 ?_)
  | (refine x_mt (by with_unfolding_all rfl) ?_) | (refine x_fld ?_) | (refine x_fldS ?_) | (refine x_fldP (by with_unfolding_all rfl) ?_) | (refine x_fldSK (by with_unfolding_all rfl) ?_) | (refine x_fldK (by with_unfolding_all rfl) ?_) | (refine x_selfS ?_)
  | (refine x_selfK (by with_unfolding_all rfl) (by with_unfolding_all decide) (by first | (dsimp only [List.set_cons_zero, List.set_cons_succ, List.cons_append, List.nil_append]; done) | (dsimp only [List.set_cons_zero, List.set_cons_succ, List.cons_append, List.nil_append]; exact rfl)) ?_)
  | (refine x_endI (by with_unfolding_all rfl) ?_) | (refine x_lenI ?_) | (refine x_lenK2 ?_) | (refine x_isi_NoneType_int ?_) | (refine x_isi_NoneType_bool ?_) | (refine x_isi_NoneType_str ?_) | (refine x_isi_NoneType_tuple ?_) | (refine x_isi_NoneType_list ?_) | (refine x_isi_bool_int ?_) | (refine x_isi_bool_bool ?_) | (refine x_isi_bool_str ?_) | (refine x_isi_bool_tuple ?_) | (refine x_isi_bool_list ?_) | (refine x_isi_int_int ?_) | (refine x_isi_int_bool ?_) | (refine x_isi_int_str ?_) | (refine x_isi_int_tuple ?_) | (refine x_isi_int_list ?_) | (refine x_isi_str_int ?_) | (refine x_isi_str_bool ?_) | (refine x_isi_str_str ?_) | (refine x_isi_str_tuple ?_) | (refine x_isi_str_list ?_) | (refine x_isi_tuple_int ?_) | (refine x_isi_tuple_bool ?_) | (refine x_isi_tuple_str ?_) | (refine x_isi_tuple_tuple ?_) | (refine x_isi_tuple_list ?_) | (refine x_isi_list_int ?_) | (refine x_isi_list_bool ?_) | (refine x_isi_list_str ?_) | (refine x_isi_list_tuple ?_) | (refine x_isi_list_list ?_)
  | (refine x_tupleT ?_) | (refine x_sumT ?_) | (refine x_sumL ?_) | (refine x_allL ?_) | (refine x_intI ?_) | (refine x_intB ?_) | (refine x_abs ?_) | (refine x_divmod (by omega) ?_)
  | (refine x_lcS ?_) | (refine x_lcK (by with_unfolding_all rfl) (by first | (dsimp only [wipeR, List.set_cons_zero, List.set_cons_succ]; done) | (dsimp only [wipeR, List.set_cons_zero, List.set_cons_succ]; exact rfl)) ?_) | (refine x_iseqS ?_) | (refine x_iseqD ?_) | (refine x_itupS ?_) | (refine x_itupD ?_) | (refine x_chain ?_) | (refine x_chK ?_)
  | (refine x_rgL1 ?_) | (refine x_rgL2 ?_) | (refine x_rg1LK (by omega) ?_) | (refine x_rg2LK (by omega) ?_)
  | (refine x_sfz (by first | (simp only [fzR, S.toD, List.getElem?_cons_zero, List.getElem?_cons_succ, List.set_cons_zero, List.set_cons_succ]; done) | (simp only [fzR, S.toD, List.getElem?_cons_zero, List.getElem?_cons_succ, List.set_cons_zero, List.set_cons_succ]; exact rfl)) ?_)
  | (refine x_gaddI ?_) | (refine x_aug (by with_unfolding_all rfl) ?_) | (refine x_augK (by with_unfolding_all rfl) ?_) | (refine x_setVK (by first | (dsimp only [List.set_cons_zero, List.set_cons_succ]; done) | (dsimp only [List.set_cons_zero, List.set_cons_succ]; exact rfl)) ?_) | (refine x_augIx (by with_unfolding_all rfl) ?_)
  | (refine x_mv ?_) | (refine x_mvT ?_) | (refine x_isLst ?_) | (refine x_isPtp ?_) | (refine x_mvK ?_) | (refine x_mvtK ?_)
  | (refine x_zpS ?_) | (refine x_zp ?_) | (refine x_zpNT ?_) | (refine x_zpNL ?_) | (refine x_enm ?_) | (refine x_enmK ?_) | (refine x_enmT ?_) | (refine x_enmTK ?_) | (refine x_gTp (by with_unfolding_all rfl) ?_))
end CS
set_option maxHeartbeats 4000000
/-! DZ5: tuple * int, the number 1 or at most 0. -/
namespace DL
open PySem PySem.Spec PyProof.Rows L2
end DL
set_option maxHeartbeats 4000000
/-! DZ6: t[::-1] of a tuple, of a list. -/
namespace DL
open PySem PySem.Spec PyProof.Rows L2
section
variable {X : Cx} {e : Expr} {τ : TD} {k : Nat} {p1 p2 p3 pos : Pos}
def revTK (k : KE) : KE := fun d ρ => match d with | .tup ds => ds.length ≤ BIG ∧ k (.tup ds.reverse) ρ | _ => False
def dRevT (τ : TD) : TD := fun ρ kx k => τ ρ kx (revTK k)
theorem x_revT {ρ : Rho} {kx : KX} {k : KE} (h : τ ρ kx (revTK k)) : dRevT τ ρ kx k := h
theorem x_revTK {ρ : Rho} {k : KE} {ds : List D} (l : ds.length ≤ BIG) (h : k (.tup ds.reverse) ρ) : revTK k (.tup ds) ρ := ⟨l, h⟩
def revLK (k : KV) : KE := fun d ρ => match d with | .lst ds => ds.length ≤ BIG ∧ k (.own ds.reverse) ρ | _ => False
def vRevL (τ : TD) : TDs := fun ρ kx k => τ ρ kx (revLK k)
theorem x_revL {ρ : Rho} {kx : KX} {k : KV} (h : τ ρ kx (revLK k)) : vRevL τ ρ kx k := h
theorem x_revLK {ρ : Rho} {k : KV} {ds : List D} (l : ds.length ≤ BIG) (h : k (.own ds.reverse) ρ) : revLK k (.lst ds) ρ := ⟨l, h⟩
end
end DL
set_option maxHeartbeats 4000000
/-! DL31: min and max of a tuple, with a default; sorted with reverse. -/
namespace DL
open PySem PySem.Spec PyProof.Rows L2 PySem.W
section
variable {X : Cx}
theorem minOf_int (x : Int) : ∀ (xs : List Int), minOf x xs ∈ x :: xs ∧ ∀ y ∈ x :: xs, minOf x xs ≤ y := by
  intro xs
  unfold minOf
  induction xs generalizing x with
  | nil => simp
  | cons z xs ih =>
    rw [List.foldl_cons]
    have hlt : (DatumOrd.lt z x = true) ↔ z < x := by
      show (decide (z < x) = true) ↔ _
      exact decide_eq_true_iff
    by_cases h : z < x
    · rw [if_pos (hlt.mpr h)]
      obtain ⟨i1, i2⟩ := ih z
      refine ⟨List.mem_cons_of_mem _ i1, fun y hy => ?_⟩
      rcases List.mem_cons.mp hy with rfl | hy
      · have := i2 z (List.mem_cons_self ..); omega
      · exact i2 y hy
    · rw [if_neg (fun q => h (hlt.mp q))]
      obtain ⟨i1, i2⟩ := ih x
      refine ⟨?_, fun y hy => ?_⟩
      · rcases List.mem_cons.mp i1 with e | e
        · rw [e]; exact List.mem_cons_self ..
        · exact List.mem_cons_of_mem _ (List.mem_cons_of_mem _ e)
      · rcases List.mem_cons.mp hy with rfl | hy
        · exact i2 _ (List.mem_cons_self ..)
        · rcases List.mem_cons.mp hy with rfl | hy
          · have := i2 x (List.mem_cons_self ..); omega
          · exact i2 y (List.mem_cons_of_mem _ hy)
theorem maxOf_int (x : Int) : ∀ (xs : List Int), maxOf x xs ∈ x :: xs ∧ ∀ y ∈ x :: xs, y ≤ maxOf x xs := by
  intro xs
  unfold maxOf
  induction xs generalizing x with
  | nil => simp
  | cons z xs ih =>
    rw [List.foldl_cons]
    have hlt : (DatumOrd.lt x z = true) ↔ x < z := by
      show (decide (x < z) = true) ↔ _
      exact decide_eq_true_iff
    by_cases h : x < z
    · rw [if_pos (hlt.mpr h)]
      obtain ⟨i1, i2⟩ := ih z
      refine ⟨List.mem_cons_of_mem _ i1, fun y hy => ?_⟩
      rcases List.mem_cons.mp hy with rfl | hy
      · have := i2 z (List.mem_cons_self ..); omega
      · exact i2 y hy
    · rw [if_neg (fun q => h (hlt.mp q))]
      obtain ⟨i1, i2⟩ := ih x
      refine ⟨?_, fun y hy => ?_⟩
      · rcases List.mem_cons.mp i1 with e | e
        · rw [e]; exact List.mem_cons_self ..
        · exact List.mem_cons_of_mem _ (List.mem_cons_of_mem _ e)
      · rcases List.mem_cons.mp hy with rfl | hy
        · exact i2 _ (List.mem_cons_self ..)
        · rcases List.mem_cons.mp hy with rfl | hy
          · have := i2 x (List.mem_cons_self ..); omega
          · exact i2 y (List.mem_cons_of_mem _ hy)
def rMinT (K : PySem.W.Frag) : List V → Hp → VK → Prop := fun vs H Q => ∃ (a : Addr) (ns : List Int), vs = [V.ref a] ∧ SqT K H a (ns.map V.int) ∧ 0 < ns.length ∧ ∀ m, m ∈ ns → (∀ y, y ∈ ns → m ≤ y) → Q (.int m) H
def rMaxT (K : PySem.W.Frag) : List V → Hp → VK → Prop := fun vs H Q => ∃ (a : Addr) (ns : List Int), vs = [V.ref a] ∧ SqT K H a (ns.map V.int) ∧ 0 < ns.length ∧ ∀ m, m ∈ ns → (∀ y, y ∈ ns → y ≤ m) → Q (.int m) H
theorem cr_minT (hc : X.calm = true) (hu : X.A.units + 64 < cLine) : CallR X (.builtin "min") (rMinT X.K) := by
  intro pins s σ H vs us Q I r h
  obtain ⟨a, ns, rfl, hs, hne, q⟩ := h
  obtain ⟨its, rv, hl, _⟩ := I.tuple hs
  rw [Vals.ref1 r]
  cases ns with
  | nil => simp at hne
  | cons x xs =>
    refine min_tuple_datum (x := x) (xs := xs) (I.ok.hd hc) hl (HoldAll.of_ints rv.ints) (by show X.A.units + 1 + 0 < cLine; omega) fun i v h' tk hi hv hk => ?_
    obtain ⟨t, rfl⟩ := int_of_holds hv
    exact ⟨.int (minOf x xs), H, I.kept hk, ⟨t, rfl⟩, q _ (minOf_int x xs).1 (minOf_int x xs).2⟩
theorem cr_maxT (hc : X.calm = true) (hu : X.A.units + 64 < cLine) : CallR X (.builtin "max") (rMaxT X.K) := by
  intro pins s σ H vs us Q I r h
  obtain ⟨a, ns, rfl, hs, hne, q⟩ := h
  obtain ⟨its, rv, hl, _⟩ := I.tuple hs
  rw [Vals.ref1 r]
  cases ns with
  | nil => simp at hne
  | cons x xs =>
    refine max_tuple_datum (x := x) (xs := xs) (I.ok.hd hc) hl (HoldAll.of_ints rv.ints) (by show X.A.units + 1 + 0 < cLine; omega) fun i v h' tk hi hv hk => ?_
    obtain ⟨t, rfl⟩ := int_of_holds hv
    exact ⟨.int (maxOf x xs), H, I.kept hk, ⟨t, rfl⟩, q _ (maxOf_int x xs).1 (maxOf_int x xs).2⟩
def cMinA : GC := fun ds k => match ds with
  | [.lst xs] => ∃ ns : List Int, xs = ns.map D.int ∧ 0 < ns.length ∧ ∀ m, m ∈ ns → (∀ y, y ∈ ns → m ≤ y) → k (.int m)
  | [.tup xs] => ∃ ns : List Int, xs = ns.map D.int ∧ 0 < ns.length ∧ ∀ m, m ∈ ns → (∀ y, y ∈ ns → m ≤ y) → k (.int m)
  | _ => False
def cMaxA : GC := fun ds k => match ds with
  | [.lst xs] => ∃ ns : List Int, xs = ns.map D.int ∧ 0 < ns.length ∧ ∀ m, m ∈ ns → (∀ y, y ∈ ns → y ≤ m) → k (.int m)
  | [.tup xs] => ∃ ns : List Int, xs = ns.map D.int ∧ 0 < ns.length ∧ ∀ m, m ∈ ns → (∀ y, y ∈ ns → y ≤ m) → k (.int m)
  | _ => False
theorem cd_minA : CallD X (fun vs H Q => rMin X.K vs H Q ∨ rMinT X.K vs H Q) cMinA := by
  intro W F H σ ρ vs ds k Q R dv hg hQ
  match ds, hg, dv with
  | [.lst xs], ⟨ns, ex, h0, hk⟩, dv =>
    exact .inl (cd_minL W F H σ ρ vs [.lst xs] k Q R dv ⟨ns, ex, h0, hk⟩ hQ)
  | [.tup xs], ⟨ns, ex, h0, hk⟩, dv =>
    subst ex
    obtain ⟨v, e, r⟩ := dvs1 dv
    simp only [DV] at r
    obtain ⟨a, us, rfl, g, l, r⟩ := r
    have := dvs_ints r
    subst this
    exact .inr ⟨a, ns, e, seqT_mono R.w.g g, h0, fun m h1 h2 => hQ _ _ H W (hk m h1 h2) (Wd.le.refl W) R (by simp only [DV])⟩
theorem cd_maxA : CallD X (fun vs H Q => rMax X.K vs H Q ∨ rMaxT X.K vs H Q) cMaxA := by
  intro W F H σ ρ vs ds k Q R dv hg hQ
  match ds, hg, dv with
  | [.lst xs], ⟨ns, ex, h0, hk⟩, dv =>
    exact .inl (cd_maxL W F H σ ρ vs [.lst xs] k Q R dv ⟨ns, ex, h0, hk⟩ hQ)
  | [.tup xs], ⟨ns, ex, h0, hk⟩, dv =>
    subst ex
    obtain ⟨v, e, r⟩ := dvs1 dv
    simp only [DV] at r
    obtain ⟨a, us, rfl, g, l, r⟩ := r
    have := dvs_ints r
    subst this
    exact .inr ⟨a, ns, e, seqT_mono R.w.g g, h0, fun m h1 h2 => hQ _ _ H W (hk m h1 h2) (Wd.le.refl W) R (by simp only [DV])⟩
theorem cr_minA {k : Nat} (hc : X.calm = true) (hr : Room k X.A) : CallR X (.builtin "min") (fun vs H Q => rMin X.K vs H Q ∨ rMinT X.K vs H Q) := (cr_min hc).or (cr_minT hc hr.units)
theorem cr_maxA {k : Nat} (hc : X.calm = true) (hr : Room k X.A) : CallR X (.builtin "max") (fun vs H Q => rMax X.K vs H Q ∨ rMaxT X.K vs H Q) := (cr_max hc).or (cr_maxT hc hr.units)
theorem x_minAL {ns : List Int} {kd : D → Prop} (h0 : 0 < ns.length) (h : ∀ m, m ∈ ns → (∀ y, y ∈ ns → m ≤ y) → kd (.int m)) : cMinA [.lst (ns.map D.int)] kd := ⟨ns, rfl, h0, h⟩
theorem x_maxAL {ns : List Int} {kd : D → Prop} (h0 : 0 < ns.length) (h : ∀ m, m ∈ ns → (∀ y, y ∈ ns → y ≤ m) → kd (.int m)) : cMaxA [.lst (ns.map D.int)] kd := ⟨ns, rfl, h0, h⟩
/-! a builtin called with keywords -/
abbrev GK := List D → List D → (D → Prop) → Prop
abbrev GKV := List D → List D → (S → Prop) → Prop
def dBK (g : GK) (τs τk : TDa) : TD := fun ρ kx k => τs ρ kx fun ds ρ1 => τk ρ1 kx fun es ρ2 => g ds es fun d => k d ρ2
def vBK (g : GKV) (τs τk : TDa) : TDs := fun ρ kx k => τs ρ kx fun ds ρ1 => τk ρ1 kx fun es ρ2 => g ds es fun s => k s ρ2
variable {x : Str} {id : String} {ks : List Str} {r : List V → List V → Hp → VK → Prop} {e : Expr} {es : List Expr} {kws : List Keyword} {τs τk : TDa} {p pos : Pos}
/-! steps -/
def bkK (τk : TDa) (kx : KX) (g : GK) (k : KE) : List D → Rho → Prop := fun ds ρ1 => τk ρ1 kx fun es ρ2 => g ds es fun d => k d ρ2
theorem x_bk {ρ : Rho} {kx : KX} {g : GK} {k : KE} (h : τs ρ kx (bkK τk kx g k)) : dBK g τs τk ρ kx k := h
theorem x_bkK {ρ : Rho} {kx : KX} {g : GK} {k : KE} {ds : List D} (h : τk ρ kx fun es ρ2 => g ds es fun d => k d ρ2) : bkK τk kx g k ds ρ := h
def bkvK (τk : TDa) (kx : KX) (g : GKV) (k : KV) : List D → Rho → Prop := fun ds ρ1 => τk ρ1 kx fun es ρ2 => g ds es fun d => k d ρ2
theorem x_bkv {ρ : Rho} {kx : KX} {g : GKV} {k : KV} (h : τs ρ kx (bkvK τk kx g k)) : vBK g τs τk ρ kx k := h
theorem x_bkvK {ρ : Rho} {kx : KX} {g : GKV} {k : KV} {ds : List D} (h : τk ρ kx fun es ρ2 => g ds es fun s => k s ρ2) : bkvK τk kx g k ds ρ := h
end
end DL
namespace DL
open PySem PySem.Spec PyProof.Rows L2
section
variable {ρ : Rho} {kx : KX} {k : KE} {kv : KV} {kd : D → Prop} {τa τb : TD} {ds es : List D}
def catL (kv : KV) (x : D) : KE := fun y ρ2 => match x, y with
  | .lst ds, .lst es => ds.length + es.length ≤ BIG ∧ kv (.own (ds ++ es)) ρ2
  | _, _ => False
def catK (τb : TD) (kx : KX) (kv : KV) : KE := fun x ρ1 => τb ρ1 kx (catL kv x)
theorem x_cat (h : τa ρ kx (catK τb kx kv)) : vCat τa τb ρ kx kv := h
theorem x_catK {x : D} (h : τb ρ kx (catL kv x)) : catK τb kx kv x ρ := h
theorem x_catL (l : ds.length + es.length ≤ BIG) (h : kv (.own (ds ++ es)) ρ) : catL kv (.lst ds) (.lst es) ρ := ⟨l, h⟩
def repL (kv : KV) (x : D) : KE := fun y ρ2 => match x, y with
  | .lst ds, .int n => -1000000 ≤ n ∧ n ≤ 1000000 ∧ ds.length * n.toNat ≤ BIG ∧ kv (.own (List.replicate n.toNat ds).flatten) ρ2
  | _, _ => False
def repK (τb : TD) (kx : KX) (kv : KV) : KE := fun x ρ1 => τb ρ1 kx (repL kv x)
theorem x_rep (h : τa ρ kx (repK τb kx kv)) : vRep τa τb ρ kx kv := h
theorem x_repK {x : D} (h : τb ρ kx (repL kv x)) : repK τb kx kv x ρ := h
theorem x_pow {i j : Int} (c : 0 ≤ j ∧ j ≤ 1000000 ∧ i.natAbs < 2 ^ 64) (h : kd (.int (i ^ j.toNat))) : gPow (.int i) (.int j) kd := ⟨c, h⟩
end
end DL
namespace CS
open PySem PySem.Spec PyProof.Rows L2 DL
end CS
set_option maxHeartbeats 4000000
namespace CS
open PySem PySem.Spec PyProof.Rows L2 DL
local macro_rules | `(tactic| sizeOf_list_dec) => `(tactic| with_reducible first
  | (refine x_varP (by with_unfolding_all rfl) ?_) | (refine x_var (by with_unfolding_all rfl) ?_) | (refine x_varS (by with_unfolding_all rfl) ?_)
  | (refine x_C ?_) | (refine x_op ?_) | (refine x_un ?_) | (refine x_sub ?_)
  | (refine x_mul (by first | with_unfolding_all decide | (unfold CMul; omega)) ?_) | (refine x_mult (by first | with_unfolding_all decide | (unfold CMul; omega)) ?_)
  | (refine x_div (by unfold CDivN; omega) ?_) | (refine x_mod (by omega) ?_) | (refine x_add ?_) | (refine x_lt ?_) | (refine x_ltI ?_) | (refine x_leI ?_) | (refine x_gtI ?_) | (refine x_geI ?_)
  | (refine x_is ?_) | (refine x_notis ?_) | (refine x_neg ?_) | (refine x_eqI ?_) | (refine x_neI ?_)
  | (refine x_dtestK ?_) | (refine x_testK ?_) | (refine x_and ?_) | (refine x_or ?_) | (refine x_not ?_) | (refine x_dif ?_)
  | (refine x_T ?_) | (refine x_F ?_) | (refine x_nT ?_) | (refine x_nF ?_)
  | (refine x_nil ?_) | (refine x_cons ?_) | (refine x_cntK ?_) | (refine x_lens (by with_unfolding_all rfl) ?_)
  | (refine x_tupK ?_) | (refine x_tupD (by first | with_unfolding_all decide | (simp only [BIG, List.length_cons, List.length_nil]; omega)) ?_) | (refine x_tupPD (by first | with_unfolding_all decide | (simp only [BIG, List.length_cons, List.length_nil]; omega)) ?_) | (refine x_lstK ?_) | (refine x_lstD (by first | with_unfolding_all decide | (simp only [BIG, List.length_cons, List.length_nil]; omega)) ?_)
  | (refine x_dct ?_) | (refine x_fzS ?_) | (refine x_fzOwn ?_) | (refine x_val ?_)
  | (refine x_callK ?_) | (refine x_callD (by first | (dsimp only [pickD_cons, pickD_nil, List.cons_append, List.nil_append, List.append_nil, gD0, gDs]; done) | (dsimp only [pickD_cons, pickD_nil, List.cons_append, List.nil_append, List.append_nil, gD0, gDs]; exact rfl)) ?_)
  | (refine x_bc ?_) | (refine x_min2 ?_) | (refine x_max2 ?_)
  | (refine x_seq ?_) | (refine x_next ?_) | (refine x_brk ?_) | (refine x_cont ?_) | (refine x_drop ?_) | (refine x_ret ?_) | (refine x_retN ?_) | (refine x_if ?_)
  | (refine x_asgK ?_) | (refine x_setK (by first | (dsimp only [List.set_cons_zero, List.set_cons_succ]; done) | (dsimp only [List.set_cons_zero, List.set_cons_succ]; exact rfl)) ?_)
  | (refine x_asgT ?_) | (refine x_gN (by first | (dsimp only [List.set_cons_zero, List.set_cons_succ]; done) | (dsimp only [List.set_cons_zero, List.set_cons_succ]; exact rfl)) ?_) | (refine x_gsN ?_) | (refine x_gsC ?_) | (refine x_gT (by with_unfolding_all rfl) ?_)
  | (refine x_mNil ?_) | (refine x_mCons ?_) | (refine x_parK ?_) | (refine x_parD (by with_unfolding_all rfl) (by first | (dsimp only [setS, List.set_cons_zero, List.set_cons_succ]; done) | (dsimp only [setS, List.set_cons_zero, List.set_cons_succ]; exact rfl)) ?_)
  | (refine x_for ?_) | (refine x_rg1 ?_) | (refine x_rg2 ?_) | (refine x_rg1K (by omega) ?_) | (refine x_rg2K (by omega) ?_)
  | (refine x_andV ?_) | (refine x_orV ?_) | (refine x_notV ?_) | (refine x_andK ?_) | (refine x_orK ?_) | (refine x_notK ?_)
  | (refine x_addI ?_) | (refine x_ixL (by with_unfolding_all rfl) ?_) | (refine x_ixT (by with_unfolding_all rfl) ?_) | (refine x_slT ?_) | (refine x_oNo ?_) | (refine x_oInt ?_) | (refine x_oIntK ?_)
  | (refine x_vbc ?_) | (refine x_lenT ?_) | (refine x_lenL ?_) | (refine x_lenO1 (by with_unfolding_all rfl) ?_) | (refine x_lenO2 ?_) | (refine x_ixO1 (by with_unfolding_all rfl) ?_) | (refine x_ixO2 ?_)
  | (refine x_mt (by with_unfolding_all rfl) ?_) | (refine x_fld ?_) | (refine x_fldS ?_) | (refine x_fldP (by with_unfolding_all rfl) ?_) | (refine x_fldSK (by with_unfolding_all rfl) ?_) | (refine x_fldK (by with_unfolding_all rfl) ?_) | (refine x_selfS ?_)
  | (refine x_selfK (by with_unfolding_all rfl) (by with_unfolding_all decide) (by first | (dsimp only [List.set_cons_zero, List.set_cons_succ, List.cons_append, List.nil_append]; done) | (dsimp only [List.set_cons_zero, List.set_cons_succ, List.cons_append, List.nil_append]; exact rfl)) ?_)
  | (refine x_endI (by with_unfolding_all rfl) ?_) | (refine x_lenI ?_) | (refine x_lenK2 ?_) | (refine x_isi_NoneType_int ?_) | (refine x_isi_NoneType_bool ?_) | (refine x_isi_NoneType_str ?_) | (refine x_isi_NoneType_tuple ?_) | (refine x_isi_NoneType_list ?_) | (refine x_isi_bool_int ?_) | (refine x_isi_bool_bool ?_) | (refine x_isi_bool_str ?_) | (refine x_isi_bool_tuple ?_) | (refine x_isi_bool_list ?_) | (refine x_isi_int_int ?_) | (refine x_isi_int_bool ?_) | (refine x_isi_int_str ?_) | (refine x_isi_int_tuple ?_) | (refine x_isi_int_list ?_) | (refine x_isi_str_int ?_) | (refine x_isi_str_bool ?_) | (refine x_isi_str_str ?_) | (refine x_isi_str_tuple ?_) | (refine x_isi_str_list ?_) | (refine x_isi_tuple_int ?_) | (refine x_isi_tuple_bool ?_) | (refine x_isi_tuple_str ?_) | (refine x_isi_tuple_tuple ?_) | (refine x_isi_tuple_list ?_) | (refine x_isi_list_int ?_) | (refine x_isi_list_bool ?_) | (refine x_isi_list_str ?_) | (refine x_isi_list_tuple ?_) | (refine x_isi_list_list ?_)
  | (refine x_tupleT ?_) | (refine x_sumT ?_) | (refine x_sumL ?_) | (refine x_allL ?_) | (refine x_intI ?_) | (refine x_intB ?_) | (refine x_abs ?_) | (refine x_divmod (by omega) ?_)
  | (refine x_lcS ?_) | (refine x_lcK (by with_unfolding_all rfl) (by first | (dsimp only [wipeR, List.set_cons_zero, List.set_cons_succ]; done) | (dsimp only [wipeR, List.set_cons_zero, List.set_cons_succ]; exact rfl)) ?_) | (refine x_iseqS ?_) | (refine x_iseqD ?_) | (refine x_itupS ?_) | (refine x_itupD ?_) | (refine x_chain ?_) | (refine x_chK ?_)
  | (refine x_rgL1 ?_) | (refine x_rgL2 ?_) | (refine x_rg1LK (by omega) ?_) | (refine x_rg2LK (by omega) ?_)
  | (refine x_sfz (by first | (simp only [fzR, S.toD, List.getElem?_cons_zero, List.getElem?_cons_succ, List.set_cons_zero, List.set_cons_succ]; done) | (simp only [fzR, S.toD, List.getElem?_cons_zero, List.getElem?_cons_succ, List.set_cons_zero, List.set_cons_succ]; exact rfl)) ?_)
  | (refine x_gaddI ?_) | (refine x_aug (by with_unfolding_all rfl) ?_) | (refine x_augK (by with_unfolding_all rfl) ?_) | (refine x_setVK (by first | (dsimp only [List.set_cons_zero, List.set_cons_succ]; done) | (dsimp only [List.set_cons_zero, List.set_cons_succ]; exact rfl)) ?_) | (refine x_augIx (by with_unfolding_all rfl) ?_)
  | (refine x_bk ?_) | (refine x_bkK ?_) | (refine x_bkv ?_) | (refine x_bkvK ?_) | (refine x_revT ?_) | (refine x_revL ?_) | (refine x_revTK (by first | with_unfolding_all decide | (simp only [BIG, List.length_cons, List.length_nil]; omega)) ?_) | (refine x_revLK (by first | with_unfolding_all decide | (simp only [BIG, List.length_cons, List.length_nil]; omega)) ?_)
  | (refine x_cat ?_) | (refine x_catK ?_) | (refine x_rep ?_) | (refine x_repK ?_) | (refine x_pow (by decide) ?_)
  | (refine x_mv ?_) | (refine x_mvT ?_) | (refine x_isLst ?_) | (refine x_isPtp ?_) | (refine x_mvK ?_) | (refine x_mvtK ?_)
  | (refine x_zpS ?_) | (refine x_zp ?_) | (refine x_zpNT ?_) | (refine x_zpNL ?_) | (refine x_enm ?_) | (refine x_enmK ?_) | (refine x_enmT ?_) | (refine x_enmTK ?_) | (refine x_gTp (by with_unfolding_all rfl) ?_))
def wd (s l : Int) : Str := if l < absI s then "over" else if absI s = l ∧ 0 < l then "last" else "open"
/-! the played out -/
theorem absL (i n : Int) : absI i ≤ n ↔ -n ≤ i ∧ i ≤ n := by unfold absI; split <;> omega
def unit1 (w : List Int) : Prop := ∀ x ∈ w, -1 ≤ x ∧ x ≤ 1
theorem unit1.cons {h : Int} {t : List Int} (u : unit1 (h :: t)) : (-1 ≤ h ∧ h ≤ 1) ∧ unit1 t := ⟨u h (List.mem_cons_self ..), fun x hx => u x (List.mem_cons_of_mem _ hx)⟩
theorem unit1.sum {t : List Int} (u : unit1 t) : absI t.sum ≤ t.length := by
  induction t with
  | nil => show absI 0 ≤ 0; decide
  | cons h t ih =>
    have := ih u.cons.2
    have := u.cons.1
    simp only [List.sum_cons, List.length_cons, absL] at *
    omega
end CS
set_option maxHeartbeats 4000000
/-! DL33: texts of numbers, f-strings. -/
namespace DL
open PySem PySem.Spec PyProof.Rows L2
theorem sok_ofString (s : String) (h : (Str.ofString s).length ≤ sizeLine) : SOk (Str.ofString s) := by
  refine ⟨h, ?_⟩
  rw [Str.ofString_eq_toList]
  show (s.toList.map Char.toNat).toArray.all (· < 0x110000) = true
  rw [List.all_toArray, List.all_map, List.all_eq_true]
  intro ch _
  show decide (ch.toNat < 1114112) = true
  have h := ch.valid
  refine decide_eq_true ?_
  rcases h with h | h
  · exact Nat.lt_trans h (by decide)
  · exact h.2
def Sm (i : Int) : Prop := -1000000000000000000 ≤ i ∧ i ≤ 1000000000000000000
theorem Sm.log {i : Int} (h : Sm i) : i.natAbs.log2 < 1920 := by
  have : i.natAbs < 2 ^ 64 := by unfold Sm at h; omega
  by_cases z : i.natAbs = 0
  · rw [z]; decide
  · exact Nat.lt_trans ((Nat.log2_lt z).mpr this) (by decide)
theorem Sm.sok {i : Int} (h : Sm i) : SOk (Str.ofString (toString i)) := sok_ofString _ (int_text_fits h.log)
theorem x_strI {i : Int} {kd : D → Prop} (b : Sm i) (h : kd (.str (Str.ofString (toString i)))) : cStr [.int i] kd := ⟨b.log, b.sok, h⟩
theorem x_strS {z : Str} {kd : D → Prop} (h : kd (.str z)) : cStr [.str z] kd := h
theorem len10 {i : Int} (h : Sm i) : (Str.ofString (toString i)).length ≤ 21 := by
  have e := int_text_length_le10 (a := i) (k := 19) (by decide) (by unfold Sm at h; omega)
  rw [PySem.ofString_length]
  omega
section
variable {X : Cx} {e : Expr} {τ : TD} {pos : Pos}
def fmtK (k : KE) : KE := fun d ρ => match d with
  | .int i => Sm i ∧ k (.str (Str.ofString (toString i))) ρ
  | .str y => k (.str y) ρ
  | _ => False
def dFmt (τ : TD) : TD := fun ρ kx k => τ ρ kx (fmtK k)
def dJs : List TD → Str → Rho → KX → (Str → Rho → Prop) → Prop
  | [], acc, ρ, _, k => k acc ρ
  | τ :: ts, acc, ρ, kx, k => τ ρ kx fun d ρ1 => ∃ y : Str, d = .str y ∧ acc.length + y.length ≤ BIG ∧ dJs ts (acc ++ y) ρ1 kx k
def dJoined (ts : List TD) : TD := fun ρ kx k => dJs ts Str.empty ρ kx fun s ρ' => k (.str s) ρ'
end
def truK (kt : Bool → Rho → Prop) : KE := fun d ρ' => ∃ b, truD d = some b ∧ kt b ρ'
theorem x_tru {τ : TD} {ρ : Rho} {kx : KX} {kt : Bool → Rho → Prop} (h : τ ρ kx (truK kt)) : dTru τ ρ kx kt := h
theorem x_truK {d : D} {b : Bool} {ρ : Rho} {kt : Bool → Rho → Prop} (e : truD d = some b) (h : kt b ρ) : truK kt d ρ := ⟨b, e, h⟩
/-! steps -/
section
variable {ρ : Rho} {kx : KX} {k : KE} {τ : TD} {ts : List TD} {kj : Str → Rho → Prop}
theorem x_fmt (h : τ ρ kx (fmtK k)) : dFmt τ ρ kx k := h
theorem x_fmtI {i : Int} (b : Sm i) (h : k (.str (Str.ofString (toString i))) ρ) : fmtK k (.int i) ρ := ⟨b, h⟩
theorem x_fmtS {y : Str} (h : k (.str y) ρ) : fmtK k (.str y) ρ := h
def jK (ts : List TD) (acc : Str) (kx : KX) (kj : Str → Rho → Prop) : KE := fun d ρ1 => ∃ y : Str, d = .str y ∧ acc.length + y.length ≤ BIG ∧ dJs ts (acc ++ y) ρ1 kx kj
theorem x_joined (h : dJs ts Str.empty ρ kx fun s ρ' => k (.str s) ρ') : dJoined ts ρ kx k := h
theorem x_js0 {acc : Str} (h : kj acc ρ) : dJs [] acc ρ kx kj := h
theorem x_js {acc : Str} (h : τ ρ kx (jK ts acc kx kj)) : dJs (τ :: ts) acc ρ kx kj := h
theorem str_len_app (a b : Str) : (a ++ b).length = a.length + b.length := by
  show (a.cps ++ b.cps).size = _
  rw [Array.size_append]
  rfl
end
end DL
set_option maxHeartbeats 4000000
namespace CS
open PySem PySem.Spec PyProof.Rows L2 DL
local macro_rules | `(tactic| sizeOf_list_dec) => `(tactic| with_reducible first
  | (refine x_varP (by with_unfolding_all rfl) ?_) | (refine x_var (by with_unfolding_all rfl) ?_) | (refine x_varS (by with_unfolding_all rfl) ?_)
  | (refine x_C ?_) | (refine x_op ?_) | (refine x_un ?_) | (refine x_sub ?_)
  | (refine x_mul (by first | with_unfolding_all decide | (unfold CMul; omega)) ?_) | (refine x_mult (by first | with_unfolding_all decide | (unfold CMul; omega)) ?_)
  | (refine x_div (by unfold CDivN; omega) ?_) | (refine x_mod (by omega) ?_) | (refine x_add ?_) | (refine x_lt ?_) | (refine x_ltI ?_) | (refine x_leI ?_) | (refine x_gtI ?_) | (refine x_geI ?_)
  | (refine x_is ?_) | (refine x_notis ?_) | (refine x_neg ?_) | (refine x_eqI ?_) | (refine x_neI ?_)
  | (refine x_dtestK ?_) | (refine x_testK ?_) | (refine x_and ?_) | (refine x_or ?_) | (refine x_not ?_) | (refine x_dif ?_)
  | (refine x_T ?_) | (refine x_F ?_) | (refine x_nT ?_) | (refine x_nF ?_)
  | (refine x_nil ?_) | (refine x_cons ?_) | (refine x_cntK ?_) | (refine x_lens (by with_unfolding_all rfl) ?_)
  | (refine x_tupK ?_) | (refine x_tupD (by first | with_unfolding_all decide | (simp only [BIG, List.length_cons, List.length_nil]; omega)) ?_) | (refine x_tupPD (by first | with_unfolding_all decide | (simp only [BIG, List.length_cons, List.length_nil]; omega)) ?_) | (refine x_lstK ?_) | (refine x_lstD (by first | with_unfolding_all decide | (simp only [BIG, List.length_cons, List.length_nil]; omega)) ?_)
  | (refine x_dct ?_) | (refine x_fzS ?_) | (refine x_fzOwn ?_) | (refine x_val ?_)
  | (refine x_callK ?_) | (refine x_callD (by first | (dsimp only [pickD_cons, pickD_nil, List.cons_append, List.nil_append, List.append_nil, gD0, gDs]; done) | (dsimp only [pickD_cons, pickD_nil, List.cons_append, List.nil_append, List.append_nil, gD0, gDs]; exact rfl)) ?_)
  | (refine x_bc ?_) | (refine x_min2 ?_) | (refine x_max2 ?_)
  | (refine x_seq ?_) | (refine x_next ?_) | (refine x_brk ?_) | (refine x_cont ?_) | (refine x_drop ?_) | (refine x_ret ?_) | (refine x_retN ?_) | (refine x_if ?_)
  | (refine x_asgK ?_) | (refine x_setK (by first | (dsimp only [List.set_cons_zero, List.set_cons_succ]; done) | (dsimp only [List.set_cons_zero, List.set_cons_succ]; exact rfl)) ?_)
  | (refine x_asgT ?_) | (refine x_gN (by first | (dsimp only [List.set_cons_zero, List.set_cons_succ]; done) | (dsimp only [List.set_cons_zero, List.set_cons_succ]; exact rfl)) ?_) | (refine x_gsN ?_) | (refine x_gsC ?_) | (refine x_gT (by with_unfolding_all rfl) ?_)
  | (refine x_mNil ?_) | (refine x_mCons ?_) | (refine x_parK ?_) | (refine x_parD (by with_unfolding_all rfl) (by first | (dsimp only [setS, List.set_cons_zero, List.set_cons_succ]; done) | (dsimp only [setS, List.set_cons_zero, List.set_cons_succ]; exact rfl)) ?_)
  | (refine x_for ?_) | (refine x_rg1 ?_) | (refine x_rg2 ?_) | (refine x_rg1K (by omega) ?_) | (refine x_rg2K (by omega) ?_)
  | (refine x_andV ?_) | (refine x_orV ?_) | (refine x_notV ?_) | (refine x_andK ?_) | (refine x_orK ?_) | (refine x_notK ?_)
  | (refine x_addI ?_) | (refine x_ixL (by with_unfolding_all rfl) ?_) | (refine x_ixT (by with_unfolding_all rfl) ?_) | (refine x_slT ?_) | (refine x_oNo ?_) | (refine x_oInt ?_) | (refine x_oIntK ?_)
  | (refine x_vbc ?_) | (refine x_lenT ?_) | (refine x_lenL ?_) | (refine x_lenO1 (by with_unfolding_all rfl) ?_) | (refine x_lenO2 ?_) | (refine x_ixO1 (by with_unfolding_all rfl) ?_) | (refine x_ixO2 ?_)
  | (refine x_mt (by with_unfolding_all rfl) ?_) | (refine x_fld ?_) | (refine x_fldS ?_) | (refine x_fldP (by with_unfolding_all rfl) ?_) | (refine x_fldSK (by with_unfolding_all rfl) ?_) | (refine x_fldK (by with_unfolding_all rfl) ?_) | (refine x_selfS ?_)
  | (refine x_selfK (by with_unfolding_all rfl) (by with_unfolding_all decide) (by first | (dsimp only [List.set_cons_zero, List.set_cons_succ, List.cons_append, List.nil_append]; done) | (dsimp only [List.set_cons_zero, List.set_cons_succ, List.cons_append, List.nil_append]; exact rfl)) ?_)
  | (refine x_endI (by with_unfolding_all rfl) ?_) | (refine x_lenI ?_) | (refine x_lenK2 ?_) | (refine x_isi_NoneType_int ?_) | (refine x_isi_NoneType_bool ?_) | (refine x_isi_NoneType_str ?_) | (refine x_isi_NoneType_tuple ?_) | (refine x_isi_NoneType_list ?_) | (refine x_isi_bool_int ?_) | (refine x_isi_bool_bool ?_) | (refine x_isi_bool_str ?_) | (refine x_isi_bool_tuple ?_) | (refine x_isi_bool_list ?_) | (refine x_isi_int_int ?_) | (refine x_isi_int_bool ?_) | (refine x_isi_int_str ?_) | (refine x_isi_int_tuple ?_) | (refine x_isi_int_list ?_) | (refine x_isi_str_int ?_) | (refine x_isi_str_bool ?_) | (refine x_isi_str_str ?_) | (refine x_isi_str_tuple ?_) | (refine x_isi_str_list ?_) | (refine x_isi_tuple_int ?_) | (refine x_isi_tuple_bool ?_) | (refine x_isi_tuple_str ?_) | (refine x_isi_tuple_tuple ?_) | (refine x_isi_tuple_list ?_) | (refine x_isi_list_int ?_) | (refine x_isi_list_bool ?_) | (refine x_isi_list_str ?_) | (refine x_isi_list_tuple ?_) | (refine x_isi_list_list ?_)
  | (refine x_tupleT ?_) | (refine x_sumT ?_) | (refine x_sumL ?_) | (refine x_allL ?_) | (refine x_intI ?_) | (refine x_intB ?_) | (refine x_abs ?_) | (refine x_divmod (by omega) ?_)
  | (refine x_lcS ?_) | (refine x_lcK (by with_unfolding_all rfl) (by first | (dsimp only [wipeR, List.set_cons_zero, List.set_cons_succ]; done) | (dsimp only [wipeR, List.set_cons_zero, List.set_cons_succ]; exact rfl)) ?_) | (refine x_iseqS ?_) | (refine x_iseqD ?_) | (refine x_itupS ?_) | (refine x_itupD ?_) | (refine x_chain ?_) | (refine x_chK ?_)
  | (refine x_rgL1 ?_) | (refine x_rgL2 ?_) | (refine x_rg1LK (by omega) ?_) | (refine x_rg2LK (by omega) ?_)
  | (refine x_sfz (by first | (simp only [fzR, S.toD, List.getElem?_cons_zero, List.getElem?_cons_succ, List.set_cons_zero, List.set_cons_succ]; done) | (simp only [fzR, S.toD, List.getElem?_cons_zero, List.getElem?_cons_succ, List.set_cons_zero, List.set_cons_succ]; exact rfl)) ?_)
  | (refine x_gaddI ?_) | (refine x_aug (by with_unfolding_all rfl) ?_) | (refine x_augK (by with_unfolding_all rfl) ?_) | (refine x_setVK (by first | (dsimp only [List.set_cons_zero, List.set_cons_succ]; done) | (dsimp only [List.set_cons_zero, List.set_cons_succ]; exact rfl)) ?_) | (refine x_augIx (by with_unfolding_all rfl) ?_)
  | (refine x_strS ?_) | (refine x_strI (by first | assumption | (unfold Sm; omega)) ?_) | (refine x_fmt ?_) | (refine x_fmtS ?_) | (refine x_fmtI (by first | assumption | (unfold Sm; omega)) ?_) | (refine x_joined ?_) | (refine x_js0 ?_) | (refine x_js ?_)
  | (refine x_tru ?_) | (refine x_truK (by with_unfolding_all rfl) ?_) | (refine x_bk ?_) | (refine x_bkK ?_) | (refine x_bkv ?_) | (refine x_bkvK ?_) | (refine x_revT ?_) | (refine x_revL ?_) | (refine x_revTK (by first | with_unfolding_all decide | (simp only [BIG, List.length_cons, List.length_nil]; omega)) ?_) | (refine x_revLK (by first | with_unfolding_all decide | (simp only [BIG, List.length_cons, List.length_nil]; omega)) ?_)
  | (refine x_cat ?_) | (refine x_catK ?_) | (refine x_rep ?_) | (refine x_repK ?_) | (refine x_pow (by decide) ?_)
  | (refine x_mv ?_) | (refine x_mvT ?_) | (refine x_isLst ?_) | (refine x_isPtp ?_) | (refine x_mvK ?_) | (refine x_mvtK ?_)
  | (refine x_zpS ?_) | (refine x_zp ?_) | (refine x_zpNT ?_) | (refine x_zpNL ?_) | (refine x_enm ?_) | (refine x_enmK ?_) | (refine x_enmT ?_) | (refine x_enmTK ?_) | (refine x_gTp (by with_unfolding_all rfl) ?_))
end CS
set_option maxHeartbeats 4000000
namespace CS
open PySem PySem.Spec PyProof.Rows L2 DL
local macro_rules | `(tactic| sizeOf_list_dec) => `(tactic| with_reducible first
  | (refine x_varP (by with_unfolding_all rfl) ?_) | (refine x_var (by with_unfolding_all rfl) ?_) | (refine x_varS (by with_unfolding_all rfl) ?_)
  | (refine x_C ?_) | (refine x_op ?_) | (refine x_un ?_) | (refine x_sub ?_)
  | (refine x_mul (by first | with_unfolding_all decide | (unfold CMul; omega)) ?_) | (refine x_mult (by first | with_unfolding_all decide | (unfold CMul; omega)) ?_)
  | (refine x_div (by unfold CDivN; omega) ?_) | (refine x_mod (by omega) ?_) | (refine x_add ?_) | (refine x_lt ?_) | (refine x_ltI ?_) | (refine x_leI ?_) | (refine x_gtI ?_) | (refine x_geI ?_)
  | (refine x_is ?_) | (refine x_notis ?_) | (refine x_neg ?_) | (refine x_eqI ?_) | (refine x_neI ?_)
  | (refine x_dtestK ?_) | (refine x_testK ?_) | (refine x_and ?_) | (refine x_or ?_) | (refine x_not ?_) | (refine x_dif ?_)
  | (refine x_T ?_) | (refine x_F ?_) | (refine x_nT ?_) | (refine x_nF ?_)
  | (refine x_nil ?_) | (refine x_cons ?_) | (refine x_cntK ?_) | (refine x_lens (by with_unfolding_all rfl) ?_)
  | (refine x_tupK ?_) | (refine x_tupD (by first | with_unfolding_all decide | (simp only [BIG, List.length_cons, List.length_nil]; omega)) ?_) | (refine x_tupPD (by first | with_unfolding_all decide | (simp only [BIG, List.length_cons, List.length_nil]; omega)) ?_) | (refine x_lstK ?_) | (refine x_lstD (by first | with_unfolding_all decide | (simp only [BIG, List.length_cons, List.length_nil]; omega)) ?_)
  | (refine x_dct ?_) | (refine x_fzS ?_) | (refine x_fzOwn ?_) | (refine x_val ?_)
  | (refine x_callK ?_) | (refine x_callD (by first | (dsimp only [pickD_cons, pickD_nil, List.cons_append, List.nil_append, List.append_nil, gD0, gDs]; done) | (dsimp only [pickD_cons, pickD_nil, List.cons_append, List.nil_append, List.append_nil, gD0, gDs]; exact rfl)) ?_)
  | (refine x_bc ?_) | (refine x_min2 ?_) | (refine x_max2 ?_)
  | (refine x_seq ?_) | (refine x_next ?_) | (refine x_brk ?_) | (refine x_cont ?_) | (refine x_drop ?_) | (refine x_ret ?_) | (refine x_retN ?_) | (refine x_if ?_)
  | (refine x_asgK ?_) | (refine x_setK (by first | (dsimp only [List.set_cons_zero, List.set_cons_succ]; done) | (dsimp only [List.set_cons_zero, List.set_cons_succ]; exact rfl)) ?_)
  | (refine x_asgT ?_) | (refine x_gN (by first | (dsimp only [List.set_cons_zero, List.set_cons_succ]; done) | (dsimp only [List.set_cons_zero, List.set_cons_succ]; exact rfl)) ?_) | (refine x_gsN ?_) | (refine x_gsC ?_) | (refine x_gT (by with_unfolding_all rfl) ?_)
  | (refine x_mNil ?_) | (refine x_mCons ?_) | (refine x_parK ?_) | (refine x_parD (by with_unfolding_all rfl) (by first | (dsimp only [setS, List.set_cons_zero, List.set_cons_succ]; done) | (dsimp only [setS, List.set_cons_zero, List.set_cons_succ]; exact rfl)) ?_)
  | (refine x_for ?_) | (refine x_rg1 ?_) | (refine x_rg2 ?_) | (refine x_rg1K (by omega) ?_) | (refine x_rg2K (by omega) ?_)
  | (refine x_andV ?_) | (refine x_orV ?_) | (refine x_notV ?_) | (refine x_andK ?_) | (refine x_orK ?_) | (refine x_notK ?_)
  | (refine x_addI ?_) | (refine x_ixL (by with_unfolding_all rfl) ?_) | (refine x_ixT (by with_unfolding_all rfl) ?_) | (refine x_slT ?_) | (refine x_oNo ?_) | (refine x_oInt ?_) | (refine x_oIntK ?_)
  | (refine x_vbc ?_) | (refine x_lenT ?_) | (refine x_lenL ?_) | (refine x_lenO1 (by with_unfolding_all rfl) ?_) | (refine x_lenO2 ?_) | (refine x_ixO1 (by with_unfolding_all rfl) ?_) | (refine x_ixO2 ?_)
  | (refine x_mt (by with_unfolding_all rfl) ?_) | (refine x_fld ?_) | (refine x_fldS ?_) | (refine x_fldP (by with_unfolding_all rfl) ?_) | (refine x_fldSK (by with_unfolding_all rfl) ?_) | (refine x_fldK (by with_unfolding_all rfl) ?_) | (refine x_selfS ?_)
  | (refine x_selfK (by with_unfolding_all rfl) (by with_unfolding_all decide) (by first | (dsimp only [List.set_cons_zero, List.set_cons_succ, List.cons_append, List.nil_append]; done) | (dsimp only [List.set_cons_zero, List.set_cons_succ, List.cons_append, List.nil_append]; exact rfl)) ?_)
  | (refine x_endI (by with_unfolding_all rfl) ?_) | (refine x_lenI ?_) | (refine x_lenK2 ?_) | (refine x_isi_NoneType_int ?_) | (refine x_isi_NoneType_bool ?_) | (refine x_isi_NoneType_str ?_) | (refine x_isi_NoneType_tuple ?_) | (refine x_isi_NoneType_list ?_) | (refine x_isi_bool_int ?_) | (refine x_isi_bool_bool ?_) | (refine x_isi_bool_str ?_) | (refine x_isi_bool_tuple ?_) | (refine x_isi_bool_list ?_) | (refine x_isi_int_int ?_) | (refine x_isi_int_bool ?_) | (refine x_isi_int_str ?_) | (refine x_isi_int_tuple ?_) | (refine x_isi_int_list ?_) | (refine x_isi_str_int ?_) | (refine x_isi_str_bool ?_) | (refine x_isi_str_str ?_) | (refine x_isi_str_tuple ?_) | (refine x_isi_str_list ?_) | (refine x_isi_tuple_int ?_) | (refine x_isi_tuple_bool ?_) | (refine x_isi_tuple_str ?_) | (refine x_isi_tuple_tuple ?_) | (refine x_isi_tuple_list ?_) | (refine x_isi_list_int ?_) | (refine x_isi_list_bool ?_) | (refine x_isi_list_str ?_) | (refine x_isi_list_tuple ?_) | (refine x_isi_list_list ?_)
  | (refine x_tupleT ?_) | (refine x_sumT ?_) | (refine x_sumL ?_) | (refine x_allL ?_) | (refine x_intI ?_) | (refine x_intB ?_) | (refine x_abs ?_) | (refine x_divmod (by omega) ?_)
  | (refine x_lcS ?_) | (refine x_lcK (by with_unfolding_all rfl) (by first | (dsimp only [wipeR, List.set_cons_zero, List.set_cons_succ]; done) | (dsimp only [wipeR, List.set_cons_zero, List.set_cons_succ]; exact rfl)) ?_) | (refine x_iseqS ?_) | (refine x_iseqD ?_) | (refine x_itupS ?_) | (refine x_itupD ?_) | (refine x_chain ?_) | (refine x_chK ?_)
  | (refine x_rgL1 ?_) | (refine x_rgL2 ?_) | (refine x_rg1LK (by omega) ?_) | (refine x_rg2LK (by omega) ?_)
  | (refine x_sfz (by first | (simp only [fzR, S.toD, List.getElem?_cons_zero, List.getElem?_cons_succ, List.set_cons_zero, List.set_cons_succ]; done) | (simp only [fzR, S.toD, List.getElem?_cons_zero, List.getElem?_cons_succ, List.set_cons_zero, List.set_cons_succ]; exact rfl)) ?_)
  | (refine x_gaddI ?_) | (refine x_aug (by with_unfolding_all rfl) ?_) | (refine x_augK (by with_unfolding_all rfl) ?_) | (refine x_setVK (by first | (dsimp only [List.set_cons_zero, List.set_cons_succ]; done) | (dsimp only [List.set_cons_zero, List.set_cons_succ]; exact rfl)) ?_) | (refine x_augIx (by with_unfolding_all rfl) ?_)
  | (refine x_strS ?_) | (refine x_strI (by first | assumption | (unfold Sm; omega)) ?_) | (refine x_fmt ?_) | (refine x_fmtS ?_) | (refine x_fmtI (by first | assumption | (unfold Sm; omega)) ?_) | (refine x_joined ?_) | (refine x_js0 ?_) | (refine x_js ?_)
  | (refine x_tru ?_) | (refine x_truK (by with_unfolding_all rfl) ?_) | (refine x_bk ?_) | (refine x_bkK ?_) | (refine x_bkv ?_) | (refine x_bkvK ?_) | (refine x_revT ?_) | (refine x_revL ?_) | (refine x_revTK (by first | with_unfolding_all decide | (simp only [BIG, List.length_cons, List.length_nil]; omega)) ?_) | (refine x_revLK (by first | with_unfolding_all decide | (simp only [BIG, List.length_cons, List.length_nil]; omega)) ?_)
  | (refine x_cat ?_) | (refine x_catK ?_) | (refine x_rep ?_) | (refine x_repK ?_) | (refine x_pow (by decide) ?_)
  | (refine x_mv ?_) | (refine x_mvT ?_) | (refine x_isLst ?_) | (refine x_isPtp ?_) | (refine x_mvK ?_) | (refine x_mvtK ?_)
  | (refine x_zpS ?_) | (refine x_zp ?_) | (refine x_zpNT ?_) | (refine x_zpNL ?_) | (refine x_enm ?_) | (refine x_enmK ?_) | (refine x_enmT ?_) | (refine x_enmTK ?_) | (refine x_gTp (by with_unfolding_all rfl) ?_))
end CS
set_option maxHeartbeats 4000000
namespace CS
open PySem PySem.Spec PyProof.Rows L2 DL
local macro_rules | `(tactic| sizeOf_list_dec) => `(tactic| with_reducible first
  | (refine x_varP (by with_unfolding_all rfl) ?_) | (refine x_var (by with_unfolding_all rfl) ?_) | (refine x_varS (by with_unfolding_all rfl) ?_)
  | (refine x_C ?_) | (refine x_op ?_) | (refine x_un ?_) | (refine x_sub ?_)
  | (refine x_mul (by first | with_unfolding_all decide | (unfold CMul; omega)) ?_) | (refine x_mult (by first | with_unfolding_all decide | (unfold CMul; omega)) ?_)
  | (refine x_div (by unfold CDivN; omega) ?_) | (refine x_mod (by omega) ?_) | (refine x_add ?_) | (refine x_lt ?_) | (refine x_ltI ?_) | (refine x_leI ?_) | (refine x_gtI ?_) | (refine x_geI ?_)
  | (refine x_is ?_) | (refine x_notis ?_) | (refine x_neg ?_) | (refine x_eqI ?_) | (refine x_neI ?_)
  | (refine x_dtestK ?_) | (refine x_testK ?_) | (refine x_and ?_) | (refine x_or ?_) | (refine x_not ?_) | (refine x_dif ?_)
  | (refine x_T ?_) | (refine x_F ?_) | (refine x_nT ?_) | (refine x_nF ?_)
  | (refine x_nil ?_) | (refine x_cons ?_) | (refine x_cntK ?_) | (refine x_lens (by with_unfolding_all rfl) ?_)
  | (refine x_tupK ?_) | (refine x_tupD (by first | with_unfolding_all decide | (simp only [BIG, List.length_cons, List.length_nil]; omega)) ?_) | (refine x_tupPD (by first | with_unfolding_all decide | (simp only [BIG, List.length_cons, List.length_nil]; omega)) ?_) | (refine x_lstK ?_) | (refine x_lstD (by first | with_unfolding_all decide | (simp only [BIG, List.length_cons, List.length_nil]; omega)) ?_)
  | (refine x_dct ?_) | (refine x_fzS ?_) | (refine x_fzOwn ?_) | (refine x_val ?_)
  | (refine x_callK ?_) | (refine x_callD (by first | (dsimp only [pickD_cons, pickD_nil, List.cons_append, List.nil_append, List.append_nil, gD0, gDs]; done) | (dsimp only [pickD_cons, pickD_nil, List.cons_append, List.nil_append, List.append_nil, gD0, gDs]; exact rfl)) ?_)
  | (refine x_bc ?_) | (refine x_min2 ?_) | (refine x_max2 ?_)
  | (refine x_seq ?_) | (refine x_next ?_) | (refine x_brk ?_) | (refine x_cont ?_) | (refine x_drop ?_) | (refine x_ret ?_) | (refine x_retN ?_) | (refine x_if ?_)
  | (refine x_asgK ?_) | (refine x_setK (by first | (dsimp only [List.set_cons_zero, List.set_cons_succ]; done) | (dsimp only [List.set_cons_zero, List.set_cons_succ]; exact rfl)) ?_)
  | (refine x_asgT ?_) | (refine x_gN (by first | (dsimp only [List.set_cons_zero, List.set_cons_succ]; done) | (dsimp only [List.set_cons_zero, List.set_cons_succ]; exact rfl)) ?_) | (refine x_gsN ?_) | (refine x_gsC ?_) | (refine x_gT (by with_unfolding_all rfl) ?_)
  | (refine x_mNil ?_) | (refine x_mCons ?_) | (refine x_parK ?_) | (refine x_parD (by with_unfolding_all rfl) (by first | (dsimp only [setS, List.set_cons_zero, List.set_cons_succ]; done) | (dsimp only [setS, List.set_cons_zero, List.set_cons_succ]; exact rfl)) ?_)
  | (refine x_for ?_) | (refine x_rg1 ?_) | (refine x_rg2 ?_) | (refine x_rg1K (by omega) ?_) | (refine x_rg2K (by omega) ?_)
  | (refine x_andV ?_) | (refine x_orV ?_) | (refine x_notV ?_) | (refine x_andK ?_) | (refine x_orK ?_) | (refine x_notK ?_)
  | (refine x_addI ?_) | (refine x_ixL (by with_unfolding_all rfl) ?_) | (refine x_ixT (by with_unfolding_all rfl) ?_) | (refine x_slT ?_) | (refine x_oNo ?_) | (refine x_oInt ?_) | (refine x_oIntK ?_)
  | (refine x_vbc ?_) | (refine x_lenT ?_) | (refine x_lenL ?_) | (refine x_lenO1 (by with_unfolding_all rfl) ?_) | (refine x_lenO2 ?_) | (refine x_ixO1 (by with_unfolding_all rfl) ?_) | (refine x_ixO2 ?_)
  | (refine x_mt (by with_unfolding_all rfl) ?_) | (refine x_fld ?_) | (refine x_fldS ?_) | (refine x_fldP (by with_unfolding_all rfl) ?_) | (refine x_fldSK (by with_unfolding_all rfl) ?_) | (refine x_fldK (by with_unfolding_all rfl) ?_) | (refine x_selfS ?_)
  | (refine x_selfK (by with_unfolding_all rfl) (by with_unfolding_all decide) (by first | (dsimp only [List.set_cons_zero, List.set_cons_succ, List.cons_append, List.nil_append]; done) | (dsimp only [List.set_cons_zero, List.set_cons_succ, List.cons_append, List.nil_append]; exact rfl)) ?_)
  | (refine x_endI (by with_unfolding_all rfl) ?_) | (refine x_lenI ?_) | (refine x_lenK2 ?_) | (refine x_isi_NoneType_int ?_) | (refine x_isi_NoneType_bool ?_) | (refine x_isi_NoneType_str ?_) | (refine x_isi_NoneType_tuple ?_) | (refine x_isi_NoneType_list ?_) | (refine x_isi_bool_int ?_) | (refine x_isi_bool_bool ?_) | (refine x_isi_bool_str ?_) | (refine x_isi_bool_tuple ?_) | (refine x_isi_bool_list ?_) | (refine x_isi_int_int ?_) | (refine x_isi_int_bool ?_) | (refine x_isi_int_str ?_) | (refine x_isi_int_tuple ?_) | (refine x_isi_int_list ?_) | (refine x_isi_str_int ?_) | (refine x_isi_str_bool ?_) | (refine x_isi_str_str ?_) | (refine x_isi_str_tuple ?_) | (refine x_isi_str_list ?_) | (refine x_isi_tuple_int ?_) | (refine x_isi_tuple_bool ?_) | (refine x_isi_tuple_str ?_) | (refine x_isi_tuple_tuple ?_) | (refine x_isi_tuple_list ?_) | (refine x_isi_list_int ?_) | (refine x_isi_list_bool ?_) | (refine x_isi_list_str ?_) | (refine x_isi_list_tuple ?_) | (refine x_isi_list_list ?_)
  | (refine x_tupleT ?_) | (refine x_sumT ?_) | (refine x_sumL ?_) | (refine x_allL ?_) | (refine x_intI ?_) | (refine x_intB ?_) | (refine x_abs ?_) | (refine x_divmod (by omega) ?_)
  | (refine x_lcS ?_) | (refine x_lcK (by with_unfolding_all rfl) (by first | (dsimp only [wipeR, List.set_cons_zero, List.set_cons_succ]; done) | (dsimp only [wipeR, List.set_cons_zero, List.set_cons_succ]; exact rfl)) ?_) | (refine x_iseqS ?_) | (refine x_iseqD ?_) | (refine x_itupS ?_) | (refine x_itupD ?_) | (refine x_chain ?_) | (refine x_chK ?_)
  | (refine x_rgL1 ?_) | (refine x_rgL2 ?_) | (refine x_rg1LK (by omega) ?_) | (refine x_rg2LK (by omega) ?_)
  | (refine x_sfz (by first | (simp only [fzR, S.toD, List.getElem?_cons_zero, List.getElem?_cons_succ, List.set_cons_zero, List.set_cons_succ]; done) | (simp only [fzR, S.toD, List.getElem?_cons_zero, List.getElem?_cons_succ, List.set_cons_zero, List.set_cons_succ]; exact rfl)) ?_)
  | (refine x_gaddI ?_) | (refine x_aug (by with_unfolding_all rfl) ?_) | (refine x_augK (by with_unfolding_all rfl) ?_) | (refine x_setVK (by first | (dsimp only [List.set_cons_zero, List.set_cons_succ]; done) | (dsimp only [List.set_cons_zero, List.set_cons_succ]; exact rfl)) ?_) | (refine x_augIx (by with_unfolding_all rfl) ?_)
  | (refine x_strS ?_) | (refine x_strI (by first | assumption | (unfold Sm; omega)) ?_) | (refine x_fmt ?_) | (refine x_fmtS ?_) | (refine x_fmtI (by first | assumption | (unfold Sm; omega)) ?_) | (refine x_joined ?_) | (refine x_js0 ?_) | (refine x_js ?_)
  | (refine x_tru ?_) | (refine x_truK (by with_unfolding_all rfl) ?_) | (refine x_bk ?_) | (refine x_bkK ?_) | (refine x_bkv ?_) | (refine x_bkvK ?_) | (refine x_revT ?_) | (refine x_revL ?_) | (refine x_revTK (by first | with_unfolding_all decide | (simp only [BIG, List.length_cons, List.length_nil]; omega)) ?_) | (refine x_revLK (by first | with_unfolding_all decide | (simp only [BIG, List.length_cons, List.length_nil]; omega)) ?_)
  | (refine x_cat ?_) | (refine x_catK ?_) | (refine x_rep ?_) | (refine x_repK ?_) | (refine x_pow (by decide) ?_)
  | (refine x_mv ?_) | (refine x_mvT ?_) | (refine x_isLst ?_) | (refine x_isPtp ?_) | (refine x_mvK ?_) | (refine x_mvtK ?_)
  | (refine x_zpS ?_) | (refine x_zp ?_) | (refine x_zpNT ?_) | (refine x_zpNL ?_) | (refine x_enm ?_) | (refine x_enmK ?_) | (refine x_enmT ?_) | (refine x_enmTK ?_) | (refine x_gTp (by with_unfolding_all rfl) ?_))
end CS
set_option maxHeartbeats 4000000
namespace CS
open PySem PySem.Spec PyProof.Rows L2 DL
local macro_rules | `(tactic| sizeOf_list_dec) => `(tactic| with_reducible first
  | (refine x_varP (by with_unfolding_all rfl) ?_) | (refine x_var (by with_unfolding_all rfl) ?_) | (refine x_varS (by with_unfolding_all rfl) ?_)
  | (refine x_C ?_) | (refine x_op ?_) | (refine x_un ?_) | (refine x_sub ?_)
  | (refine x_mul (by first | with_unfolding_all decide | (unfold CMul; omega)) ?_) | (refine x_mult (by first | with_unfolding_all decide | (unfold CMul; omega)) ?_)
  | (refine x_div (by unfold CDivN; omega) ?_) | (refine x_mod (by omega) ?_) | (refine x_add ?_) | (refine x_lt ?_) | (refine x_ltI ?_) | (refine x_leI ?_) | (refine x_gtI ?_) | (refine x_geI ?_)
  | (refine x_is ?_) | (refine x_notis ?_) | (refine x_neg ?_) | (refine x_eqI ?_) | (refine x_neI ?_)
  | (refine x_dtestK ?_) | (refine x_testK ?_) | (refine x_and ?_) | (refine x_or ?_) | (refine x_not ?_) | (refine x_dif ?_)
  | (refine x_T ?_) | (refine x_F ?_) | (refine x_nT ?_) | (refine x_nF ?_)
  | (refine x_nil ?_) | (refine x_cons ?_) | (refine x_cntK ?_) | (refine x_lens (by with_unfolding_all rfl) ?_)
  | (refine x_tupK ?_) | (refine x_tupD (by first | with_unfolding_all decide | (simp only [BIG, List.length_cons, List.length_nil]; omega)) ?_) | (refine x_tupPD (by first | with_unfolding_all decide | (simp only [BIG, List.length_cons, List.length_nil]; omega)) ?_) | (refine x_lstK ?_) | (refine x_lstD (by first | with_unfolding_all decide | (simp only [BIG, List.length_cons, List.length_nil]; omega)) ?_)
  | (refine x_dct ?_) | (refine x_fzS ?_) | (refine x_fzOwn ?_) | (refine x_val ?_)
  | (refine x_callK ?_) | (refine x_callD (by first | (dsimp only [pickD_cons, pickD_nil, List.cons_append, List.nil_append, List.append_nil, gD0, gDs]; done) | (dsimp only [pickD_cons, pickD_nil, List.cons_append, List.nil_append, List.append_nil, gD0, gDs]; exact rfl)) ?_)
  | (refine x_bc ?_) | (refine x_min2 ?_) | (refine x_max2 ?_)
  | (refine x_seq ?_) | (refine x_next ?_) | (refine x_brk ?_) | (refine x_cont ?_) | (refine x_drop ?_) | (refine x_ret ?_) | (refine x_retN ?_) | (refine x_if ?_)
  | (refine x_asgK ?_) | (refine x_setK (by first | (dsimp only [List.set_cons_zero, List.set_cons_succ]; done) | (dsimp only [List.set_cons_zero, List.set_cons_succ]; exact rfl)) ?_)
  | (refine x_asgT ?_) | (refine x_gN (by first | (dsimp only [List.set_cons_zero, List.set_cons_succ]; done) | (dsimp only [List.set_cons_zero, List.set_cons_succ]; exact rfl)) ?_) | (refine x_gsN ?_) | (refine x_gsC ?_) | (refine x_gT (by with_unfolding_all rfl) ?_)
  | (refine x_mNil ?_) | (refine x_mCons ?_) | (refine x_parK ?_) | (refine x_parD (by with_unfolding_all rfl) (by first | (dsimp only [setS, List.set_cons_zero, List.set_cons_succ]; done) | (dsimp only [setS, List.set_cons_zero, List.set_cons_succ]; exact rfl)) ?_)
  | (refine x_for ?_) | (refine x_rg1 ?_) | (refine x_rg2 ?_) | (refine x_rg1K (by omega) ?_) | (refine x_rg2K (by omega) ?_)
  | (refine x_andV ?_) | (refine x_orV ?_) | (refine x_notV ?_) | (refine x_andK ?_) | (refine x_orK ?_) | (refine x_notK ?_)
  | (refine x_addI ?_) | (refine x_ixL (by with_unfolding_all rfl) ?_) | (refine x_ixT (by with_unfolding_all rfl) ?_) | (refine x_slT ?_) | (refine x_oNo ?_) | (refine x_oInt ?_) | (refine x_oIntK ?_)
  | (refine x_vbc ?_) | (refine x_lenT ?_) | (refine x_lenL ?_) | (refine x_lenO1 (by with_unfolding_all rfl) ?_) | (refine x_lenO2 ?_) | (refine x_ixO1 (by with_unfolding_all rfl) ?_) | (refine x_ixO2 ?_)
  | (refine x_mt (by with_unfolding_all rfl) ?_) | (refine x_fld ?_) | (refine x_fldS ?_) | (refine x_fldP (by with_unfolding_all rfl) ?_) | (refine x_fldSK (by with_unfolding_all rfl) ?_) | (refine x_fldK (by with_unfolding_all rfl) ?_) | (refine x_selfS ?_)
  | (refine x_selfK (by with_unfolding_all rfl) (by with_unfolding_all decide) (by first | (dsimp only [List.set_cons_zero, List.set_cons_succ, List.cons_append, List.nil_append]; done) | (dsimp only [List.set_cons_zero, List.set_cons_succ, List.cons_append, List.nil_append]; exact rfl)) ?_)
  | (refine x_endI (by with_unfolding_all rfl) ?_) | (refine x_lenI ?_) | (refine x_lenK2 ?_) | (refine x_isi_NoneType_int ?_) | (refine x_isi_NoneType_bool ?_) | (refine x_isi_NoneType_str ?_) | (refine x_isi_NoneType_tuple ?_) | (refine x_isi_NoneType_list ?_) | (refine x_isi_bool_int ?_) | (refine x_isi_bool_bool ?_) | (refine x_isi_bool_str ?_) | (refine x_isi_bool_tuple ?_) | (refine x_isi_bool_list ?_) | (refine x_isi_int_int ?_) | (refine x_isi_int_bool ?_) | (refine x_isi_int_str ?_) | (refine x_isi_int_tuple ?_) | (refine x_isi_int_list ?_) | (refine x_isi_str_int ?_) | (refine x_isi_str_bool ?_) | (refine x_isi_str_str ?_) | (refine x_isi_str_tuple ?_) | (refine x_isi_str_list ?_) | (refine x_isi_tuple_int ?_) | (refine x_isi_tuple_bool ?_) | (refine x_isi_tuple_str ?_) | (refine x_isi_tuple_tuple ?_) | (refine x_isi_tuple_list ?_) | (refine x_isi_list_int ?_) | (refine x_isi_list_bool ?_) | (refine x_isi_list_str ?_) | (refine x_isi_list_tuple ?_) | (refine x_isi_list_list ?_)
  | (refine x_tupleT ?_) | (refine x_sumT ?_) | (refine x_sumL ?_) | (refine x_allL ?_) | (refine x_intI ?_) | (refine x_intB ?_) | (refine x_abs ?_) | (refine x_divmod (by omega) ?_)
  | (refine x_lcS ?_) | (refine x_lcK (by with_unfolding_all rfl) (by first | (dsimp only [wipeR, List.set_cons_zero, List.set_cons_succ]; done) | (dsimp only [wipeR, List.set_cons_zero, List.set_cons_succ]; exact rfl)) ?_) | (refine x_iseqS ?_) | (refine x_iseqD ?_) | (refine x_itupS ?_) | (refine x_itupD ?_) | (refine x_chain ?_) | (refine x_chK ?_)
  | (refine x_rgL1 ?_) | (refine x_rgL2 ?_) | (refine x_rg1LK (by omega) ?_) | (refine x_rg2LK (by omega) ?_)
  | (refine x_sfz (by first | (simp only [fzR, S.toD, List.getElem?_cons_zero, List.getElem?_cons_succ, List.set_cons_zero, List.set_cons_succ]; done) | (simp only [fzR, S.toD, List.getElem?_cons_zero, List.getElem?_cons_succ, List.set_cons_zero, List.set_cons_succ]; exact rfl)) ?_)
  | (refine x_gaddI ?_) | (refine x_aug (by with_unfolding_all rfl) ?_) | (refine x_augK (by with_unfolding_all rfl) ?_) | (refine x_setVK (by first | (dsimp only [List.set_cons_zero, List.set_cons_succ]; done) | (dsimp only [List.set_cons_zero, List.set_cons_succ]; exact rfl)) ?_) | (refine x_augIx (by with_unfolding_all rfl) ?_)
  | (refine x_strS ?_) | (refine x_strI (by first | assumption | (unfold Sm; omega)) ?_) | (refine x_fmt ?_) | (refine x_fmtS ?_) | (refine x_fmtI (by first | assumption | (unfold Sm; omega)) ?_) | (refine x_joined ?_) | (refine x_js0 ?_) | (refine x_js ?_)
  | (refine x_tru ?_) | (refine x_truK (by with_unfolding_all rfl) ?_) | (refine x_bk ?_) | (refine x_bkK ?_) | (refine x_bkv ?_) | (refine x_bkvK ?_) | (refine x_revT ?_) | (refine x_revL ?_) | (refine x_revTK (by first | with_unfolding_all decide | (simp only [BIG, List.length_cons, List.length_nil]; omega)) ?_) | (refine x_revLK (by first | with_unfolding_all decide | (simp only [BIG, List.length_cons, List.length_nil]; omega)) ?_)
  | (refine x_cat ?_) | (refine x_catK ?_) | (refine x_rep ?_) | (refine x_repK ?_) | (refine x_pow (by decide) ?_)
  | (refine x_mv ?_) | (refine x_mvT ?_) | (refine x_isLst ?_) | (refine x_isPtp ?_) | (refine x_mvK ?_) | (refine x_mvtK ?_)
  | (refine x_zpS ?_) | (refine x_zp ?_) | (refine x_zpNT ?_) | (refine x_zpNL ?_) | (refine x_enm ?_) | (refine x_enmK ?_) | (refine x_enmT ?_) | (refine x_enmTK ?_) | (refine x_gTp (by with_unfolding_all rfl) ?_))
end CS
set_option maxHeartbeats 4000000
namespace CS
open PySem PySem.Spec PyProof.Rows L2 DL
local macro_rules | `(tactic| sizeOf_list_dec) => `(tactic| with_reducible first
  | (refine x_varP (by with_unfolding_all rfl) ?_) | (refine x_var (by with_unfolding_all rfl) ?_) | (refine x_varS (by with_unfolding_all rfl) ?_)
  | (refine x_C ?_) | (refine x_op ?_) | (refine x_un ?_) | (refine x_sub ?_)
  | (refine x_mul (by first | with_unfolding_all decide | (unfold CMul; omega)) ?_) | (refine x_mult (by first | with_unfolding_all decide | (unfold CMul; omega)) ?_)
  | (refine x_div (by unfold CDivN; omega) ?_) | (refine x_mod (by omega) ?_) | (refine x_add ?_) | (refine x_lt ?_) | (refine x_ltI ?_) | (refine x_leI ?_) | (refine x_gtI ?_) | (refine x_geI ?_)
  | (refine x_is ?_) | (refine x_notis ?_) | (refine x_neg ?_) | (refine x_eqI ?_) | (refine x_neI ?_)
  | (refine x_dtestK ?_) | (refine x_testK ?_) | (refine x_and ?_) | (refine x_or ?_) | (refine x_not ?_) | (refine x_dif ?_)
  | (refine x_T ?_) | (refine x_F ?_) | (refine x_nT ?_) | (refine x_nF ?_)
  | (refine x_nil ?_) | (refine x_cons ?_) | (refine x_cntK ?_) | (refine x_lens (by with_unfolding_all rfl) ?_)
  | (refine x_tupK ?_) | (refine x_tupD (by first | with_unfolding_all decide | (simp only [BIG, List.length_cons, List.length_nil]; omega)) ?_) | (refine x_tupPD (by first | with_unfolding_all decide | (simp only [BIG, List.length_cons, List.length_nil]; omega)) ?_) | (refine x_lstK ?_) | (refine x_lstD (by first | with_unfolding_all decide | (simp only [BIG, List.length_cons, List.length_nil]; omega)) ?_)
  | (refine x_dct ?_) | (refine x_fzS ?_) | (refine x_fzOwn ?_) | (refine x_val ?_)
  | (refine x_callK ?_) | (refine x_callD (by first | (dsimp only [pickD_cons, pickD_nil, List.cons_append, List.nil_append, List.append_nil, gD0, gDs]; done) | (dsimp only [pickD_cons, pickD_nil, List.cons_append, List.nil_append, List.append_nil, gD0, gDs]; exact rfl)) ?_)
  | (refine x_bc ?_) | (refine x_min2 ?_) | (refine x_max2 ?_)
  | (refine x_seq ?_) | (refine x_next ?_) | (refine x_brk ?_) | (refine x_cont ?_) | (refine x_drop ?_) | (refine x_ret ?_) | (refine x_retN ?_) | (refine x_if ?_)
  | (refine x_asgK ?_) | (refine x_setK (by first | (dsimp only [List.set_cons_zero, List.set_cons_succ]; done) | (dsimp only [List.set_cons_zero, List.set_cons_succ]; exact rfl)) ?_)
  | (refine x_asgT ?_) | (refine x_gN (by first | (dsimp only [List.set_cons_zero, List.set_cons_succ]; done) | (dsimp only [List.set_cons_zero, List.set_cons_succ]; exact rfl)) ?_) | (refine x_gsN ?_) | (refine x_gsC ?_) | (refine x_gT (by with_unfolding_all rfl) ?_)
  | (refine x_mNil ?_) | (refine x_mCons ?_) | (refine x_parK ?_) | (refine x_parD (by with_unfolding_all rfl) (by first | (dsimp only [setS, List.set_cons_zero, List.set_cons_succ]; done) | (dsimp only [setS, List.set_cons_zero, List.set_cons_succ]; exact rfl)) ?_)
  | (refine x_for ?_) | (refine x_rg1 ?_) | (refine x_rg2 ?_) | (refine x_rg1K (by omega) ?_) | (refine x_rg2K (by omega) ?_)
  | (refine x_andV ?_) | (refine x_orV ?_) | (refine x_notV ?_) | (refine x_andK ?_) | (refine x_orK ?_) | (refine x_notK ?_)
  | (refine x_addI ?_) | (refine x_ixL (by with_unfolding_all rfl) ?_) | (refine x_ixT (by with_unfolding_all rfl) ?_) | (refine x_slT ?_) | (refine x_oNo ?_) | (refine x_oInt ?_) | (refine x_oIntK ?_)
  | (refine x_vbc ?_) | (refine x_lenT ?_) | (refine x_lenL ?_) | (refine x_lenO1 (by with_unfolding_all rfl) ?_) | (refine x_lenO2 ?_) | (refine x_ixO1 (by with_unfolding_all rfl) ?_) | (refine x_ixO2 ?_)
  | (refine x_mt (by with_unfolding_all rfl) ?_) | (refine x_fld ?_) | (refine x_fldS ?_) | (refine x_fldP (by with_unfolding_all rfl) ?_) | (refine x_fldSK (by with_unfolding_all rfl) ?_) | (refine x_fldK (by with_unfolding_all rfl) ?_) | (refine x_selfS ?_)
  | (refine x_selfK (by with_unfolding_all rfl) (by with_unfolding_all decide) (by first | (dsimp only [List.set_cons_zero, List.set_cons_succ, List.cons_append, List.nil_append]; done) | (dsimp only [List.set_cons_zero, List.set_cons_succ, List.cons_append, List.nil_append]; exact rfl)) ?_)
  | (refine x_endI (by with_unfolding_all rfl) ?_) | (refine x_lenI ?_) | (refine x_lenK2 ?_) | (refine x_isi_NoneType_int ?_) | (refine x_isi_NoneType_bool ?_) | (refine x_isi_NoneType_str ?_) | (refine x_isi_NoneType_tuple ?_) | (refine x_isi_NoneType_list ?_) | (refine x_isi_bool_int ?_) | (refine x_isi_bool_bool ?_) | (refine x_isi_bool_str ?_) | (refine x_isi_bool_tuple ?_) | (refine x_isi_bool_list ?_) | (refine x_isi_int_int ?_) | (refine x_isi_int_bool ?_) | (refine x_isi_int_str ?_) | (refine x_isi_int_tuple ?_) | (refine x_isi_int_list ?_) | (refine x_isi_str_int ?_) | (refine x_isi_str_bool ?_) | (refine x_isi_str_str ?_) | (refine x_isi_str_tuple ?_) | (refine x_isi_str_list ?_) | (refine x_isi_tuple_int ?_) | (refine x_isi_tuple_bool ?_) | (refine x_isi_tuple_str ?_) | (refine x_isi_tuple_tuple ?_) | (refine x_isi_tuple_list ?_) | (refine x_isi_list_int ?_) | (refine x_isi_list_bool ?_) | (refine x_isi_list_str ?_) | (refine x_isi_list_tuple ?_) | (refine x_isi_list_list ?_)
  | (refine x_tupleT ?_) | (refine x_sumT ?_) | (refine x_sumL ?_) | (refine x_allL ?_) | (refine x_intI ?_) | (refine x_intB ?_) | (refine x_abs ?_) | (refine x_divmod (by omega) ?_)
  | (refine x_lcS ?_) | (refine x_lcK (by with_unfolding_all rfl) (by first | (dsimp only [wipeR, List.set_cons_zero, List.set_cons_succ]; done) | (dsimp only [wipeR, List.set_cons_zero, List.set_cons_succ]; exact rfl)) ?_) | (refine x_iseqS ?_) | (refine x_iseqD ?_) | (refine x_itupS ?_) | (refine x_itupD ?_) | (refine x_chain ?_) | (refine x_chK ?_)
  | (refine x_rgL1 ?_) | (refine x_rgL2 ?_) | (refine x_rg1LK (by omega) ?_) | (refine x_rg2LK (by omega) ?_)
  | (refine x_sfz (by first | (simp only [fzR, S.toD, List.getElem?_cons_zero, List.getElem?_cons_succ, List.set_cons_zero, List.set_cons_succ]; done) | (simp only [fzR, S.toD, List.getElem?_cons_zero, List.getElem?_cons_succ, List.set_cons_zero, List.set_cons_succ]; exact rfl)) ?_)
  | (refine x_gaddI ?_) | (refine x_aug (by with_unfolding_all rfl) ?_) | (refine x_augK (by with_unfolding_all rfl) ?_) | (refine x_setVK (by first | (dsimp only [List.set_cons_zero, List.set_cons_succ]; done) | (dsimp only [List.set_cons_zero, List.set_cons_succ]; exact rfl)) ?_) | (refine x_augIx (by with_unfolding_all rfl) ?_)
  | (refine x_strS ?_) | (refine x_strI (by first | assumption | (unfold Sm; omega)) ?_) | (refine x_fmt ?_) | (refine x_fmtS ?_) | (refine x_fmtI (by first | assumption | (unfold Sm; omega)) ?_) | (refine x_joined ?_) | (refine x_js0 ?_) | (refine x_js ?_)
  | (refine x_tru ?_) | (refine x_truK (by with_unfolding_all rfl) ?_) | (refine x_bk ?_) | (refine x_bkK ?_) | (refine x_bkv ?_) | (refine x_bkvK ?_) | (refine x_revT ?_) | (refine x_revL ?_) | (refine x_revTK (by first | with_unfolding_all decide | (simp only [BIG, List.length_cons, List.length_nil]; omega)) ?_) | (refine x_revLK (by first | with_unfolding_all decide | (simp only [BIG, List.length_cons, List.length_nil]; omega)) ?_)
  | (refine x_cat ?_) | (refine x_catK ?_) | (refine x_rep ?_) | (refine x_repK ?_) | (refine x_pow (by decide) ?_)
  | (refine x_mv ?_) | (refine x_mvT ?_) | (refine x_isLst ?_) | (refine x_isPtp ?_) | (refine x_mvK ?_) | (refine x_mvtK ?_)
  | (refine x_zpS ?_) | (refine x_zp ?_) | (refine x_zpNT ?_) | (refine x_zpNL ?_) | (refine x_enm ?_) | (refine x_enmK ?_) | (refine x_enmT ?_) | (refine x_enmTK ?_) | (refine x_gTp (by with_unfolding_all rfl) ?_))
end CS
set_option maxHeartbeats 4000000
/-! DL39: sorted of pairs of ints. -/
namespace DL
open PySem PySem.Spec PyProof.Rows L2
end DL
set_option maxHeartbeats 4000000
/-! DL40: an expression that is never come to. -/
namespace DL
open PySem PySem.Spec PyProof.Rows L2
end DL
set_option maxHeartbeats 4000000
/-! DL41: xs[i] = e, xs owned; xs != e, xs owned. -/
namespace DL
open PySem PySem.Spec PyProof.Rows L2
end DL
set_option maxHeartbeats 4000000
/-! DL42: methods of texts with one argument. -/
namespace DL
open PySem PySem.Spec PyProof.Rows L2
abbrev GSt := Str → D → (D → Prop) → Prop
def QmS (X : Cx) (r : V → List V → Hp → VK → Prop) (g : GSt) : Prop := ∀ (W : Wd) (H : Hp) (a : Str) (d : D) (v : V) (k : D → Prop) (Q : VK), SOk a → DV X.K X.mg W d v → g a d k → (∀ z u, k z → DV X.K X.mg W z u → Q u H) → r (.str a) [v] H Q
def isStr (d : D) : Prop := ∃ a, d = .str a
def msK (g : GSt) (k : KE) (d : D) : List D → Rho → Prop := fun as ρ2 => match d, as with
  | .str a, [x] => g a x fun z => k z ρ2
  | _, _ => False
def dMs (g : GSt) (τ : TD) (τs : TDa) : TD := fun ρ kx k => τ ρ kx fun d ρ1 => isStr d ∧ τs ρ1 kx (msK g k d)
def gZfill : GSt := fun a d k => match d with
  | .int i => PadOk i = true ∧ SOk (Txt.zfill a i) ∧ k (.str (Txt.zfill a i))
  | _ => False
section
variable {X : Cx} {o e : Expr} {es : List Expr} {τ : TD} {τs : TDa} {name : Str} {apos cpos : Pos} {id : String} {r : V → List V → Hp → VK → Prop} {g : GSt}
theorem qm_zfill : QmS X (fun x xs H Q => ∃ (a : Str) (i : Int), x = .str a ∧ xs = [.int i] ∧ PadOk i = true ∧ Q (.str (Txt.zfill a i)) H) gZfill := by
  intro W H a d v k Q ok dv h hQ
  cases d <;> try exact h.elim
  rename_i i
  obtain ⟨h1, h2, hk⟩ := h
  simp only [DV] at dv
  subst dv
  exact ⟨a, i, rfl, rfl, h1, hQ _ _ hk (by simp only [DV]; exact ⟨trivial, h2⟩)⟩
theorem pd_ms (slot : Slot "str" name id) (hty : typeOf (.builtin id) = pure (.type "method_descriptor")) (hm : MtR X id r) (q : QmS X r g) (ho : PEd X o τ) (ha : PAd X (e :: es) τs)
    (hbase : attributeBase o name X.env (eval o X.env) = eval o X.env := by rfl)
    (hfew : ((backTo cpos (starEach (e :: es) X.env)).all (fun x => !x.1) && (backToKw cpos (keywordEach [] X.env)).all (fun x => x.1.isSome) && decide ((e :: es).length + ([] : List Keyword).length + (if ([] : List Keyword).isEmpty then 0 else 1) < 30)) = true := by rfl)
    (hline : (apos.endLine == cpos.line) = true := by rfl) (hs : starEach (e :: es) X.env = (false, eval e X.env) :: starEach es X.env := by rfl) (hplain : (backTo cpos (starEach es X.env)).any (·.1) = false := by rfl) :
    PEd X (.Call (.Attribute o name apos) (e :: es) [] cpos) (dMs g τ τs) :=
  ⟨PE.imp (pe_bm PySem.F.plainAttrs_str slot hty hm ho.p ha.p hbase hfew hline hs hplain) fun σ H Q ⟨W, F, ρ, kx, k, tk, R, h, hQ⟩ => ⟨W, F, ρ, kx, _, tk, R, h, fun d ρ1 v1 H1 W1 ⟨⟨a, ed⟩, h1⟩ le1 R1 d1 => by
    subst ed
    simp only [DV] at d1
    obtain ⟨rfl, ok⟩ := d1
    refine ⟨rfl, W1, F, ρ1, kx, _, tk.mono le1, R1, h1, fun as ρ2 ws H2 W2 h2 le2 R2 d2 => ?_⟩
    match as, h2, d2 with
    | [x], h2, d2 =>
      obtain ⟨v, rfl, dv⟩ := dvs1 d2
      exact q W2 H2 a x v _ Q ok dv h2 fun z u hk du => hQ z ρ2 u H2 W2 hk (le1.trans le2) R2 du⟩⟩
end
section
variable {ρ : Rho} {kx : KX} {k : KE} {kd : D → Prop} {τ : TD} {τs : TDa} {g : GSt} {a : Str} {d : D}
theorem x_ms (h : τ ρ kx fun d ρ1 => isStr d ∧ τs ρ1 kx (msK g k d)) : dMs g τ τs ρ kx k := h
theorem x_isStr {A : Prop} (h : A) : isStr (.str a) ∧ A := ⟨⟨a, rfl⟩, h⟩
theorem x_msK (h : g a d fun z => k z ρ) : msK g k (.str a) [d] ρ := h
theorem x_zfill {i : Int} (h1 : PadOk i = true) (h2 : SOk (Txt.zfill a i)) (h : kd (.str (Txt.zfill a i))) : gZfill a (.int i) kd := ⟨h1, h2, h⟩
end
end DL
set_option maxHeartbeats 4000000
namespace L38
open PySem PySem.Spec PyProof.Rows L2 DL
def top (i : Nat) : Stmt := PySem.Challenge.pw_strokesgiven_k38_groups_and_starts.main.body.getD i (.Pass ⟨0, 0, 0, 0⟩)
/-! the draw, the beginning -/
abbrev s_draw : Stmt := top 5
abbrev N_draw : List Str := ["_law_script", "_law_town", "_law_many", "_law_at", "_law_rest", "_law_number"]
abbrev ps_draw : List Str := ["_law_script", "_law_town", "_law_many"]
theorem sc_draw : FnScope N_draw ps_draw (defScope s_draw) := ⟨rfl, rfl, rfl, by decide +kernel, rfl, by decide +kernel, by decide +kernel⟩
section
variable {P : Program} {w : World} {K : PySem.W.Frag} {mg : Str → Option Value} {base : Heap}
theorem ok_draw {fa : Addr} {fd : FuncData} (F : FunD K "_law_draw" "_law_draw" (defArgs s_draw) (defBody s_draw) (defScope s_draw) [] [] fa fd) (lenN : mg "len" = none) : FnOk P w K mg base (L2.CX P w) 1 fa fd ps_draw (SpD K mg 3 drawM) := by
  refine F.ok sc_draw (fun vs H Q E h => h.1) fun cdv A outer s H vs Q E hr h => ?_
  obtain ⟨hl, W, Fx, ds, kx, kk, wok, dv, hm, hQ, _⟩ := h
  have hu := hu_of hr
  match ds, hm, dv with
  | [.scr ns, .town, .int n], hm, dv =>
    obtain ⟨⟨hn0, hn1⟩, hk⟩ := hm
    simp only [DVs, DV] at dv
    obtain ⟨_, _, e1, ⟨sa, e2, hS, lS⟩, _, _, e3, ⟨ta, tr, e4, hT⟩, _, _, e5, e6, e7⟩ := dv
    subst e2 e4 e6 e7 e5 e3 e1
    obtain ⟨tn, c, kvs, h1, h2, _, h3, h4⟩ := (wok.t _ hT).1
    have hS0 : SqL K H sa (ns.map V.int) := seqL_mono wok.g hS
    have ntr : tr ≠ ta := Ne.symm tn
    have rs : Rests kvs := ⟨h3, h4⟩
    -- the script is none of the town's dicts
    have keepS : ∀ {H' : Hp}, (∀ b, b ≠ ta → b ≠ tr → H' b = H b) → SqL K H' sa (ns.map V.int) := fun {H'} hb => by
      obtain ⟨_, g1, g2, _, _⟩ := wok.t _ hT
      have ne : ∀ {o : HO}, W.G sa = some o → sa ≠ ta ∧ sa ≠ tr := fun e => ⟨(fun z => by rw [z, g1] at e; cases e), (fun z => by rw [z, g2] at e; cases e)⟩
      rcases hS with (z | ⟨o, z⟩) | z
      · exact .inl (.inl ((hb sa (ne z).1 (ne z).2).trans (wok.g _ _ z)))
      · exact .inl (.inr ⟨o, (hb sa (ne z).1 (ne z).2).trans (wok.g _ _ z)⟩)
      · exact .inr z
    let H1 : Hp := upd H ta (.dK (tk (c + 1) tr))
    have a1 : H1 ta = some (.dK (tk (c + 1) tr)) := upd_same
    have a2 : H1 tr = some (.dK kvs) := (upd_ne ntr).trans h2
    have aS : SqL K H1 sa (ns.map V.int) := keepS fun b b1 _ => upd_ne b1
    have done : ∀ (H' : Hp) (kvs' : List (Key × V)) (v : Int), Rests kvs' → H' ta = some (.dK (tk (c + 1) tr)) → H' tr = some (.dK kvs') → (∀ b, b ≠ ta → b ≠ tr → H' b = H b) → 0 ≤ v → v < n → Q (.int v) H' := fun H' kvs' v rs' b1 b2 b3 v0 v1 =>
      hQ (.int v) (.int v) H' W (hk v v0 v1) (Wd.le.refl W) (wok.town hT b3 (townAt_of tn b1 b2 rs'.1 rs'.2)) (by simp only [DV])
    refine ⟨_, (pss_cons (ps_dput hu (pv 1) pe_str (pe_op op_add (pe_dget hu (pv 1) pe_str (fun _ _ => rfl)) pe_int) rfl)
      (pss_cons (ps_set (i := 3) sc_draw.nd rfl (Or.inl rfl) (pe_ifExp (pt_truth (pv 0) (by intro _; rfl)) (pe_op op_mod (pe_dget hu (pv 1) pe_str (fun _ _ => rfl)) (pe_callB call_len (by rfl) lenN PySem.boot_len (pa_cons (pv 0) pa_nil))) pe_int))
      (pss_cons (ps_set (i := 4) sc_draw.nd rfl (Or.inl rfl) (pe_dget2 hu (pe_dget hu (pv 1) pe_str (fun _ _ => rfl)) (pv 3) (pe_ifExp (pt_truth (pv 0) (by intro _; rfl)) (pe_ix ix_list (pv 0) (pv 3) (fun _ _ => rfl)) pe_int) ⟨rfl, rfl, rfl, rfl⟩))
      (pss_cons (ps_if (pt_cmpR op_ge (pv 4) (pe_op op_pow pe_int pe_int) (nomark _))
          (pss_cons (ps_dput hu (pe_dget hu (pv 1) pe_str (fun _ _ => rfl)) (pv 3) (pe_op op_fdivN (pv 4) (pv 2)) rfl)
          (pss_one (ps_ret (pe_op op_mod (pv 4) (pv 2))))) pss_nil)
      (pss_cons (ps_set (i := 5) sc_draw.nd rfl (Or.inl rfl) (pe_op op_mod (pe_op op_add (pv 4) (pe_op op_mul pe_int (pe_dget hu (pv 1) pe_str (fun _ _ => rfl)))) pe_int))
      (pss_cons (ps_set (i := 5) sc_draw.nd rfl (Or.inl rfl) (pe_op op_mod (pe_op op_pow (pv 5) pe_int) pe_int))
      (pss_one (ps_ret (pe_op op_mod (pe_op op_fdivN (pe_op op_mod (pe_op op_add (pe_op op_mul (pe_op op_fdivN (pv 5) pe_int) pe_int) (pv 5)) pe_int) pe_int) (pv 2)))))))))), ?_⟩
    refine ⟨_, rfl, ta, _, rfl, (by have q := DGet.k (k := kCount) h1; rw [show valV ([(kCount, V.int c), (kRests, V.ref tr)] : List (Key × V)) kCount = some (.int c) from tk_count c tr] at q; exact q), _, _, rfl, rfl, _, rfl, ta, _, rfl,
      (by have q := DPut.k (k := kCount) (v := V.int (c + 1)) h1 (by show 2 < sizeLine; rw [sizeLine_eq]; decide); rw [show putK ([(kCount, V.int c), (kRests, V.ref tr)] : List (Key × V)) kCount (.int (c + 1)) = tk (c + 1) tr from tk_put c (c + 1) tr] at q; exact q), ?_⟩
    have gC : DGet H1 ta (.str "count") (some (.int (c + 1))) := by have q := DGet.k (k := kCount) a1; rw [tk_count] at q; exact q
    have gR : DGet H1 ta (.str "rests") (some (.ref tr)) := by have q := DGet.k (k := kRests) a1; rw [tk_rests] at q; exact q
    -- from a place and a rest on
    have tail : ∀ (i m : Int), 0 ≤ i → i < 64 → ∀ σ : L2.St, σ[0]? = some (some (.ref sa)) → σ[1]? = some (some (.ref ta)) → σ[2]? = some (some (.int n)) → σ[3]? = some (some (.int i)) → σ[4]? = some (some (.int m)) → σ.length = 6 →
        tSeq (tIfS (tTest (tOp (rI0 fun i j => .bl (decide (j ≤ i))) (tVar 4) (tOp (rI CPow fun i j => .int (i ^ j.toNat)) (tC (.int 10)) (tC (.int 18)))))
          (tSeq (sDPut (tDGet (tVar 1) (tC (.str "rests"))) (tVar 3) (tOp (rI CDivN fun i j => .int (i.fdiv j)) (tVar 4) (tVar 2))) (tRet (tOp (rI (fun _ j => 0 < j) fun i j => .int (i % j)) (tVar 4) (tVar 2)))) tNext)
          (tSeq (tAsg (tOp (rI (fun _ j => 0 < j) fun i j => .int (i % j)) (tOp (rI0 fun i j => .int (i + j)) (tVar 4) (tOp (rI CMul fun i j => .int (i * j)) (tC (.int 104729)) (tDGet (tVar 1) (tC (.str "count"))))) (tC (.int 4294967291))) (gName 5))
          (tSeq (tAsg (tOp (rI (fun _ j => 0 < j) fun i j => .int (i % j)) (tOp (rI CPow fun i j => .int (i ^ j.toNat)) (tVar 5) (tC (.int 5))) (tC (.int 4294967279))) (gName 5))
          (tRet (tOp (rI (fun _ j => 0 < j) fun i j => .int (i % j)) (tOp (rI CDivN fun i j => .int (i.fdiv j)) (tOp (rI (fun _ j => 0 < j) fun i j => .int (i % j)) (tOp (rI0 fun i j => .int (i + j)) (tOp (rI CMul fun i j => .int (i * j)) (tOp (rI CDivN fun i j => .int (i.fdiv j)) (tVar 5) (tC (.int 64))) (tC (.int 69621))) (tVar 5)) (tC (.int 4294967231))) (tC (.int 8))) (tVar 2)))))
          { nx := fun _ H' => Q .non H', rt := Q } σ H1 := by
      intro i m i0 i1 σ s0 s1 s2 s3 s4 sl
      refine ⟨_, s4, _, _, rfl, rfl, (by unfold CPow; decide), _, _, rfl, rfl, _, rfl, ite2 (fun _ => ?_) (fun _ => ?_)⟩
      · refine ⟨_, s4, _, s2, _, _, rfl, rfl, ⟨by omega, by omega⟩, _, s1, ta, _, rfl, gR, _, s3, tr, _, rfl, DPut.k (k := Sum.inl i) a2 (by have := rs.len; rw [sizeLine_eq]; omega), ?_⟩
        refine ⟨_, s4, _, s2, _, _, rfl, rfl, hn0, ?_⟩
        exact done _ (putK kvs (Sum.inl i) (.int (m.fdiv n))) _ (rs.put i0 i1) ((upd_ne tn).trans a1) upd_same (fun b b1 b2 => (upd_ne b2).trans (upd_ne b1)) (emod_lt' m hn0).1 (emod_lt' m hn0).2
      · refine ⟨_, s4, _, s1, ta, _, rfl, gC, _, _, rfl, rfl, (.inl ⟨by decide, by decide⟩), _, _, rfl, rfl, _, _, rfl, rfl, (by show (0 : Int) < 4294967291; decide), ?_⟩
        have r1 := emod_lt' (m + 104729 * (c + 1)) (n := 4294967291) (by decide)
        have t5 : (σ.set 5 (some (V.int ((m + 104729 * (c + 1)) % 4294967291))))[5]? = some (some (.int ((m + 104729 * (c + 1)) % 4294967291))) := List.getElem?_set_self (by rw [sl]; decide)
        refine ⟨_, t5, _, _, rfl, rfl, ⟨by decide, by decide, (by show ((m + 104729 * (c + 1)) % 4294967291).natAbs < 2 ^ 64; omega)⟩, _, _, rfl, rfl, (by show (0 : Int) < 4294967279; decide), ?_⟩
        have u5 : ((σ.set 5 (some (V.int ((m + 104729 * (c + 1)) % 4294967291)))).set 5 (some (V.int (((m + 104729 * (c + 1)) % 4294967291) ^ (5 : Int).toNat % 4294967279))))[5]? = some (some (.int (((m + 104729 * (c + 1)) % 4294967291) ^ (5 : Int).toNat % 4294967279))) := List.getElem?_set_self (by rw [List.length_set, sl]; decide)
        have u2 : ((σ.set 5 (some (V.int ((m + 104729 * (c + 1)) % 4294967291)))).set 5 (some (V.int (((m + 104729 * (c + 1)) % 4294967291) ^ (5 : Int).toNat % 4294967279))))[2]? = some (some (.int n)) := by rw [List.getElem?_set_ne (by decide), List.getElem?_set_ne (by decide)]; exact s2
        refine ⟨_, u5, _, _, rfl, rfl, ⟨by decide, by decide⟩, _, _, rfl, rfl, (.inr ⟨by decide, by decide⟩), _, u5, _, _, rfl, rfl, _, _, rfl, rfl, (by show (0 : Int) < 4294967231; decide), _, _, rfl, rfl, ⟨by decide, by decide⟩, _, u2, _, _, rfl, rfl, hn0, ?_⟩
        exact done H1 kvs _ rs a1 a2 (fun b b1 _ => upd_ne b1) (emod_lt' _ hn0).1 (emod_lt' _ hn0).2
    have place : 0 ≤ (c + 1) % ((ns.map V.int).length : Nat) ∨ True := .inr trivial
    cases hE : ns with
    | nil =>
      subst hE
      refine ⟨_, rfl, false, .inl ⟨_, aS, rfl⟩, ?_⟩
      refine ⟨_, rfl, ta, _, rfl, gR, tr, rfl, .inl ⟨_, .inl a2⟩, _, rfl, _, rfl, false, .inl ⟨_, aS, rfl⟩, _, DGet.k (k := Sum.inl 0) a2, ?_⟩
      obtain ⟨m, em⟩ := rs.get 0 0
      rw [em]
      exact tail 0 m (by decide) (by decide) _ rfl rfl rfl rfl rfl rfl
    | cons n0 nr =>
      have ne : (!(ns.map V.int).isEmpty) = true := by rw [hE]; rfl
      have lp : 0 < ns.length := by rw [hE]; exact Nat.succ_pos _
      have lI : (0 : Int) < ((ns.map V.int).length : Nat) := by rw [List.length_map]; omega
      have rp := emod_lt' (c + 1) lI
      refine ⟨_, rfl, true, .inl ⟨_, aS, ne.symm⟩, ?_⟩
      refine ⟨_, rfl, ta, _, rfl, gC, _, rfl, _, (ns.map V.int).length, rfl, .inl ⟨_, aS, rfl⟩, _, _, rfl, rfl, lI, ?_⟩
      have lI2 : ((ns.map V.int).length : Int) = ns.length := by rw [List.length_map]
      obtain ⟨j, hj2⟩ : ∃ j : Nat, (c + 1) % ((ns.map V.int).length : Int) = (j : Int) := ⟨((c + 1) % ((ns.map V.int).length : Int)).toNat, by omega⟩
      have hj : j < ns.length := by omega
      have at_ : atI (ns.map V.int) ((j : Nat) : Int) = some (.int ns[j]) := atI_nat (by rw [List.getElem?_map, List.getElem?_eq_getElem hj]; rfl)
      refine ⟨_, rfl, ta, _, rfl, gR, tr, rfl, .inl ⟨_, .inl a2⟩, _, rfl, _, rfl, true, .inl ⟨_, aS, ne.symm⟩, ?_⟩
      refine ⟨_, rfl, _, rfl, sa, _, _, _, rfl, rfl, aS, (by rw [hj2]; exact at_), _, (by show DGet H1 tr (.int ((c + 1) % ((ns.map V.int).length : Int))) _; rw [hj2]; exact DGet.k (k := Sum.inl (j : Int)) a2), ?_⟩
      obtain ⟨m, em⟩ := rs.get (j : Int) ns[j]
      rw [em]
      exact tail ((c + 1) % ((ns.map V.int).length : Int)) m (by omega) (by omega) _ rfl rfl rfl rfl rfl rfl
end
abbrev dv_law_draw : List V := []
abbrev s_law_draw : Stmt := s_draw
abbrev ps_law_draw : List Str := ps_draw
abbrev m_law_draw : FD := drawM
abbrev s_law_begun : Stmt := top 6
abbrev N_law_begun : List Str := []
abbrev ps_law_begun : List Str := []
theorem sc_law_begun : FnScope N_law_begun ps_law_begun (defScope s_law_begun) := ⟨rfl, rfl, rfl, by decide +kernel, rfl, by decide +kernel, by decide +kernel⟩
abbrev dv_law_begun : List V := []
abbrev s_groups : Stmt := top 1
abbrev N_groups : List Str := ["names", "most", "many", "size", "more", "found", "at", "k", "here"]
abbrev ps_groups : List Str := ["names", "most"]
theorem sc_groups : FnScope N_groups ps_groups (defScope s_groups) := ⟨rfl, rfl, rfl, by decide +kernel, rfl, by decide +kernel, by decide +kernel⟩
abbrev dv_groups : List V := [(V.int 3)]
abbrev s_clock : Stmt := top 2
abbrev N_clock : List Str := ["minute", "hours", "minutes"]
abbrev ps_clock : List Str := ["minute"]
theorem sc_clock : FnScope N_clock ps_clock (defScope s_clock) := ⟨rfl, rfl, rfl, by decide +kernel, rfl, by decide +kernel, by decide +kernel⟩
abbrev dv_clock : List V := []
abbrev s_starts : Stmt := top 3
abbrev N_starts : List Str := ["names", "first", "gap", "most", "tees", "found", "at", "group", "turn", "tee"]
abbrev ps_starts : List Str := ["names", "first", "gap", "most", "tees"]
theorem sc_starts : FnScope N_starts ps_starts (defScope s_starts) := ⟨rfl, rfl, rfl, by decide +kernel, rfl, by decide +kernel, by decide +kernel⟩
abbrev dv_starts : List V := [(V.int 8), (V.int 3), (V.int 1)]
abbrev s_law_flat : Stmt := top 7
abbrev N_law_flat : List Str := ["_law_some", "_law_found", "_law_group"]
abbrev ps_law_flat : List Str := ["_law_some"]
theorem sc_law_flat : FnScope N_law_flat ps_law_flat (defScope s_law_flat) := ⟨rfl, rfl, rfl, by decide +kernel, rfl, by decide +kernel, by decide +kernel⟩
abbrev dv_law_flat : List V := []
abbrev s_law_right : Stmt := top 8
abbrev N_law_right : List Str := ["_law_told", "_law_names", "_law_top", "_law_sizes", "_law_group"]
abbrev ps_law_right : List Str := ["_law_told", "_law_names", "_law_top"]
theorem sc_law_right : FnScope N_law_right ps_law_right (defScope s_law_right) := ⟨rfl, rfl, rfl, by decide +kernel, rfl, by decide +kernel, by decide +kernel⟩
abbrev dv_law_right : List V := []
abbrev s_law_clock : Stmt := top 9
abbrev N_law_clock : List Str := ["_law_minute", "_law_hours", "_law_minutes"]
abbrev ps_law_clock : List Str := ["_law_minute"]
theorem sc_law_clock : FnScope N_law_clock ps_law_clock (defScope s_law_clock) := ⟨rfl, rfl, rfl, by decide +kernel, rfl, by decide +kernel, by decide +kernel⟩
abbrev dv_law_clock : List V := []
abbrev s_law : Stmt := top 10
abbrev N_law : List Str := ["_law_script", "_law_town", "_law_k", "_law_names", "_law_top", "_law_first", "_law_wait", "_law_gates", "_law_told", "_law_due", "_law_at", "_law_group", "_law_plain"]
abbrev ps_law : List Str := ["_law_script"]
theorem sc_law : FnScope N_law ps_law (defScope s_law) := ⟨rfl, rfl, rfl, by decide +kernel, rfl, by decide +kernel, by decide +kernel⟩
abbrev dv_law : List V := []
structure Txt (K : PySem.W.Frag) (mg : Str → Option Value) where
  a_law_draw : Addr
  d_law_draw : FuncData
  F_law_draw : FunD K "_law_draw" "_law_draw" (defArgs s_law_draw) (defBody s_law_draw) (defScope s_law_draw) dv_law_draw [] a_law_draw d_law_draw
  g_law_draw : mg "_law_draw" = some (.ref a_law_draw)
  a_law_begun : Addr
  d_law_begun : FuncData
  F_law_begun : FunD K "_law_begun" "_law_begun" (defArgs s_law_begun) (defBody s_law_begun) (defScope s_law_begun) dv_law_begun [] a_law_begun d_law_begun
  g_law_begun : mg "_law_begun" = some (.ref a_law_begun)
  a_groups : Addr
  d_groups : FuncData
  F_groups : FunD K "groups" "groups" (defArgs s_groups) (defBody s_groups) (defScope s_groups) dv_groups [] a_groups d_groups
  g_groups : mg "groups" = some (.ref a_groups)
  a_clock : Addr
  d_clock : FuncData
  F_clock : FunD K "clock" "clock" (defArgs s_clock) (defBody s_clock) (defScope s_clock) dv_clock [] a_clock d_clock
  g_clock : mg "clock" = some (.ref a_clock)
  a_starts : Addr
  d_starts : FuncData
  F_starts : FunD K "starts" "starts" (defArgs s_starts) (defBody s_starts) (defScope s_starts) dv_starts [] a_starts d_starts
  g_starts : mg "starts" = some (.ref a_starts)
  a_law_flat : Addr
  d_law_flat : FuncData
  F_law_flat : FunD K "_law_flat" "_law_flat" (defArgs s_law_flat) (defBody s_law_flat) (defScope s_law_flat) dv_law_flat [] a_law_flat d_law_flat
  g_law_flat : mg "_law_flat" = some (.ref a_law_flat)
  a_law_right : Addr
  d_law_right : FuncData
  F_law_right : FunD K "_law_right" "_law_right" (defArgs s_law_right) (defBody s_law_right) (defScope s_law_right) dv_law_right [] a_law_right d_law_right
  g_law_right : mg "_law_right" = some (.ref a_law_right)
  a_law_clock : Addr
  d_law_clock : FuncData
  F_law_clock : FunD K "_law_clock" "_law_clock" (defArgs s_law_clock) (defBody s_law_clock) (defScope s_law_clock) dv_law_clock [] a_law_clock d_law_clock
  g_law_clock : mg "_law_clock" = some (.ref a_law_clock)
  a_law : Addr
  d_law : FuncData
  F_law : FunD K "law" "law" (defArgs s_law) (defBody s_law) (defScope s_law) dv_law [] a_law d_law
  g_law : mg "law" = some (.ref a_law)
  n_divmod : mg "divmod" = none
  n_enumerate : mg "enumerate" = none
  n_int : mg "int" = none
  n_len : mg "len" = none
  n_list : mg "list" = none
  n_max : mg "max" = none
  n_min : mg "min" = none
  n_range : mg "range" = none
  n_sorted : mg "sorted" = none
  n_str : mg "str" = none
  n_tuple : mg "tuple" = none
section
variable {P : Program} {w : World} {K : PySem.W.Frag} {mg : Str → Option Value} {base : Heap}
theorem dd_groups (W : Wd) : DVs K mg W [(D.int 3)] dv_groups := by simp [DVs, DV]
theorem dd_starts (W : Wd) : DVs K mg W [(D.int 8), (D.int 3), (D.int 1)] dv_starts := by simp [DVs, DV]
theorem b_groups_0 (T : Txt K mg) : BindD K T.d_groups ps_groups 1 ["most"] [0, 2] dv_groups := bind_def T.F_groups (by decide) 1 ["most"] [0, 2] rfl (fun _ _ _ _ _ _ _ us its ws l0 l1 l2 => match us, its, ws, l0, l1, l2 with | [_], [_], [_], _, _, _ => ⟨_, rfl, rfl⟩)
theorem b_clock_0 (T : Txt K mg) : BindD K T.d_clock ps_clock 1 [] [0] [] := bind_all T.F_clock 1 [] [0] rfl (fun _ _ _ _ _ _ us ws l0 l2 => match us, ws, l0, l2 with | [_], [], _, _ => rfl)
theorem b_law_flat_0 (T : Txt K mg) : BindD K T.d_law_flat ps_law_flat 1 [] [0] [] := bind_all T.F_law_flat 1 [] [0] rfl (fun _ _ _ _ _ _ us ws l0 l2 => match us, ws, l0, l2 with | [_], [], _, _ => rfl)
theorem b_law_draw_0 (T : Txt K mg) : BindD K T.d_law_draw ps_law_draw 3 [] [0, 1, 2] [] := bind_all T.F_law_draw 3 [] [0, 1, 2] rfl (fun _ _ _ _ _ _ us ws l0 l2 => match us, ws, l0, l2 with | [_, _, _], [], _, _ => rfl)
theorem b_groups_1 (T : Txt K mg) : BindD K T.d_groups ps_groups 2 [] [0, 1] dv_groups := bind_def T.F_groups (by decide) 2 [] [0, 1] rfl (fun _ _ _ _ _ _ _ us its ws l0 l1 l2 => match us, its, ws, l0, l1, l2 with | [_, _], [_], [], _, _, _ => ⟨_, rfl, rfl⟩)
theorem b_law_right_0 (T : Txt K mg) : BindD K T.d_law_right ps_law_right 3 [] [0, 1, 2] [] := bind_all T.F_law_right 3 [] [0, 1, 2] rfl (fun _ _ _ _ _ _ us ws l0 l2 => match us, ws, l0, l2 with | [_, _, _], [], _, _ => rfl)
theorem b_groups_2 (T : Txt K mg) : BindD K T.d_groups ps_groups 1 [] [0, 1] dv_groups := bind_def T.F_groups (by decide) 1 [] [0, 1] rfl (fun _ _ _ _ _ _ _ us its ws l0 l1 l2 => match us, its, ws, l0, l1, l2 with | [_], [_], [], _, _, _ => ⟨_, rfl, rfl⟩)
theorem b_law_clock_0 (T : Txt K mg) : BindD K T.d_law_clock ps_law_clock 1 [] [0] [] := bind_all T.F_law_clock 1 [] [0] rfl (fun _ _ _ _ _ _ us ws l0 l2 => match us, ws, l0, l2 with | [_], [], _, _ => rfl)
theorem b_starts_0 (T : Txt K mg) : BindD K T.d_starts ps_starts 5 [] [0, 1, 2, 3, 4] dv_starts := bind_def T.F_starts (by decide) 5 [] [0, 1, 2, 3, 4] rfl (fun _ _ _ _ _ _ _ us its ws l0 l1 l2 => match us, its, ws, l0, l1, l2 with | [_, _, _, _, _], [_, _, _], [], _, _, _ => ⟨_, rfl, rfl⟩)
theorem b_starts_1 (T : Txt K mg) : BindD K T.d_starts ps_starts 2 ["tees", "most", "gap"] [0, 1, 7, 6, 5] dv_starts := bind_def T.F_starts (by decide) 2 ["tees", "most", "gap"] [0, 1, 7, 6, 5] rfl (fun _ _ _ _ _ _ _ us its ws l0 l1 l2 => match us, its, ws, l0, l1, l2 with | [_, _], [_, _, _], [_, _, _], _, _, _ => ⟨_, rfl, rfl⟩)
theorem b_starts_2 (T : Txt K mg) : BindD K T.d_starts ps_starts 2 [] [0, 1, 2, 3, 4] dv_starts := bind_def T.F_starts (by decide) 2 [] [0, 1, 2, 3, 4] rfl (fun _ _ _ _ _ _ _ us its ws l0 l1 l2 => match us, its, ws, l0, l1, l2 with | [_, _], [_, _, _], [], _, _, _ => ⟨_, rfl, rfl⟩)
theorem b_starts_3 (T : Txt K mg) : BindD K T.d_starts ps_starts 2 ["gap"] [0, 1, 5, 3, 4] dv_starts := bind_def T.F_starts (by decide) 2 ["gap"] [0, 1, 5, 3, 4] rfl (fun _ _ _ _ _ _ _ us its ws l0 l1 l2 => match us, its, ws, l0, l1, l2 with | [_, _], [_, _, _], [_], _, _, _ => ⟨_, rfl, rfl⟩)
theorem ok_law_draw (T : Txt K mg) : FnOk P w K mg base (L2.CX P w) 1 T.a_law_draw T.d_law_draw ps_law_draw (SpD K mg 3 drawM) := ok_draw T.F_law_draw T.n_len
theorem ok_law_begun (T : Txt K mg) : FnOk P w K mg base (L2.CX P w) 1 T.a_law_begun T.d_law_begun [] SpB := by
  refine T.F_law_begun.ok sc_law_begun (fun vs H Q E h => by rw [h.1]; rfl) fun cdv A outer s H vs Q E hr h => ?_
  exact ⟨_, pss_one (ps_ret (pe_disp (pps_cons pe_str pe_int (pps_cons pe_str pe_dnewK pps_nil)) (by rfl) (by rfl) (fun z => by cases z) (by decide))), begun_read h.2⟩
def lp_groups_1 : TDS :=
  (sSeq (sAsg 8 (vVal (dOp gAddA (dVar 3) (dBC cInt (dCons (dOp gGeI (dVar 7) (dOp gSub (dVar 2) (dVar 4))) dNil)))))
  (sSeq (sDrop (dMt mAppend 5 (dCons (dSlT (dVar 0) (oInt (dVar 6)) (oInt (dOp gAddA (dVar 6) (dVar 8)))) dNil)))
  (sAug 6 gAddI (dVar 8))))
def body_groups : TDS :=
  (sSeq (sIf (dTest (dOp gEq (dVar 0) (dTup dNil))) (sRet (dTup dNil)) sNext)
  (sSeq (sAsg 2 (vVal (dOp gDiv (dOp gSub (dOp gAddA (dBC cLen (dCons (dVar 0) dNil)) (dVar 1)) (dC (D.int 1))) (dVar 1))))
  (sSeq (sAsgT (gT 2 (gsC (gN 3) (gsC (gN 4) gsN))) (dBC cDivmod (dCons (dBC cLen (dCons (dVar 0) dNil)) (dCons (dVar 2) dNil))))
  (sSeq (sPar [5, 6] (mCons (vLst dNil) (mCons (vVal (dC (D.int 0))) mNil)))
  (sSeq (sFor (iRg1 (dCons (dVar 2) dNil)) (gN 7) lp_groups_1)
  (sFz 5 (sRet (dBC cTuple (dCons (dVar 5) dNil)))))))))
def m_groups : FD := fnm 9 body_groups
theorem go_groups {x0 x1 : D} {kx : XD → Prop} {k : D → Prop} (h : body_groups [.val x0, .val x1, .un, .un, .un, .un, .un, .un, .un] (fun x _ => kx x) ⟨fun _ => k .non, fun d _ => k d, fun _ => False, fun _ => False⟩) : m_groups [x0, x1] kx k := h
theorem ok_groups (T : Txt K mg) : FnOk P w K mg base (L2.CX P w) 1 T.a_groups T.d_groups ps_groups (SpD K mg ps_groups.length m_groups) := fn_d T.F_groups sc_groups fun cdv A outer s H E hr =>
  (bd_cons (sd_if (td_eq hr (pd_var 0) (pd_tup ad_nil)) (bd_one (sd_ret (pd_tup ad_nil))) bd_nil)
  (bd_cons (sd_asg 2 sc_groups.nd rfl (.inl rfl) (PEd.v (pd_div (pd_sub (pd_addA (pd_bc call_len cd_len rfl T.n_len PySem.boot_len (ad_cons (pd_var 0) ad_nil)) (pd_var 1)) pd_int) (pd_var 1))))
  (bd_cons (sd_asgT (pd_bc call_divmod cd_divmod rfl T.n_divmod (by decide +kernel) (ad_cons (pd_bc call_len cd_len rfl T.n_len PySem.boot_len (ad_cons (pd_var 0) ad_nil)) (ad_cons (pd_var 2) ad_nil))) (gd_tup rfl (gsd_cons (gd_name 3 sc_groups.nd rfl (.inl rfl)) (gsd_cons (gd_name 4 sc_groups.nd rfl (.inl rfl)) gsd_nil))))
  (bd_cons (sd_par2 5 6 rfl sc_groups.nd rfl rfl (by decide) rfl rfl (md_cons (vd_lst ad_nil) (md_cons (PEd.v pd_int) md_nil)) (by rfl))
  (bd_cons (sd_for (passes_of rfl) rfl (id_range1 rfl T.n_range (ad_cons (pd_var 2) ad_nil)) (gd_name 7 sc_groups.nd rfl (.inl rfl)) (bd_cons (sd_asg 8 sc_groups.nd rfl (.inl rfl) (PEd.v (pd_addA (pd_var 3) (pd_tc call_int1 cd_int rfl T.n_int (by decide +kernel) (ad_cons (pd_cmp op_ge od_geI (pd_var 7) (pd_sub (pd_var 2) (pd_var 4)) (nomark _)) ad_nil)))))
  (bd_cons (sd_expr (pd_mt 5 PySem.F.slot_list_append PySem.F.type_list_append mt_append md_append (ad_cons (pd_sl (pd_var 0) (od_int (pd_var 6)) (od_int (pd_addA (pd_var 6) (pd_var 8)))) ad_nil)))
  (bd_one (sd_aug 6 sc_groups.nd ip_add ip_I (pd_var 8))))))
  (bd_one (sd_fz 5 (sd_ret (pd_tc call_tuple_ofF cd_tuple rfl T.n_tuple (by decide +kernel) (ad_cons (pd_var 5) ad_nil))))))))))
def body_clock : TDS :=
  (sSeq (sAsgT (gT 2 (gsC (gN 1) (gsC (gN 2) gsN))) (dBC cDivmod (dCons (dOp gMod (dVar 0) (dC (D.int 1440))) (dCons (dC (D.int 60)) dNil))))
  (sRet (dOp gAddA (dOp gAddA (dBC cStr (dCons (dVar 1) dNil)) (dC (D.str ":"))) (dMs gZfill (dBC cStr (dCons (dVar 2) dNil)) (dCons (dC (D.int 2)) dNil)))))
def m_clock : FD := fnm 3 body_clock
theorem go_clock {x0 : D} {kx : XD → Prop} {k : D → Prop} (h : body_clock [.val x0, .un, .un] (fun x _ => kx x) ⟨fun _ => k .non, fun d _ => k d, fun _ => False, fun _ => False⟩) : m_clock [x0] kx k := h
theorem ok_clock (T : Txt K mg) : FnOk P w K mg base (L2.CX P w) 1 T.a_clock T.d_clock ps_clock (SpD K mg ps_clock.length m_clock) := fn_d T.F_clock sc_clock fun cdv A outer s H E hr =>
  (bd_cons (sd_asgT (pd_bc call_divmod cd_divmod rfl T.n_divmod (by decide +kernel) (ad_cons (pd_mod (pd_var 0) pd_int) (ad_cons pd_int ad_nil))) (gd_tup rfl (gsd_cons (gd_name 1 sc_clock.nd rfl (.inl rfl)) (gsd_cons (gd_name 2 sc_clock.nd rfl (.inl rfl)) gsd_nil))))
  (bd_one (sd_ret (pd_addA (pd_addA (pd_tc (CallR.or call_str_int SkE.call_str_str) cd_str rfl T.n_str (by decide +kernel) (ad_cons (pd_var 1) ad_nil)) pd_str) (pd_ms PySem.F.slot_str_zfill PySem.F.type_str_zfill mt_zfill qm_zfill (pd_tc (CallR.or call_str_int SkE.call_str_str) cd_str rfl T.n_str (by decide +kernel) (ad_cons (pd_var 2) ad_nil)) (ad_cons pd_int ad_nil))))))
def lp_starts_1 : TDS :=
  (sSeq (sAsgT (gT 2 (gsC (gN 8) (gsC (gN 9) gsN))) (dBC cDivmod (dCons (dVar 6) (dCons (dVar 4) dNil))))
  (sDrop (dMt mAppend 5 (dCons (dTup (dCons (dCall m_clock [0] [] (cnt 1 (dCons (dOp gAddA (dVar 1) (dOp gMult (dVar 2) (dVar 8))) dNil)) dNil) (dCons (dOp gAddA (dVar 9) (dC (D.int 1))) (dCons (dVar 7) dNil)))) dNil))))
def body_starts : TDS :=
  (sSeq (sAsg 5 (vLst dNil))
  (sSeq (sFor (iEnmT (dCall m_groups [0, 2] [(D.int 3)] (cnt 1 (dCons (dVar 0) dNil)) (cnt 1 (dCons (dVar 3) dNil)))) (gT 2 (gsC (gN 6) (gsC (gN 7) gsN))) lp_starts_1)
  (sFz 5 (sRet (dBC cTuple (dCons (dVar 5) dNil))))))
def m_starts : FD := fnm 10 body_starts
theorem go_starts {x0 x1 x2 x3 x4 : D} {kx : XD → Prop} {k : D → Prop} (h : body_starts [.val x0, .val x1, .val x2, .val x3, .val x4, .un, .un, .un, .un, .un] (fun x _ => kx x) ⟨fun _ => k .non, fun d _ => k d, fun _ => False, fun _ => False⟩) : m_starts [x0, x1, x2, x3, x4] kx k := h
theorem ok_starts (T : Txt K mg) : FnOk P w K mg base (L2.CX P w) 2 T.a_starts T.d_starts ps_starts (SpD K mg ps_starts.length m_starts) := fn_d T.F_starts sc_starts fun cdv A outer s H E hr =>
  (bd_cons (sd_asg 5 sc_starts.nd rfl (.inl rfl) (vd_lst ad_nil))
  (bd_cons (sd_for (passes_of rfl) rfl (id_enumT rfl T.n_enumerate (pd_callK (ok_groups T) (hr.mono (by decide)) rfl T.g_groups T.F_groups.kp (b_groups_0 T) (dd_groups) (ad_cons (pd_var 0) ad_nil) (kd_cons (pd_var 3) kd_nil))) (gd_tup rfl (gsd_cons (gd_name 6 sc_starts.nd rfl (.inl rfl)) (gsd_cons (gd_name 7 sc_starts.nd rfl (.inl rfl)) gsd_nil))) (bd_cons (sd_asgT (pd_bc call_divmod cd_divmod rfl T.n_divmod (by decide +kernel) (ad_cons (pd_var 6) (ad_cons (pd_var 4) ad_nil))) (gd_tup rfl (gsd_cons (gd_name 8 sc_starts.nd rfl (.inl rfl)) (gsd_cons (gd_name 9 sc_starts.nd rfl (.inl rfl)) gsd_nil))))
  (bd_one (sd_expr (pd_mt 5 PySem.F.slot_list_append PySem.F.type_list_append mt_append md_append (ad_cons (pd_tup (ad_cons (pd_call (ok_clock T) (hr.mono (by decide)) rfl T.g_clock T.F_clock.kp (b_clock_0 T) (fun _ => dvs_nil) (ad_cons (pd_addA (pd_var 1) (pd_mult (pd_var 2) (pd_var 8))) ad_nil)) (ad_cons (pd_addA (pd_var 9) pd_int) (ad_cons (pd_var 7) ad_nil)))) ad_nil))))))
  (bd_one (sd_fz 5 (sd_ret (pd_tc call_tuple_ofF cd_tuple rfl T.n_tuple (by decide +kernel) (ad_cons (pd_var 5) ad_nil)))))))
def lp_law_flat_1 : TDS :=
  (sAsg 1 (vVal (dFz (vCat (dVar 1) (dFz (vBC cList (dCons (dVar 2) dNil)))))))
def body_law_flat : TDS :=
  (sSeq (sAsg 1 (vVal (dFz (vLst dNil))))
  (sSeq (sFor (iTupD (dVar 0)) (gN 2) lp_law_flat_1)
  (sRet (dVar 1))))
def m_law_flat : FD := fnm 3 body_law_flat
theorem go_law_flat {x0 : D} {kx : XD → Prop} {k : D → Prop} (h : body_law_flat [.val x0, .un, .un] (fun x _ => kx x) ⟨fun _ => k .non, fun d _ => k d, fun _ => False, fun _ => False⟩) : m_law_flat [x0] kx k := h
theorem ok_law_flat (T : Txt K mg) : FnOk P w K mg base (L2.CX P w) 1 T.a_law_flat T.d_law_flat ps_law_flat (SpD K mg ps_law_flat.length m_law_flat) := fn_d T.F_law_flat sc_law_flat fun cdv A outer s H E hr =>
  (bd_cons (sd_asg 1 sc_law_flat.nd rfl (.inl rfl) (PEd.v (PEv.d (vd_lst ad_nil))))
  (bd_cons (sd_for (passes_of rfl) rfl (id_tup (pd_var 0)) (gd_name 2 sc_law_flat.nd rfl (.inl rfl)) (bd_one (sd_asg 1 sc_law_flat.nd rfl (.inl rfl) (PEd.v (PEv.d (vd_cat (pd_var 1) (PEv.d (vd_tc call_list_of cv_list rfl T.n_list (by decide +kernel) (ad_cons (pd_var 2) ad_nil)))))))))
  (bd_one (sd_ret (pd_var 1)))))
def body_law_right : TDS :=
  (sSeq (sAsg 3 (vLc (iTupD (dVar 0)) (gN 4) tYesD (dBC cLen (dCons (dVar 4) dNil)) [4]))
  (sSeq (sFz 3 (sIf (dOr (dTest (dOp gNe (dCall m_law_flat [0] [] (cnt 1 (dCons (dVar 0) dNil)) dNil) (dFz (vBC cList (dCons (dVar 1) dNil))))) (dTest (dOp gNe (dVar 3) (dFz (vBC cSortedI (dCons (dVar 3) dNil)))))) (sRet (dC (D.bl false))) sNext))
  (sSeq (sIf (dTest (dOp gEq (dVar 1) (dTup dNil))) (sRet (dOp gEq (dVar 0) (dTup dNil))) sNext)
  (sFz 3 (sRet (dAndV (dOp gLeI (dBC cMaxA (dCons (dVar 3) dNil)) (dVar 2)) (dAndV (dOp gLeI (dOp gSub (dBC cMaxA (dCons (dVar 3) dNil)) (dBC cMinA (dCons (dVar 3) dNil))) (dC (D.int 1))) (dOp gLt (dOp gMult (dOp gSub (dBC cLen (dCons (dVar 0) dNil)) (dC (D.int 1))) (dVar 2)) (dBC cLen (dCons (dVar 1) dNil))))))))))
def m_law_right : FD := fnm 5 body_law_right
theorem go_law_right {x0 x1 x2 : D} {kx : XD → Prop} {k : D → Prop} (h : body_law_right [.val x0, .val x1, .val x2, .un, .un] (fun x _ => kx x) ⟨fun _ => k .non, fun d _ => k d, fun _ => False, fun _ => False⟩) : m_law_right [x0, x1, x2] kx k := h
theorem ok_law_right (T : Txt K mg) : FnOk P w K mg base (L2.CX P w) 2 T.a_law_right T.d_law_right ps_law_right (SpD K mg ps_law_right.length m_law_right) := fn_d T.F_law_right sc_law_right fun cdv A outer s H E hr =>
  (bd_cons (sd_lc (i := 3) rfl sc_law_right.nd rfl rfl (sw_true rfl rfl rfl (by decide +kernel)) (own := [("_law_group", 4)]) (id_tup (pd_var 0)) (blkOk_by (by with_unfolding_all rfl)) (by decide) (fun _ _ _ _ _ => (gd_name 4 sc_law_right.nd rfl (.inl rfl))) (fun _ _ _ _ _ => tsd_nil) (fun _ _ _ _ _ => (pd_bc call_len cd_len rfl T.n_len PySem.boot_len (ad_cons (pd_var 4) ad_nil))))
  (bd_cons (sd_fz 3 (sd_if (PWd.t (wd_or (td_ne hr (pd_call (ok_law_flat T) (hr.mono (by decide)) rfl T.g_law_flat T.F_law_flat.kp (b_law_flat_0 T) (fun _ => dvs_nil) (ad_cons (pd_var 0) ad_nil)) (PEv.d (vd_tc call_list_of cv_list rfl T.n_list (by decide +kernel) (ad_cons (pd_var 1) ad_nil)))) (wd_or1 (td_ne hr (pd_var 3) (PEv.d (vd_bc cr_sortedA cv_sortedI rfl T.n_sorted (by decide +kernel) (ad_cons (pd_var 3) ad_nil))))))) (bd_one (sd_ret pd_bl)) bd_nil))
  (bd_cons (sd_if (td_eq hr (pd_var 1) (pd_tup ad_nil)) (bd_one (sd_ret (pd_eq hr (pd_var 0) (pd_tup ad_nil)))) bd_nil)
  (bd_one (sd_fz 3 (sd_ret (pd_and (pd_cmp op_le od_leI (pd_bc (cr_maxA rfl hr) cd_maxA rfl T.n_max (by decide +kernel) (ad_cons (pd_var 3) ad_nil)) (pd_var 2) (nomark _)) (pd_and (pd_cmp op_le od_leI (pd_sub (pd_bc (cr_maxA rfl hr) cd_maxA rfl T.n_max (by decide +kernel) (ad_cons (pd_var 3) ad_nil)) (pd_bc (cr_minA rfl hr) cd_minA rfl T.n_min (by decide +kernel) (ad_cons (pd_var 3) ad_nil))) pd_int (nomark _)) (pd_one (pd_lt hr (pd_mult (pd_sub (pd_bc call_len cd_len rfl T.n_len PySem.boot_len (ad_cons (pd_var 0) ad_nil)) pd_int) (pd_var 2)) (pd_bc call_len cd_len rfl T.n_len PySem.boot_len (ad_cons (pd_var 1) ad_nil))))))))))))
def body_law_clock : TDS :=
  (sSeq (sPar [1, 2] (mCons (vVal (dOp gMod (dOp gDiv (dVar 0) (dC (D.int 60))) (dC (D.int 24)))) (mCons (vVal (dOp gMod (dVar 0) (dC (D.int 60)))) mNil)))
  (sRet (dOp gAddA (dOp gAddA (dBC cStr (dCons (dVar 1) dNil)) (dIf (dTest (dOp gGtI (dVar 2) (dC (D.int 9)))) (dC (D.str ":")) (dC (D.str ":0")))) (dBC cStr (dCons (dVar 2) dNil)))))
def m_law_clock : FD := fnm 3 body_law_clock
theorem go_law_clock {x0 : D} {kx : XD → Prop} {k : D → Prop} (h : body_law_clock [.val x0, .un, .un] (fun x _ => kx x) ⟨fun _ => k .non, fun d _ => k d, fun _ => False, fun _ => False⟩) : m_law_clock [x0] kx k := h
theorem ok_law_clock (T : Txt K mg) : FnOk P w K mg base (L2.CX P w) 1 T.a_law_clock T.d_law_clock ps_law_clock (SpD K mg ps_law_clock.length m_law_clock) := fn_d T.F_law_clock sc_law_clock fun cdv A outer s H E hr =>
  (bd_cons (sd_par2 1 2 rfl sc_law_clock.nd rfl rfl (by decide) rfl rfl (md_cons (PEd.v (pd_mod (pd_div (pd_var 0) pd_int) pd_int)) (md_cons (PEd.v (pd_mod (pd_var 0) pd_int)) md_nil)) (by rfl))
  (bd_one (sd_ret (pd_addA (pd_addA (pd_tc (CallR.or call_str_int SkE.call_str_str) cd_str rfl T.n_str (by decide +kernel) (ad_cons (pd_var 1) ad_nil)) (pd_if (td_cmp op_gt od_gtI (pd_var 2) pd_int (nomark _)) pd_str pd_str)) (pd_tc (CallR.or call_str_int SkE.call_str_str) cd_str rfl T.n_str (by decide +kernel) (ad_cons (pd_var 2) ad_nil))))))
def lp_law_1 : TDS :=
  (sDrop (dMt mAppend 9 (dCons (dTup (dCons (dCall m_law_clock [0] [] (cnt 1 (dCons (dOp gAddA (dVar 5) (dOp gMult (dVar 6) (dOp gDiv (dVar 10) (dVar 7)))) dNil)) dNil) (dCons (dOp gAddA (dC (D.int 1)) (dOp gMod (dVar 10) (dVar 7))) (dCons (dVar 11) dNil)))) dNil)))
def lp_law_2 : TDS :=
  (sSeq (sAsg 3 (vVal (dBC cTuple (dCons (dFz (vLc (iRg1 (dCons (dCall m_law_draw [0, 1, 2] [] (cnt 3 (dCons (dVar 0) (dCons (dVar 1) (dCons (dC (D.int 25)) dNil)))) dNil) dNil)) (gN 10) tYesD (dOp gAddA (dC (D.str "n")) (dBC cStr (dCons (dVar 10) dNil))) [10])) dNil))))
  (sSeq (sPar [4, 5] (mCons (vVal (dOp gAddA (dC (D.int 1)) (dCall m_law_draw [0, 1, 2] [] (cnt 3 (dCons (dVar 0) (dCons (dVar 1) (dCons (dC (D.int 5)) dNil)))) dNil))) (mCons (vVal (dCall m_law_draw [0, 1, 2] [] (cnt 3 (dCons (dVar 0) (dCons (dVar 1) (dCons (dC (D.int 1440)) dNil)))) dNil)) mNil)))
  (sSeq (sPar [6, 7] (mCons (vVal (dCall m_law_draw [0, 1, 2] [] (cnt 3 (dCons (dVar 0) (dCons (dVar 1) (dCons (dC (D.int 31)) dNil)))) dNil)) (mCons (vVal (dOp gAddA (dC (D.int 1)) (dCall m_law_draw [0, 1, 2] [] (cnt 3 (dCons (dVar 0) (dCons (dVar 1) (dCons (dC (D.int 3)) dNil)))) dNil))) mNil)))
  (sSeq (sAsg 8 (vVal (dCall m_groups [0, 1] [(D.int 3)] (cnt 2 (dCons (dVar 3) (dCons (dVar 4) dNil))) dNil)))
  (sSeq (sIf (dOr (dNot (dTru (dCall m_law_right [0, 1, 2] [] (cnt 3 (dCons (dVar 8) (dCons (dVar 3) (dCons (dVar 4) dNil)))) dNil))) (dNot (dTru (dCall m_law_right [0, 1, 2] [] (cnt 3 (dCons (dCall m_groups [0, 1] [(D.int 3)] (cnt 1 (dCons (dVar 3) dNil)) dNil) (dCons (dVar 3) (dCons (dC (D.int 3)) dNil)))) dNil)))) (sRet (dC (D.bl false))) sNext)
  (sSeq (sAsg 9 (vLst dNil))
  (sSeq (sFor (iEnmT (dVar 8)) (gT 2 (gsC (gN 10) (gsC (gN 11) gsN))) lp_law_1)
  (sSeq (sFz 9 (sIf (dTest (dOp gNe (dCall m_starts [0, 1, 2, 3, 4] [(D.int 8), (D.int 3), (D.int 1)] (cnt 5 (dCons (dVar 3) (dCons (dVar 5) (dCons (dVar 6) (dCons (dVar 4) (dCons (dVar 7) dNil)))))) dNil) (dBC cTuple (dCons (dVar 9) dNil)))) (sRet (dC (D.bl false))) sNext))
  (sSeq (sFz 9 (sIf (dTest (dOp gNe (dCall m_starts [0, 1, 7, 6, 5] [(D.int 8), (D.int 3), (D.int 1)] (cnt 2 (dCons (dVar 3) (dCons (dVar 5) dNil))) (cnt 3 (dCons (dVar 7) (dCons (dVar 4) (dCons (dVar 6) dNil))))) (dBC cTuple (dCons (dVar 9) dNil)))) (sRet (dC (D.bl false))) sNext))
  (sSeq (sAsg 12 (vLc (iEnmT (dCall m_groups [0, 2] [(D.int 3)] (cnt 1 (dCons (dVar 3) dNil)) (cnt 1 (dCons (dC (D.int 3)) dNil)))) (gT 2 (gsC (gN 10) (gsC (gN 11) gsN))) tYesD (dTup (dCons (dCall m_law_clock [0] [] (cnt 1 (dCons (dOp gAddA (dVar 5) (dOp gMult (dC (D.int 8)) (dVar 10))) dNil)) dNil) (dCons (dC (D.int 1)) (dCons (dVar 11) dNil)))) [10, 11]))
  (sFz 12 (sIf (dTest (dOp gNe (dCall m_starts [0, 1, 2, 3, 4] [(D.int 8), (D.int 3), (D.int 1)] (cnt 2 (dCons (dVar 3) (dCons (dVar 5) dNil))) dNil) (dBC cTuple (dCons (dVar 12) dNil)))) (sRet (dC (D.bl false))) sNext))))))))))))
def t_law : TDS :=
  (sSeq (sFor (iRg1 (dCons (dC (D.int 3)) dNil)) (gN 2) lp_law_2)
  (sRet (dOp gEq (dCall m_starts [0, 1, 5, 3, 4] [(D.int 8), (D.int 3), (D.int 1)] (cnt 2 (dCons (dTup (dCons (dC (D.str "a")) (dCons (dC (D.str "b")) (dCons (dC (D.str "c")) (dCons (dC (D.str "d")) dNil))))) (dCons (dC (D.int 1435)) dNil))) (cnt 1 (dCons (dC (D.int 5)) dNil))) (dTup (dCons (dTup (dCons (dC (D.str "23:55")) (dCons (dC (D.int 1)) (dCons (dTup (dCons (dC (D.str "a")) (dCons (dC (D.str "b")) dNil))) dNil)))) (dCons (dTup (dCons (dC (D.str "0:00")) (dCons (dC (D.int 1)) (dCons (dTup (dCons (dC (D.str "c")) (dCons (dC (D.str "d")) dNil))) dNil)))) dNil))))))
theorem ok_law (T : Txt K mg) (hτ : ∀ ns : List Int, ns.length ≤ 63 → t_law (rhoL N_law.length ns) nokx KL) : FnOk P w K mg base (L2.CX P w) 3 T.a_law T.d_law ["_law_script"] (spLaw K) := by
  refine fn_law (s0 := (defBody s_law).headD (.Pass ⟨0, 0, 0, 0⟩)) (rest := (defBody s_law).tail) T.F_law sc_law (by decide) hτ fun cdv A outer s H E hr => ⟨?_, ?_⟩
  · exact ps_set (i := 1) sc_law.nd rfl (.inl rfl) (pe_call0 (ok_law_begun T) (hr.mono (by decide)) rfl T.g_law_begun T.F_law_begun.kp (Fun_binds0 T.F_law_begun rfl) .nil passL)
  · exact (bd_cons (sd_for (passes_of rfl) rfl (id_range1 rfl T.n_range (ad_cons pd_int ad_nil)) (gd_name 2 sc_law.nd rfl (.inl rfl)) (bd_cons (sd_asg 3 sc_law.nd rfl (.inl rfl) (PEd.v (pd_tc call_tuple_ofF cd_tuple rfl T.n_tuple (by decide +kernel) (ad_cons (PEv.d (vd_lc (own := [("_law_at", 10)]) rfl sc_law.nd (id_range1 rfl T.n_range (ad_cons (pd_call (ok_law_draw T) (hr.mono (by decide)) rfl T.g_law_draw T.F_law_draw.kp (b_law_draw_0 T) (fun _ => dvs_nil) (ad_cons (pd_var 0) (ad_cons (pd_var 1) (ad_cons pd_int ad_nil)))) ad_nil)) (blkOk_by (by with_unfolding_all rfl)) (by decide) (fun _ _ _ _ _ => (gd_name 10 sc_law.nd rfl (.inl rfl))) (fun _ _ _ _ _ => tsd_nil) (fun _ _ _ _ _ => (pd_addA pd_str (pd_tc (CallR.or call_str_int SkE.call_str_str) cd_str rfl T.n_str (by decide +kernel) (ad_cons (pd_var 10) ad_nil)))))) ad_nil))))
  (bd_cons (sd_parT (by decide) rfl (md_cons (PEd.v (pd_addA pd_int (pd_call (ok_law_draw T) (hr.mono (by decide)) rfl T.g_law_draw T.F_law_draw.kp (b_law_draw_0 T) (fun _ => dvs_nil) (ad_cons (pd_var 0) (ad_cons (pd_var 1) (ad_cons pd_int ad_nil)))))) (md_cons (PEd.v (pd_call (ok_law_draw T) (hr.mono (by decide)) rfl T.g_law_draw T.F_law_draw.kp (b_law_draw_0 T) (fun _ => dvs_nil) (ad_cons (pd_var 0) (ad_cons (pd_var 1) (ad_cons pd_int ad_nil))))) md_nil)) (pn_cons 4 sc_law.nd rfl (.inl rfl) (pn_cons 5 sc_law.nd rfl (.inr rfl) pn_nil)))
  (bd_cons (sd_par2 6 7 rfl sc_law.nd rfl rfl (by decide) rfl rfl (md_cons (PEd.v (pd_call (ok_law_draw T) (hr.mono (by decide)) rfl T.g_law_draw T.F_law_draw.kp (b_law_draw_0 T) (fun _ => dvs_nil) (ad_cons (pd_var 0) (ad_cons (pd_var 1) (ad_cons pd_int ad_nil))))) (md_cons (PEd.v (pd_addA pd_int (pd_call (ok_law_draw T) (hr.mono (by decide)) rfl T.g_law_draw T.F_law_draw.kp (b_law_draw_0 T) (fun _ => dvs_nil) (ad_cons (pd_var 0) (ad_cons (pd_var 1) (ad_cons pd_int ad_nil)))))) md_nil)) (by rfl))
  (bd_cons (sd_asg 8 sc_law.nd rfl (.inl rfl) (PEd.v (pd_call (ok_groups T) (hr.mono (by decide)) rfl T.g_groups T.F_groups.kp (b_groups_1 T) (dd_groups) (ad_cons (pd_var 3) (ad_cons (pd_var 4) ad_nil)))))
  (bd_cons (sd_if (PWd.t (wd_or (td_not (td_tru (pd_call (ok_law_right T) (hr.mono (by decide)) rfl T.g_law_right T.F_law_right.kp (b_law_right_0 T) (fun _ => dvs_nil) (ad_cons (pd_var 8) (ad_cons (pd_var 3) (ad_cons (pd_var 4) ad_nil)))))) (wd_or1 (td_not (td_tru (pd_call (ok_law_right T) (hr.mono (by decide)) rfl T.g_law_right T.F_law_right.kp (b_law_right_0 T) (fun _ => dvs_nil) (ad_cons (pd_call (ok_groups T) (hr.mono (by decide)) rfl T.g_groups T.F_groups.kp (b_groups_2 T) (dd_groups) (ad_cons (pd_var 3) ad_nil)) (ad_cons (pd_var 3) (ad_cons pd_int ad_nil))))))))) (bd_one (sd_ret pd_bl)) bd_nil)
  (bd_cons (sd_asg 9 sc_law.nd rfl (.inl rfl) (vd_lst ad_nil))
  (bd_cons (sd_for (passes_of rfl) rfl (id_enumT rfl T.n_enumerate (pd_var 8)) (gd_tup rfl (gsd_cons (gd_name 10 sc_law.nd rfl (.inl rfl)) (gsd_cons (gd_name 11 sc_law.nd rfl (.inl rfl)) gsd_nil))) (bd_one (sd_expr (pd_mt 9 PySem.F.slot_list_append PySem.F.type_list_append mt_append md_append (ad_cons (pd_tup (ad_cons (pd_call (ok_law_clock T) (hr.mono (by decide)) rfl T.g_law_clock T.F_law_clock.kp (b_law_clock_0 T) (fun _ => dvs_nil) (ad_cons (pd_addA (pd_var 5) (pd_mult (pd_var 6) (pd_div (pd_var 10) (pd_var 7)))) ad_nil)) (ad_cons (pd_addA pd_int (pd_mod (pd_var 10) (pd_var 7))) (ad_cons (pd_var 11) ad_nil)))) ad_nil)))))
  (bd_cons (sd_fz 9 (sd_if (td_ne hr (pd_call (ok_starts T) (hr.mono (by decide)) rfl T.g_starts T.F_starts.kp (b_starts_0 T) (dd_starts) (ad_cons (pd_var 3) (ad_cons (pd_var 5) (ad_cons (pd_var 6) (ad_cons (pd_var 4) (ad_cons (pd_var 7) ad_nil)))))) (pd_tc call_tuple_ofF cd_tuple rfl T.n_tuple (by decide +kernel) (ad_cons (pd_var 9) ad_nil))) (bd_one (sd_ret pd_bl)) bd_nil))
  (bd_cons (sd_fz 9 (sd_if (td_ne hr (pd_callK (ok_starts T) (hr.mono (by decide)) rfl T.g_starts T.F_starts.kp (b_starts_1 T) (dd_starts) (ad_cons (pd_var 3) (ad_cons (pd_var 5) ad_nil)) (kd_cons (pd_var 7) (kd_cons (pd_var 4) (kd_cons (pd_var 6) kd_nil)))) (pd_tc call_tuple_ofF cd_tuple rfl T.n_tuple (by decide +kernel) (ad_cons (pd_var 9) ad_nil))) (bd_one (sd_ret pd_bl)) bd_nil))
  (bd_cons (sd_lc (i := 12) rfl sc_law.nd rfl rfl (sw_true rfl rfl rfl (by decide +kernel)) (own := [("_law_at", 10), ("_law_group", 11)]) (id_enumT rfl T.n_enumerate (pd_callK (ok_groups T) (hr.mono (by decide)) rfl T.g_groups T.F_groups.kp (b_groups_0 T) (dd_groups) (ad_cons (pd_var 3) ad_nil) (kd_cons pd_int kd_nil))) (blkOk_by (by with_unfolding_all rfl)) (by decide) (fun _ _ _ _ _ => (gd_tup rfl (gsd_cons (gd_name 10 sc_law.nd rfl (.inl rfl)) (gsd_cons (gd_name 11 sc_law.nd rfl (.inl rfl)) gsd_nil)))) (fun _ _ _ _ _ => tsd_nil) (fun _ _ _ _ _ => (pd_tup (ad_cons (pd_call (ok_law_clock T) (hr.mono (by decide)) rfl T.g_law_clock T.F_law_clock.kp (b_law_clock_0 T) (fun _ => dvs_nil) (ad_cons (pd_addA (pd_var 5) (pd_mult pd_int (pd_var 10))) ad_nil)) (ad_cons pd_int (ad_cons (pd_var 11) ad_nil))))))
  (bd_one (sd_fz 12 (sd_if (td_ne hr (pd_call (ok_starts T) (hr.mono (by decide)) rfl T.g_starts T.F_starts.kp (b_starts_2 T) (dd_starts) (ad_cons (pd_var 3) (ad_cons (pd_var 5) ad_nil))) (pd_tc call_tuple_ofF cd_tuple rfl T.n_tuple (by decide +kernel) (ad_cons (pd_var 12) ad_nil))) (bd_one (sd_ret pd_bl)) bd_nil))))))))))))))
  (bd_one (sd_ret (pd_eq hr (pd_callK (ok_starts T) (hr.mono (by decide)) rfl T.g_starts T.F_starts.kp (b_starts_3 T) (dd_starts) (ad_cons (pd_tup (ad_cons pd_str (ad_cons pd_str (ad_cons pd_str (ad_cons pd_str ad_nil))))) (ad_cons pd_int ad_nil)) (kd_cons pd_int kd_nil)) (pd_tup (ad_cons (pd_tup (ad_cons pd_str (ad_cons pd_int (ad_cons (pd_tup (ad_cons pd_str (ad_cons pd_str ad_nil))) ad_nil)))) (ad_cons (pd_tup (ad_cons pd_str (ad_cons pd_int (ad_cons (pd_tup (ad_cons pd_str (ad_cons pd_str ad_nil))) ad_nil)))) ad_nil)))))))
end
section
variable {K : PySem.W.Frag} {mg : Str → Option Value}
def mkT {h : Heap} (X : K.In h) (G : h.Ns mainGlobals mg) {f_law_draw : Addr} {od_law_draw an_law_draw : Option Addr} {sl_law_draw : Array (Option Value)} {oc_law_draw kV_law_draw dc_law_draw pm_law_draw cd_law_draw ct_law_draw : Value} {f_law_begun : Addr} {od_law_begun an_law_begun : Option Addr} {sl_law_begun : Array (Option Value)} {oc_law_begun kV_law_begun dc_law_begun pm_law_begun cd_law_begun ct_law_begun : Value} {f_groups : Addr} {od_groups an_groups : Option Addr} {sl_groups : Array (Option Value)} {oc_groups kV_groups dc_groups pm_groups cd_groups ct_groups : Value} {T_groups : Addr} {o_groups : Obj} {its_groups : List Value} {nn_groups : Nat} {f_clock : Addr} {od_clock an_clock : Option Addr} {sl_clock : Array (Option Value)} {oc_clock kV_clock dc_clock pm_clock cd_clock ct_clock : Value} {f_starts : Addr} {od_starts an_starts : Option Addr} {sl_starts : Array (Option Value)} {oc_starts kV_starts dc_starts pm_starts cd_starts ct_starts : Value} {T_starts : Addr} {o_starts : Obj} {its_starts : List Value} {nn_starts : Nat} {f_law_flat : Addr} {od_law_flat an_law_flat : Option Addr} {sl_law_flat : Array (Option Value)} {oc_law_flat kV_law_flat dc_law_flat pm_law_flat cd_law_flat ct_law_flat : Value} {f_law_right : Addr} {od_law_right an_law_right : Option Addr} {sl_law_right : Array (Option Value)} {oc_law_right kV_law_right dc_law_right pm_law_right cd_law_right ct_law_right : Value} {f_law_clock : Addr} {od_law_clock an_law_clock : Option Addr} {sl_law_clock : Array (Option Value)} {oc_law_clock kV_law_clock dc_law_clock pm_law_clock cd_law_clock ct_law_clock : Value} {f_law : Addr} {od_law an_law : Option Addr} {sl_law : Array (Option Value)} {oc_law kV_law dc_law pm_law cd_law ct_law : Value}
    (a_law_draw : PySem.W.nsIn K mainGlobals "_law_draw" = some (some (.ref f_law_draw)))
    (l_law_draw : K.lookup f_law_draw = some ⟨oc_law_draw, od_law_draw, .func (PySem.W.fnOf "_law_draw" "_law_draw" (defArgs s_law_draw) (defBody s_law_draw) (defScope s_law_draw) .none kV_law_draw dc_law_draw pm_law_draw an_law_draw cd_law_draw ct_law_draw), sl_law_draw⟩)
    (c_law_draw : PySem.W.codeIn K cd_law_draw "_law_draw" = true)
    (k_law_draw : PySem.W.keepIn K (.ref f_law_draw) = true)
    (a_law_begun : PySem.W.nsIn K mainGlobals "_law_begun" = some (some (.ref f_law_begun)))
    (l_law_begun : K.lookup f_law_begun = some ⟨oc_law_begun, od_law_begun, .func (PySem.W.fnOf "_law_begun" "_law_begun" (defArgs s_law_begun) (defBody s_law_begun) (defScope s_law_begun) .none kV_law_begun dc_law_begun pm_law_begun an_law_begun cd_law_begun ct_law_begun), sl_law_begun⟩)
    (c_law_begun : PySem.W.codeIn K cd_law_begun "_law_begun" = true)
    (k_law_begun : PySem.W.keepIn K (.ref f_law_begun) = true)
    (a_groups : PySem.W.nsIn K mainGlobals "groups" = some (some (.ref f_groups)))
    (l_groups : K.lookup f_groups = some ⟨oc_groups, od_groups, .func (PySem.W.fnOf "groups" "groups" (defArgs s_groups) (defBody s_groups) (defScope s_groups) (.ref T_groups) kV_groups dc_groups pm_groups an_groups cd_groups ct_groups), sl_groups⟩)
    (c_groups : PySem.W.codeIn K cd_groups "groups" = true)
    (k_groups : PySem.W.keepIn K (.ref f_groups) = true)
    (t_groups : K.lookup T_groups = some o_groups)
    (u_groups : o_groups.data = .seq its_groups.toArray nn_groups)
    (v_groups : Vals dv_groups its_groups)
    (a_clock : PySem.W.nsIn K mainGlobals "clock" = some (some (.ref f_clock)))
    (l_clock : K.lookup f_clock = some ⟨oc_clock, od_clock, .func (PySem.W.fnOf "clock" "clock" (defArgs s_clock) (defBody s_clock) (defScope s_clock) .none kV_clock dc_clock pm_clock an_clock cd_clock ct_clock), sl_clock⟩)
    (c_clock : PySem.W.codeIn K cd_clock "clock" = true)
    (k_clock : PySem.W.keepIn K (.ref f_clock) = true)
    (a_starts : PySem.W.nsIn K mainGlobals "starts" = some (some (.ref f_starts)))
    (l_starts : K.lookup f_starts = some ⟨oc_starts, od_starts, .func (PySem.W.fnOf "starts" "starts" (defArgs s_starts) (defBody s_starts) (defScope s_starts) (.ref T_starts) kV_starts dc_starts pm_starts an_starts cd_starts ct_starts), sl_starts⟩)
    (c_starts : PySem.W.codeIn K cd_starts "starts" = true)
    (k_starts : PySem.W.keepIn K (.ref f_starts) = true)
    (t_starts : K.lookup T_starts = some o_starts)
    (u_starts : o_starts.data = .seq its_starts.toArray nn_starts)
    (v_starts : Vals dv_starts its_starts)
    (a_law_flat : PySem.W.nsIn K mainGlobals "_law_flat" = some (some (.ref f_law_flat)))
    (l_law_flat : K.lookup f_law_flat = some ⟨oc_law_flat, od_law_flat, .func (PySem.W.fnOf "_law_flat" "_law_flat" (defArgs s_law_flat) (defBody s_law_flat) (defScope s_law_flat) .none kV_law_flat dc_law_flat pm_law_flat an_law_flat cd_law_flat ct_law_flat), sl_law_flat⟩)
    (c_law_flat : PySem.W.codeIn K cd_law_flat "_law_flat" = true)
    (k_law_flat : PySem.W.keepIn K (.ref f_law_flat) = true)
    (a_law_right : PySem.W.nsIn K mainGlobals "_law_right" = some (some (.ref f_law_right)))
    (l_law_right : K.lookup f_law_right = some ⟨oc_law_right, od_law_right, .func (PySem.W.fnOf "_law_right" "_law_right" (defArgs s_law_right) (defBody s_law_right) (defScope s_law_right) .none kV_law_right dc_law_right pm_law_right an_law_right cd_law_right ct_law_right), sl_law_right⟩)
    (c_law_right : PySem.W.codeIn K cd_law_right "_law_right" = true)
    (k_law_right : PySem.W.keepIn K (.ref f_law_right) = true)
    (a_law_clock : PySem.W.nsIn K mainGlobals "_law_clock" = some (some (.ref f_law_clock)))
    (l_law_clock : K.lookup f_law_clock = some ⟨oc_law_clock, od_law_clock, .func (PySem.W.fnOf "_law_clock" "_law_clock" (defArgs s_law_clock) (defBody s_law_clock) (defScope s_law_clock) .none kV_law_clock dc_law_clock pm_law_clock an_law_clock cd_law_clock ct_law_clock), sl_law_clock⟩)
    (c_law_clock : PySem.W.codeIn K cd_law_clock "_law_clock" = true)
    (k_law_clock : PySem.W.keepIn K (.ref f_law_clock) = true)
    (a_law : PySem.W.nsIn K mainGlobals "law" = some (some (.ref f_law)))
    (l_law : K.lookup f_law = some ⟨oc_law, od_law, .func (PySem.W.fnOf "law" "law" (defArgs s_law) (defBody s_law) (defScope s_law) .none kV_law dc_law pm_law an_law cd_law ct_law), sl_law⟩)
    (c_law : PySem.W.codeIn K cd_law "law" = true)
    (k_law : PySem.W.keepIn K (.ref f_law) = true)
    (z_divmod : PySem.W.nsIn K mainGlobals "divmod" = some none)
    (z_enumerate : PySem.W.nsIn K mainGlobals "enumerate" = some none)
    (z_int : PySem.W.nsIn K mainGlobals "int" = some none)
    (z_len : PySem.W.nsIn K mainGlobals "len" = some none)
    (z_list : PySem.W.nsIn K mainGlobals "list" = some none)
    (z_max : PySem.W.nsIn K mainGlobals "max" = some none)
    (z_min : PySem.W.nsIn K mainGlobals "min" = some none)
    (z_range : PySem.W.nsIn K mainGlobals "range" = some none)
    (z_sorted : PySem.W.nsIn K mainGlobals "sorted" = some none)
    (z_str : PySem.W.nsIn K mainGlobals "str" = some none)
    (z_tuple : PySem.W.nsIn K mainGlobals "tuple" = some none)
    : Txt K mg where
  a_law_draw := f_law_draw
  d_law_draw := _
  F_law_draw := ⟨⟨_, _, _, _, _, _, _, _, _, _, rfl, l_law_draw, c_law_draw, .inl ⟨rfl, rfl⟩, .inl rfl⟩, k_law_draw⟩
  g_law_draw := PySem.W.mg_of X G a_law_draw
  a_law_begun := f_law_begun
  d_law_begun := _
  F_law_begun := ⟨⟨_, _, _, _, _, _, _, _, _, _, rfl, l_law_begun, c_law_begun, .inl ⟨rfl, rfl⟩, .inl rfl⟩, k_law_begun⟩
  g_law_begun := PySem.W.mg_of X G a_law_begun
  a_groups := f_groups
  d_groups := _
  F_groups := ⟨⟨_, _, _, _, _, _, _, _, _, _, rfl, l_groups, c_groups, .inr ⟨by decide, _, _, _, _, rfl, t_groups, u_groups, v_groups⟩, .inl rfl⟩, k_groups⟩
  g_groups := PySem.W.mg_of X G a_groups
  a_clock := f_clock
  d_clock := _
  F_clock := ⟨⟨_, _, _, _, _, _, _, _, _, _, rfl, l_clock, c_clock, .inl ⟨rfl, rfl⟩, .inl rfl⟩, k_clock⟩
  g_clock := PySem.W.mg_of X G a_clock
  a_starts := f_starts
  d_starts := _
  F_starts := ⟨⟨_, _, _, _, _, _, _, _, _, _, rfl, l_starts, c_starts, .inr ⟨by decide, _, _, _, _, rfl, t_starts, u_starts, v_starts⟩, .inl rfl⟩, k_starts⟩
  g_starts := PySem.W.mg_of X G a_starts
  a_law_flat := f_law_flat
  d_law_flat := _
  F_law_flat := ⟨⟨_, _, _, _, _, _, _, _, _, _, rfl, l_law_flat, c_law_flat, .inl ⟨rfl, rfl⟩, .inl rfl⟩, k_law_flat⟩
  g_law_flat := PySem.W.mg_of X G a_law_flat
  a_law_right := f_law_right
  d_law_right := _
  F_law_right := ⟨⟨_, _, _, _, _, _, _, _, _, _, rfl, l_law_right, c_law_right, .inl ⟨rfl, rfl⟩, .inl rfl⟩, k_law_right⟩
  g_law_right := PySem.W.mg_of X G a_law_right
  a_law_clock := f_law_clock
  d_law_clock := _
  F_law_clock := ⟨⟨_, _, _, _, _, _, _, _, _, _, rfl, l_law_clock, c_law_clock, .inl ⟨rfl, rfl⟩, .inl rfl⟩, k_law_clock⟩
  g_law_clock := PySem.W.mg_of X G a_law_clock
  a_law := f_law
  d_law := _
  F_law := ⟨⟨_, _, _, _, _, _, _, _, _, _, rfl, l_law, c_law, .inl ⟨rfl, rfl⟩, .inl rfl⟩, k_law⟩
  g_law := PySem.W.mg_of X G a_law
  n_divmod := PySem.W.mg_none_of X G z_divmod
  n_enumerate := PySem.W.mg_none_of X G z_enumerate
  n_int := PySem.W.mg_none_of X G z_int
  n_len := PySem.W.mg_none_of X G z_len
  n_list := PySem.W.mg_none_of X G z_list
  n_max := PySem.W.mg_none_of X G z_max
  n_min := PySem.W.mg_none_of X G z_min
  n_range := PySem.W.mg_none_of X G z_range
  n_sorted := PySem.W.mg_none_of X G z_sorted
  n_str := PySem.W.mg_none_of X G z_str
  n_tuple := PySem.W.mg_none_of X G z_tuple
end
theorem all_mk {l : PySem.W.OpenLaw} {w : World} {K : PySem.W.Frag} {h : Heap} {mg : Str → Option Value} {fa : Addr} (X : K.In h) (G : h.Ns mainGlobals mg) (hfa : mg "law" = some (.ref fa)) (hτ : ∀ ns : List Int, ns.length ≤ 63 → t_law (rhoL N_law.length ns) nokx KL)
    {f_law_draw : Addr} {od_law_draw an_law_draw : Option Addr} {sl_law_draw : Array (Option Value)} {oc_law_draw kV_law_draw dc_law_draw pm_law_draw cd_law_draw ct_law_draw : Value} {f_law_begun : Addr} {od_law_begun an_law_begun : Option Addr} {sl_law_begun : Array (Option Value)} {oc_law_begun kV_law_begun dc_law_begun pm_law_begun cd_law_begun ct_law_begun : Value} {f_groups : Addr} {od_groups an_groups : Option Addr} {sl_groups : Array (Option Value)} {oc_groups kV_groups dc_groups pm_groups cd_groups ct_groups : Value} {T_groups : Addr} {o_groups : Obj} {its_groups : List Value} {nn_groups : Nat} {f_clock : Addr} {od_clock an_clock : Option Addr} {sl_clock : Array (Option Value)} {oc_clock kV_clock dc_clock pm_clock cd_clock ct_clock : Value} {f_starts : Addr} {od_starts an_starts : Option Addr} {sl_starts : Array (Option Value)} {oc_starts kV_starts dc_starts pm_starts cd_starts ct_starts : Value} {T_starts : Addr} {o_starts : Obj} {its_starts : List Value} {nn_starts : Nat} {f_law_flat : Addr} {od_law_flat an_law_flat : Option Addr} {sl_law_flat : Array (Option Value)} {oc_law_flat kV_law_flat dc_law_flat pm_law_flat cd_law_flat ct_law_flat : Value} {f_law_right : Addr} {od_law_right an_law_right : Option Addr} {sl_law_right : Array (Option Value)} {oc_law_right kV_law_right dc_law_right pm_law_right cd_law_right ct_law_right : Value} {f_law_clock : Addr} {od_law_clock an_law_clock : Option Addr} {sl_law_clock : Array (Option Value)} {oc_law_clock kV_law_clock dc_law_clock pm_law_clock cd_law_clock ct_law_clock : Value} {f_law : Addr} {od_law an_law : Option Addr} {sl_law : Array (Option Value)} {oc_law kV_law dc_law pm_law cd_law ct_law : Value}
    (a_law_draw : PySem.W.nsIn K mainGlobals "_law_draw" = some (some (.ref f_law_draw)))
    (l_law_draw : K.lookup f_law_draw = some ⟨oc_law_draw, od_law_draw, .func (PySem.W.fnOf "_law_draw" "_law_draw" (defArgs s_law_draw) (defBody s_law_draw) (defScope s_law_draw) .none kV_law_draw dc_law_draw pm_law_draw an_law_draw cd_law_draw ct_law_draw), sl_law_draw⟩)
    (c_law_draw : PySem.W.codeIn K cd_law_draw "_law_draw" = true)
    (k_law_draw : PySem.W.keepIn K (.ref f_law_draw) = true)
    (a_law_begun : PySem.W.nsIn K mainGlobals "_law_begun" = some (some (.ref f_law_begun)))
    (l_law_begun : K.lookup f_law_begun = some ⟨oc_law_begun, od_law_begun, .func (PySem.W.fnOf "_law_begun" "_law_begun" (defArgs s_law_begun) (defBody s_law_begun) (defScope s_law_begun) .none kV_law_begun dc_law_begun pm_law_begun an_law_begun cd_law_begun ct_law_begun), sl_law_begun⟩)
    (c_law_begun : PySem.W.codeIn K cd_law_begun "_law_begun" = true)
    (k_law_begun : PySem.W.keepIn K (.ref f_law_begun) = true)
    (a_groups : PySem.W.nsIn K mainGlobals "groups" = some (some (.ref f_groups)))
    (l_groups : K.lookup f_groups = some ⟨oc_groups, od_groups, .func (PySem.W.fnOf "groups" "groups" (defArgs s_groups) (defBody s_groups) (defScope s_groups) (.ref T_groups) kV_groups dc_groups pm_groups an_groups cd_groups ct_groups), sl_groups⟩)
    (c_groups : PySem.W.codeIn K cd_groups "groups" = true)
    (k_groups : PySem.W.keepIn K (.ref f_groups) = true)
    (t_groups : K.lookup T_groups = some o_groups)
    (u_groups : o_groups.data = .seq its_groups.toArray nn_groups)
    (v_groups : Vals dv_groups its_groups)
    (a_clock : PySem.W.nsIn K mainGlobals "clock" = some (some (.ref f_clock)))
    (l_clock : K.lookup f_clock = some ⟨oc_clock, od_clock, .func (PySem.W.fnOf "clock" "clock" (defArgs s_clock) (defBody s_clock) (defScope s_clock) .none kV_clock dc_clock pm_clock an_clock cd_clock ct_clock), sl_clock⟩)
    (c_clock : PySem.W.codeIn K cd_clock "clock" = true)
    (k_clock : PySem.W.keepIn K (.ref f_clock) = true)
    (a_starts : PySem.W.nsIn K mainGlobals "starts" = some (some (.ref f_starts)))
    (l_starts : K.lookup f_starts = some ⟨oc_starts, od_starts, .func (PySem.W.fnOf "starts" "starts" (defArgs s_starts) (defBody s_starts) (defScope s_starts) (.ref T_starts) kV_starts dc_starts pm_starts an_starts cd_starts ct_starts), sl_starts⟩)
    (c_starts : PySem.W.codeIn K cd_starts "starts" = true)
    (k_starts : PySem.W.keepIn K (.ref f_starts) = true)
    (t_starts : K.lookup T_starts = some o_starts)
    (u_starts : o_starts.data = .seq its_starts.toArray nn_starts)
    (v_starts : Vals dv_starts its_starts)
    (a_law_flat : PySem.W.nsIn K mainGlobals "_law_flat" = some (some (.ref f_law_flat)))
    (l_law_flat : K.lookup f_law_flat = some ⟨oc_law_flat, od_law_flat, .func (PySem.W.fnOf "_law_flat" "_law_flat" (defArgs s_law_flat) (defBody s_law_flat) (defScope s_law_flat) .none kV_law_flat dc_law_flat pm_law_flat an_law_flat cd_law_flat ct_law_flat), sl_law_flat⟩)
    (c_law_flat : PySem.W.codeIn K cd_law_flat "_law_flat" = true)
    (k_law_flat : PySem.W.keepIn K (.ref f_law_flat) = true)
    (a_law_right : PySem.W.nsIn K mainGlobals "_law_right" = some (some (.ref f_law_right)))
    (l_law_right : K.lookup f_law_right = some ⟨oc_law_right, od_law_right, .func (PySem.W.fnOf "_law_right" "_law_right" (defArgs s_law_right) (defBody s_law_right) (defScope s_law_right) .none kV_law_right dc_law_right pm_law_right an_law_right cd_law_right ct_law_right), sl_law_right⟩)
    (c_law_right : PySem.W.codeIn K cd_law_right "_law_right" = true)
    (k_law_right : PySem.W.keepIn K (.ref f_law_right) = true)
    (a_law_clock : PySem.W.nsIn K mainGlobals "_law_clock" = some (some (.ref f_law_clock)))
    (l_law_clock : K.lookup f_law_clock = some ⟨oc_law_clock, od_law_clock, .func (PySem.W.fnOf "_law_clock" "_law_clock" (defArgs s_law_clock) (defBody s_law_clock) (defScope s_law_clock) .none kV_law_clock dc_law_clock pm_law_clock an_law_clock cd_law_clock ct_law_clock), sl_law_clock⟩)
    (c_law_clock : PySem.W.codeIn K cd_law_clock "_law_clock" = true)
    (k_law_clock : PySem.W.keepIn K (.ref f_law_clock) = true)
    (a_law : PySem.W.nsIn K mainGlobals "law" = some (some (.ref f_law)))
    (l_law : K.lookup f_law = some ⟨oc_law, od_law, .func (PySem.W.fnOf "law" "law" (defArgs s_law) (defBody s_law) (defScope s_law) .none kV_law dc_law pm_law an_law cd_law ct_law), sl_law⟩)
    (c_law : PySem.W.codeIn K cd_law "law" = true)
    (k_law : PySem.W.keepIn K (.ref f_law) = true)
    (z_divmod : PySem.W.nsIn K mainGlobals "divmod" = some none)
    (z_enumerate : PySem.W.nsIn K mainGlobals "enumerate" = some none)
    (z_int : PySem.W.nsIn K mainGlobals "int" = some none)
    (z_len : PySem.W.nsIn K mainGlobals "len" = some none)
    (z_list : PySem.W.nsIn K mainGlobals "list" = some none)
    (z_max : PySem.W.nsIn K mainGlobals "max" = some none)
    (z_min : PySem.W.nsIn K mainGlobals "min" = some none)
    (z_range : PySem.W.nsIn K mainGlobals "range" = some none)
    (z_sorted : PySem.W.nsIn K mainGlobals "sorted" = some none)
    (z_str : PySem.W.nsIn K mainGlobals "str" = some none)
    (z_tuple : PySem.W.nsIn K mainGlobals "tuple" = some none)
    : ∃ fd : FuncData, (∀ (s : Shared) (v : Value), BindsTo s fd ⟨[v], []⟩ [("_law_script", v)]) ∧ ∀ base : Heap, K.In base → base.Ns mainGlobals mg → FnOk l.prog w K mg base (L2.CX l.prog w) 3 fa fd ["_law_script"] (spLaw K) := by
  have e := hfa.symm.trans (PySem.W.mg_of X G a_law)
  cases e
  exact ⟨_, fun s v => .of_eq rfl, fun base _ _ => ok_law (mkT X G a_law_draw l_law_draw c_law_draw k_law_draw a_law_begun l_law_begun c_law_begun k_law_begun a_groups l_groups c_groups k_groups t_groups u_groups v_groups a_clock l_clock c_clock k_clock a_starts l_starts c_starts k_starts t_starts u_starts v_starts a_law_flat l_law_flat c_law_flat k_law_flat a_law_right l_law_right c_law_right k_law_right a_law_clock l_law_clock c_law_clock k_law_clock a_law l_law c_law k_law z_divmod z_enumerate z_int z_len z_list z_max z_min z_range z_sorted z_str z_tuple) hτ⟩
end L38
set_option maxHeartbeats 4000000
namespace L38
open PySem PySem.Spec PyProof.Rows L2 DL CS
local macro_rules | `(tactic| sizeOf_list_dec) => `(tactic| with_reducible first
  | (refine x_varP (by with_unfolding_all rfl) ?_) | (refine x_var (by with_unfolding_all rfl) ?_) | (refine x_varS (by with_unfolding_all rfl) ?_)
  | (refine x_C ?_) | (refine x_op ?_) | (refine x_un ?_) | (refine x_sub ?_)
  | (refine x_mul (by first | with_unfolding_all decide | (unfold CMul; omega)) ?_) | (refine x_mult (by first | with_unfolding_all decide | (unfold CMul; omega)) ?_)
  | (refine x_div (by unfold CDivN; omega) ?_) | (refine x_mod (by omega) ?_) | (refine x_add ?_) | (refine x_lt ?_) | (refine x_ltI ?_) | (refine x_leI ?_) | (refine x_gtI ?_) | (refine x_geI ?_)
  | (refine x_is ?_) | (refine x_notis ?_) | (refine x_neg ?_) | (refine x_eqI ?_) | (refine x_neI ?_)
  | (refine x_dtestK ?_) | (refine x_testK ?_) | (refine x_and ?_) | (refine x_or ?_) | (refine x_not ?_) | (refine x_dif ?_)
  | (refine x_T ?_) | (refine x_F ?_) | (refine x_nT ?_) | (refine x_nF ?_)
  | (refine x_nil ?_) | (refine x_cons ?_) | (refine x_cntK ?_) | (refine x_lens (by with_unfolding_all rfl) ?_)
  | (refine x_tupK ?_) | (refine x_tupD (by first | with_unfolding_all decide | (simp only [BIG, List.length_cons, List.length_nil]; omega)) ?_) | (refine x_tupPD (by first | with_unfolding_all decide | (simp only [BIG, List.length_cons, List.length_nil]; omega)) ?_) | (refine x_lstK ?_) | (refine x_lstD (by first | with_unfolding_all decide | (simp only [BIG, List.length_cons, List.length_nil]; omega)) ?_)
  | (refine x_dct ?_) | (refine x_fzS ?_) | (refine x_fzOwn ?_) | (refine x_val ?_)
  | (refine x_callK ?_) | (refine x_callD (by first | (dsimp only [pickD_cons, pickD_nil, List.cons_append, List.nil_append, List.append_nil, gD0, gDs]; done) | (dsimp only [pickD_cons, pickD_nil, List.cons_append, List.nil_append, List.append_nil, gD0, gDs]; exact rfl)) ?_)
  | (refine x_bc ?_) | (refine x_min2 ?_) | (refine x_max2 ?_)
  | (refine x_seq ?_) | (refine x_next ?_) | (refine x_brk ?_) | (refine x_cont ?_) | (refine x_drop ?_) | (refine x_ret ?_) | (refine x_retN ?_) | (refine x_if ?_)
  | (refine x_asgK ?_) | (refine x_setK (by first | (dsimp only [List.set_cons_zero, List.set_cons_succ]; done) | (dsimp only [List.set_cons_zero, List.set_cons_succ]; exact rfl)) ?_)
  | (refine x_asgT ?_) | (refine x_gN (by first | (dsimp only [List.set_cons_zero, List.set_cons_succ]; done) | (dsimp only [List.set_cons_zero, List.set_cons_succ]; exact rfl)) ?_) | (refine x_gsN ?_) | (refine x_gsC ?_) | (refine x_gT (by with_unfolding_all rfl) ?_)
  | (refine x_mNil ?_) | (refine x_mCons ?_) | (refine x_parK ?_) | (refine x_parD (by with_unfolding_all rfl) (by first | (dsimp only [setS, List.set_cons_zero, List.set_cons_succ]; done) | (dsimp only [setS, List.set_cons_zero, List.set_cons_succ]; exact rfl)) ?_)
  | (refine x_for ?_) | (refine x_rg1 ?_) | (refine x_rg2 ?_) | (refine x_rg1K (by omega) ?_) | (refine x_rg2K (by omega) ?_)
  | (refine x_andV ?_) | (refine x_orV ?_) | (refine x_notV ?_) | (refine x_andK ?_) | (refine x_orK ?_) | (refine x_notK ?_)
  | (refine x_addI ?_) | (refine x_ixL (by with_unfolding_all rfl) ?_) | (refine x_ixT (by with_unfolding_all rfl) ?_) | (refine x_slT ?_) | (refine x_oNo ?_) | (refine x_oInt ?_) | (refine x_oIntK ?_)
  | (refine x_vbc ?_) | (refine x_lenT ?_) | (refine x_lenL ?_) | (refine x_lenO1 (by with_unfolding_all rfl) ?_) | (refine x_lenO2 ?_) | (refine x_ixO1 (by with_unfolding_all rfl) ?_) | (refine x_ixO2 ?_)
  | (refine x_mt (by with_unfolding_all rfl) ?_) | (refine x_fld ?_) | (refine x_fldS ?_) | (refine x_fldP (by with_unfolding_all rfl) ?_) | (refine x_fldSK (by with_unfolding_all rfl) ?_) | (refine x_fldK (by with_unfolding_all rfl) ?_) | (refine x_selfS ?_)
  | (refine x_selfK (by with_unfolding_all rfl) (by with_unfolding_all decide) (by first | (dsimp only [List.set_cons_zero, List.set_cons_succ, List.cons_append, List.nil_append]; done) | (dsimp only [List.set_cons_zero, List.set_cons_succ, List.cons_append, List.nil_append]; exact rfl)) ?_)
  | (refine x_endI (by with_unfolding_all rfl) ?_) | (refine x_lenI ?_) | (refine x_lenK2 ?_) | (refine x_isi_NoneType_int ?_) | (refine x_isi_NoneType_bool ?_) | (refine x_isi_NoneType_str ?_) | (refine x_isi_NoneType_tuple ?_) | (refine x_isi_NoneType_list ?_) | (refine x_isi_bool_int ?_) | (refine x_isi_bool_bool ?_) | (refine x_isi_bool_str ?_) | (refine x_isi_bool_tuple ?_) | (refine x_isi_bool_list ?_) | (refine x_isi_int_int ?_) | (refine x_isi_int_bool ?_) | (refine x_isi_int_str ?_) | (refine x_isi_int_tuple ?_) | (refine x_isi_int_list ?_) | (refine x_isi_str_int ?_) | (refine x_isi_str_bool ?_) | (refine x_isi_str_str ?_) | (refine x_isi_str_tuple ?_) | (refine x_isi_str_list ?_) | (refine x_isi_tuple_int ?_) | (refine x_isi_tuple_bool ?_) | (refine x_isi_tuple_str ?_) | (refine x_isi_tuple_tuple ?_) | (refine x_isi_tuple_list ?_) | (refine x_isi_list_int ?_) | (refine x_isi_list_bool ?_) | (refine x_isi_list_str ?_) | (refine x_isi_list_tuple ?_) | (refine x_isi_list_list ?_)
  | (refine x_tupleT ?_) | (refine x_sumT ?_) | (refine x_sumL ?_) | (refine x_allL ?_) | (refine x_intI ?_) | (refine x_intB ?_) | (refine x_abs ?_) | (refine x_divmod (by omega) ?_)
  | (refine x_lcS ?_) | (refine x_lcK (by with_unfolding_all rfl) (by first | (dsimp only [wipeR, List.set_cons_zero, List.set_cons_succ]; done) | (dsimp only [wipeR, List.set_cons_zero, List.set_cons_succ]; exact rfl)) ?_) | (refine x_iseqS ?_) | (refine x_iseqD ?_) | (refine x_itupS ?_) | (refine x_itupD ?_) | (refine x_chain ?_) | (refine x_chK ?_)
  | (refine x_rgL1 ?_) | (refine x_rgL2 ?_) | (refine x_rg1LK (by omega) ?_) | (refine x_rg2LK (by omega) ?_)
  | (refine x_sfz (by first | (simp only [fzR, S.toD, List.getElem?_cons_zero, List.getElem?_cons_succ, List.set_cons_zero, List.set_cons_succ]; done) | (simp only [fzR, S.toD, List.getElem?_cons_zero, List.getElem?_cons_succ, List.set_cons_zero, List.set_cons_succ]; exact rfl)) ?_)
  | (refine x_gaddI ?_) | (refine x_aug (by with_unfolding_all rfl) ?_) | (refine x_augK (by with_unfolding_all rfl) ?_) | (refine x_setVK (by first | (dsimp only [List.set_cons_zero, List.set_cons_succ]; done) | (dsimp only [List.set_cons_zero, List.set_cons_succ]; exact rfl)) ?_) | (refine x_augIx (by with_unfolding_all rfl) ?_)
  | (refine x_strS ?_) | (refine x_strI (by first | assumption | (unfold Sm; omega)) ?_) | (refine x_fmt ?_) | (refine x_fmtS ?_) | (refine x_fmtI (by first | assumption | (unfold Sm; omega)) ?_) | (refine x_joined ?_) | (refine x_js0 ?_) | (refine x_js ?_)
  | (refine x_tru ?_) | (refine x_truK (by with_unfolding_all rfl) ?_) | (refine x_bk ?_) | (refine x_bkK ?_) | (refine x_bkv ?_) | (refine x_bkvK ?_) | (refine x_revT ?_) | (refine x_revL ?_) | (refine x_revTK (by first | with_unfolding_all decide | (simp only [BIG, List.length_cons, List.length_nil]; omega)) ?_) | (refine x_revLK (by first | with_unfolding_all decide | (simp only [BIG, List.length_cons, List.length_nil]; omega)) ?_)
  | (refine x_cat ?_) | (refine x_catK ?_) | (refine x_rep ?_) | (refine x_repK ?_) | (refine x_pow (by decide) ?_)
  | (refine x_mv ?_) | (refine x_mvT ?_) | (refine x_isLst ?_) | (refine x_isPtp ?_) | (refine x_mvK ?_) | (refine x_mvtK ?_)
  | (refine x_zpS ?_) | (refine x_zp ?_) | (refine x_zpNT ?_) | (refine x_zpNL ?_) | (refine x_enm ?_) | (refine x_enmK ?_) | (refine x_enmT ?_) | (refine x_enmTK ?_) | (refine x_gTp (by with_unfolding_all rfl) ?_))
/-! the pieces -/
def many (m p : Nat) : Nat := (m + p - 1) / p
def sz (m p k : Nat) : Nat := m / many m p + if many m p - m % many m p ≤ k then 1 else 0
def atf (m p k : Nat) : Nat := k * (m / many m p) + (k - (many m p - m % many m p))
theorem atf_succ (m p k : Nat) : atf m p (k + 1) = atf m p k + sz m p k := by
  unfold atf sz
  rw [Nat.add_mul, Nat.one_mul]
  split <;> omega
theorem many_pos {m p : Nat} (hp : 1 ≤ p) (hm : 1 ≤ m) : 1 ≤ many m p := by
  unfold many
  exact (Nat.le_div_iff_mul_le (by omega)).mpr (by omega)
theorem many_le {m p : Nat} (hp : 1 ≤ p) : many m p ≤ m := by
  unfold many
  refine Nat.le_of_lt_succ ((Nat.div_lt_iff_lt_mul (by omega)).mpr ?_)
  have : m + 1 ≤ (m + 1) * p := Nat.le_mul_of_pos_right _ (by omega)
  have h2 : m ≤ m * p := Nat.le_mul_of_pos_right _ (by omega)
  show m + p - 1 < (m + 1) * p
  rw [Nat.add_mul, Nat.one_mul]
  omega
theorem many_up {m p : Nat} (hp : 1 ≤ p) : m ≤ many m p * p := by
  unfold many
  have h1 := Nat.div_add_mod (m + p - 1) p
  have h2 := Nat.mod_lt (m + p - 1) (show 0 < p by omega)
  rw [Nat.mul_comm] at h1
  omega
theorem many_down {m p : Nat} (hp : 1 ≤ p) (hm : 1 ≤ m) : (many m p - 1) * p < m := by
  have h1 := Nat.div_add_mod (m + p - 1) p
  have h0 := many_pos hp hm
  have e : many m p = (m + p - 1) / p := rfl
  rw [← e, Nat.mul_comm] at h1
  rw [Nat.sub_mul, Nat.one_mul]
  have : p ≤ many m p * p := Nat.le_mul_of_pos_left _ (by omega)
  omega
theorem atf_end {m p : Nat} (hp : 1 ≤ p) (hm : 1 ≤ m) : atf m p (many m p) = m := by
  have h0 := many_pos hp hm
  have h1 := Nat.div_add_mod m (many m p)
  have h2 := Nat.mod_lt m (show 0 < many m p by omega)
  unfold atf
  omega
theorem atf_mono (m p : Nat) : ∀ {j k : Nat}, j ≤ k → atf m p j ≤ atf m p k := fun {j k} h => by
  induction h with
  | refl => exact Nat.le_refl _
  | step h ih => rw [atf_succ]; omega
def grp (names : List Str) (p : Nat) : List (List Str) := (List.range (many names.length p)).map fun k => (names.drop (atf names.length p k)).take (sz names.length p k)
theorem grp_len (names : List Str) (p : Nat) : (grp names p).length = many names.length p := by unfold grp; rw [List.length_map, List.length_range]
theorem flat_take (names : List Str) (p : Nat) : ∀ n, ((List.range n).map fun k => (names.drop (atf names.length p k)).take (sz names.length p k)).flatten = names.take (atf names.length p n)
  | 0 => by simp [atf]
  | n + 1 => by
    rw [List.range_succ, List.map_append, List.flatten_append, flat_take names p n, atf_succ, List.take_add]
    simp
theorem grp_flat (names : List Str) {p : Nat} (hp : 1 ≤ p) : (grp names p).flatten = names := by
  unfold grp
  rw [flat_take]
  by_cases h : 1 ≤ names.length
  · rw [atf_end hp h, List.take_length]
  · have e : names = [] := List.eq_nil_of_length_eq_zero (by omega)
    subst e
    simp
theorem grp_sz {names : List Str} {p k : Nat} (hp : 1 ≤ p) (hk : k < many names.length p) : ((names.drop (atf names.length p k)).take (sz names.length p k)).length = sz names.length p k := by
  have hm : 1 ≤ names.length := by
    have := many_le (m := names.length) hp
    omega
  have h1 := atf_mono names.length p (show k + 1 ≤ many names.length p by omega)
  rw [atf_end hp hm, atf_succ] at h1
  rw [List.length_take, List.length_drop]
  omega
theorem grp_sizes (names : List Str) {p : Nat} (hp : 1 ≤ p) : (grp names p).map (fun g => (g.length : Int)) = (List.range (many names.length p)).map fun k => (sz names.length p k : Int) := by
  unfold grp
  rw [List.map_map]
  refine List.map_congr_left fun k hk => ?_
  show ((((names.drop (atf names.length p k)).take (sz names.length p k)).length : Nat) : Int) = _
  rw [grp_sz hp (List.mem_range.mp hk)]
theorem sizes_sorted (m p n : Nat) : ((List.range n).map fun k => (sz m p k : Int)).Pairwise (· ≤ ·) := by
  refine List.pairwise_map.mpr ((List.pairwise_lt_range (n := n)).imp fun {a b} h => ?_)
  unfold sz
  split <;> split <;> omega
theorem sz_le {m p k : Nat} (hp : 1 ≤ p) (hm : 1 ≤ m) (hk : k < many m p) : sz m p k ≤ p := by
  have h0 := many_pos hp hm
  have h1 := Nat.div_add_mod m (many m p)
  have h3 := many_up (m := m) hp
  unfold sz
  generalize m / many m p = q at *
  generalize m % many m p = r at *
  generalize many m p = y at *
  by_cases c : r = 0
  · rw [if_neg (by omega), Nat.add_zero]
    have h5 : y * q ≤ y * p := by omega
    exact Nat.le_of_mul_le_mul_left h5 (by omega)
  · have h5 : y * q < y * p := by omega
    have := Nat.lt_of_mul_lt_mul_left h5
    split <;> omega
/-! the clock -/
def Tx (i : Int) : Str := Str.ofString (toString i)
theorem zfill_two (n : Nat) (h : n < 60) : Txt.zfill (Tx (n : Int)) 2 = if 9 < n then Tx (n : Int) else "0" ++ Tx (n : Int) := by
  have : ∀ n : Fin 60, Txt.zfill (Tx ((n : Nat) : Int)) 2 = if 9 < (n : Nat) then Tx ((n : Nat) : Int) else "0" ++ Tx ((n : Nat) : Int) := by decide +kernel
  exact this ⟨n, h⟩
def clk (x : Int) : Str := (Tx (x % 1440 / 60) ++ ":") ++ Txt.zfill (Tx (x % 1440 % 60)) 2
theorem zfill_sok (n : Nat) (h : n < 60) : SOk (Txt.zfill (Tx (n : Int)) 2) ∧ (Txt.zfill (Tx (n : Int)) 2).length ≤ 2 := by
  have : ∀ n : Fin 60, (Txt.zfill (Tx ((n : Nat) : Int)) 2).length ≤ 2 ∧ (Txt.zfill (Tx ((n : Nat) : Int)) 2).cps.all (· < 0x110000) = true := by decide +kernel
  obtain ⟨h1, h2⟩ := this ⟨n, h⟩
  exact ⟨⟨Nat.le_trans h1 (by decide), h2⟩, h1⟩
theorem cut_mid (ds : List D) (a b : Int) (h0 : 0 ≤ a) (h1 : a ≤ b) (h2 : b ≤ ds.length) : cutD ds (some a) (some b) = (ds.drop a.toNat).take (b - a).toNat := by
  unfold DL.cutD HT.sIx
  dsimp only
  rw [if_neg (by omega), if_neg (by omega), Nat.min_eq_left (by omega), Nat.min_eq_left (by omega)]
  congr 1
  omega
abbrev nT (l : List Str) : D := .tup (l.map D.str)
theorem plns_str : ∀ (n : Nat) (l : List Str), plns n (l.map D.str) = true
  | _, [] => rfl
  | n, a :: l => by rw [List.map_cons]; simp only [plns, pln, Bool.true_and]; exact plns_str n l
theorem grp_nil {p : Nat} (hp : 1 ≤ p) : grp [] p = [] := by
  have h := many_le (m := 0) hp
  unfold grp
  rw [show ([] : List Str).length = 0 from rfl, show many 0 p = 0 by omega]
  rfl
theorem deq_ne {names : List Str} (h : 1 ≤ names.length) : deq (nT names) (.tup []) = false := by
  cases names with
  | nil => simp at h
  | cons a l => rfl
theorem v_groups (names : List Str) (p : Nat) (hp : 1 ≤ p ∧ p ≤ 100) (hn : names.length ≤ 1000) {kx : XD → Prop} {k : D → Prop}
    (hk : k (.tup ((grp names p).map nT))) : m_groups [nT names, .int (p : Nat)] kx k := by
  refine go_groups ?_
  unfold body_groups
  by_cases hm : 1 ≤ names.length
  · have hd := deq_ne hm
    have h0 := many_pos hp.1 hm
    have hle := many_le (m := names.length) hp.1
    repeat sizeOf_list_dec
    refine x_eq (plns_str 8 _) rfl ?_
    rw [hd]
    repeat sizeOf_list_dec
    have e1 : ((names.length : Int) + (p : Int) - 1) / (p : Int) = ((many names.length p : Nat) : Int) := by
      unfold many
      rw [Int.natCast_ediv]
      congr 1
      omega
    rw [List.length_map]
    try rw [Int.fdiv_eq_ediv_of_nonneg _ (by omega : (0 : Int) ≤ (p : Int))]
    rw [e1]
    repeat sizeOf_list_dec
    rw [← Int.natCast_ediv, ← Int.natCast_emod, Int.toNat_natCast]
    refine x_for_rng (fun n ρ => ∃ a7 a8 : S, ρ = [.val (nT names), .val (.int (p : Nat)), .val (.int (many names.length p : Nat)), .val (.int (names.length / many names.length p : Nat)), .val (.int (names.length % many names.length p : Nat)),
      .own (((List.range n).map fun k => (names.drop (atf names.length p k)).take (sz names.length p k)).map nT), .val (.int (atf names.length p n : Nat)), a7, a8]) ⟨.un, .un, by simp [atf]⟩ ?_ ?_
    · rintro ρ ⟨a7, a8, rfl⟩
      repeat sizeOf_list_dec
      refine x_tupleL (by rw [List.length_map, List.length_map, List.length_range]; unfold BIG; omega) ?_
      repeat sizeOf_list_dec
      exact hk
    · rintro n ρ P hlt ⟨a7, a8, rfl⟩ hP
      have hP := hP _ ⟨.val (.int (0 + (n : Nat))), .val (.int (sz names.length p n : Nat)), rfl⟩
      have h3 := atf_mono names.length p (show n + 1 ≤ many names.length p by omega)
      rw [atf_end hp.1 hm, atf_succ] at h3
      rw [List.range_succ, List.map_append, List.map_append, atf_succ] at hP
      unfold lp_groups_1
      repeat sizeOf_list_dec
      have e2 : ((names.length / many names.length p : Nat) : Int) + (if decide (0 + (n : Int) ≥ ((many names.length p : Nat) : Int) - ((names.length % many names.length p : Nat) : Int)) = true then 1 else 0) = ((sz names.length p n : Nat) : Int) := by
        unfold sz
        generalize names.length / many names.length p = q at *
        have := Nat.mod_lt names.length (show 0 < many names.length p by omega)
        generalize names.length % many names.length p = r at *
        by_cases c : many names.length p - r ≤ n
        · rw [if_pos c, if_pos (by rw [decide_eq_true_eq]; omega)]; omega
        · rw [if_neg c, if_neg (by rw [decide_eq_true_eq]; omega)]; omega
      rw [e2]
      repeat sizeOf_list_dec
      refine x_slTK (by rw [List.length_map]; unfold BIG; omega) ?_
      rw [cut_mid _ _ _ (by omega) (by omega) (by rw [List.length_map]; omega), Int.toNat_natCast, show ((atf names.length p n : Int) + (sz names.length p n : Int) - (atf names.length p n : Int)).toNat = sz names.length p n by omega, ← List.map_drop, ← List.map_take]
      repeat sizeOf_list_dec
      refine x_append rfl (by rw [List.length_map, List.length_map, List.length_range]; unfold BIG; omega) rfl ?_
      simp only [List.set_cons_succ, List.set_cons_zero]
      repeat sizeOf_list_dec
      exact hP
  · have e : names = [] := List.eq_nil_of_length_eq_zero (by omega)
    subst e
    rw [grp_nil hp.1] at hk
    repeat sizeOf_list_dec
    refine x_eq rfl rfl ?_
    rw [show deq (nT []) (.tup []) = true from rfl]
    repeat sizeOf_list_dec
    exact hk
theorem v_clock (x : Int) (hx : 0 ≤ x ∧ x ≤ 1000000) {kx : XD → Prop} {k : D → Prop} (hk : k (.str (clk x))) : m_clock [.int x] kx k := by
  refine go_clock ?_
  unfold body_clock
  have s1 : Sm (x % 1440 / 60) := by unfold Sm; omega
  have s2 : Sm (x % 1440 % 60) := by unfold Sm; omega
  have hl := len10 s1
  have hl2 := len10 s2
  have hc : (":" : Str).length = 1 := by decide +kernel
  obtain ⟨n, en⟩ : ∃ n : Nat, x % 1440 % 60 = (n : Int) := ⟨(x % 1440 % 60).toNat, by omega⟩
  obtain ⟨z1, z2⟩ := zfill_sok n (by omega)
  rw [← en] at z1 z2
  repeat sizeOf_list_dec
  try rw [Int.fmod_eq_emod_of_nonneg x (by omega : (0 : Int) ≤ 1440)]
  repeat sizeOf_list_dec
  refine x_addS (by unfold BIG; omega) ?_
  repeat sizeOf_list_dec
  refine x_ms ?_
  repeat sizeOf_list_dec
  refine x_isStr ?_
  repeat sizeOf_list_dec
  refine x_msK ?_
  refine x_zfill (by decide) z1 ?_
  repeat sizeOf_list_dec
  refine x_addS (by rw [str_len_app]; unfold Tx at z2; unfold BIG; omega) ?_
  exact hk
theorem v_lclock (x : Int) (hx : 0 ≤ x ∧ x ≤ 1000000) {kx : XD → Prop} {k : D → Prop} (hk : k (.str (clk x))) : m_law_clock [.int x] kx k := by
  refine go_law_clock ?_
  unfold body_law_clock
  have s1 : Sm (x % 1440 / 60) := by unfold Sm; omega
  have s2 : Sm (x % 1440 % 60) := by unfold Sm; omega
  have hl := len10 s1
  have hl2 := len10 s2
  have hc : (":" : Str).length = 1 := by decide +kernel
  have hc2 : (":0" : Str).length = 2 := by decide +kernel
  have e1 : x / 60 % 24 = x % 1440 / 60 := by omega
  have e2 : x % 60 = x % 1440 % 60 := by omega
  have ez : (":0" : Str) = ":" ++ "0" := by decide +kernel
  obtain ⟨n, en⟩ : ∃ n : Nat, x % 1440 % 60 = (n : Int) := ⟨(x % 1440 % 60).toNat, by omega⟩
  have zz := zfill_two n (by omega)
  rw [← en] at zz
  unfold clk at hk
  rw [zz] at hk
  repeat sizeOf_list_dec
  rw [Int.fdiv_eq_ediv_of_nonneg x (by omega : (0 : Int) ≤ 60), Int.fmod_eq_emod_of_nonneg (x / 60) (by omega : (0 : Int) ≤ 24), Int.fmod_eq_emod_of_nonneg x (by omega : (0 : Int) ≤ 60), e1, e2]
  repeat sizeOf_list_dec
  refine x_iteD (fun c => ?_) (fun c => ?_)
  · rw [if_pos (by omega)] at hk
    repeat sizeOf_list_dec
    refine x_addS (by unfold BIG; omega) ?_
    repeat sizeOf_list_dec
    refine x_addS (by rw [str_len_app]; unfold BIG; omega) ?_
    exact hk
  · rw [if_neg (by omega)] at hk
    repeat sizeOf_list_dec
    refine x_addS (by unfold BIG; omega) ?_
    repeat sizeOf_list_dec
    refine x_addS (by rw [str_len_app]; unfold BIG; omega) ?_
    rw [ez]
    rw [Str.append_assoc] at hk
    rw [Str.append_assoc, Str.append_assoc]
    exact hk
def st1 (first gap : Int) (tees : Nat) (g : List Str × Nat) : D := .tup [.str (clk (first + gap * (g.2 / tees : Nat))), .int ((g.2 % tees : Nat) + 1), nT g.1]
def stl (names : List Str) (first gap : Int) (p tees : Nat) : List D := (grp names p).zipIdx.map (st1 first gap tees)
theorem plns_st (first gap : Int) (tees : Nat) : ∀ l : List (List Str × Nat), plns 8 (l.map (st1 first gap tees)) = true
  | [] => rfl
  | a :: l => by
    rw [List.map_cons]
    simp only [plns, Bool.and_eq_true]
    refine ⟨?_, plns_st first gap tees l⟩
    show (true && (true && (plns 6 (a.1.map D.str) && true))) = true
    rw [plns_str]
    rfl
theorem gap_bd {gap : Int} {q : Nat} (h : 0 ≤ gap ∧ gap ≤ 100) (hq : q ≤ 1000) : 0 ≤ gap * (q : Int) ∧ gap * (q : Int) ≤ 100000 := by
  have h1 : 0 ≤ gap * (q : Int) := Int.mul_nonneg h.1 (by omega)
  have h2 : gap * (q : Int) ≤ 100 * (q : Int) := Int.mul_le_mul_of_nonneg_right h.2 (by omega)
  omega
theorem v_starts (names : List Str) (first gap : Int) (p tees : Nat) (hp : 1 ≤ p ∧ p ≤ 100) (ht : 1 ≤ tees ∧ tees ≤ 100) (hn : names.length ≤ 1000) (hf : 0 ≤ first ∧ first ≤ 100000) (hg : 0 ≤ gap ∧ gap ≤ 100) {kx : XD → Prop} {k : D → Prop}
    (hk : k (.tup (stl names first gap p tees))) : m_starts [nT names, .int first, .int gap, .int (p : Nat), .int (tees : Nat)] kx k := by
  have hle := many_le (m := names.length) hp.1
  refine go_starts ?_
  unfold body_starts
  repeat sizeOf_list_dec
  refine v_groups names p hp hn ?_
  repeat sizeOf_list_dec
  rw [enumD_map]
  refine x_for_pre (fun pre ρ => ∃ a6 a7 a8 a9 : S, ρ = [.val (nT names), .val (.int first), .val (.int gap), .val (.int (p : Nat)), .val (.int (tees : Nat)), .own (pre.map (st1 first gap tees)), a6, a7, a8, a9]) ⟨_, _, _, _, rfl⟩ ?_ ?_
  · rintro ρ ⟨a6, a7, a8, a9, rfl⟩
    repeat sizeOf_list_dec
    refine x_tupleL (by rw [List.length_map, List.length_zipIdx, grp_len]; unfold BIG; omega) ?_
    repeat sizeOf_list_dec
    exact hk
  · rintro pre ⟨g, i⟩ post ρ P hpp ⟨a6, a7, a8, a9, rfl⟩ hP
    have hi := zipIdx_mem (show (g, i) ∈ (grp names p).zipIdx by rw [hpp]; simp)
    have hil : i < (grp names p).length := (List.getElem?_eq_some_iff.mp hi).1
    rw [grp_len] at hil
    have hpl : pre.length ≤ 1000 := by
      have := congrArg List.length hpp
      rw [List.length_zipIdx, grp_len, List.length_append] at this
      omega
    have hP := hP _ ⟨.val (.int (i : Nat)), .val (nT g), .val (.int (i / tees : Nat)), .val (.int (i % tees : Nat)), rfl⟩
    rw [List.map_append] at hP
    have hq := gap_bd hg (show i / tees ≤ 1000 from Nat.le_trans (Nat.div_le_self ..) (by omega))
    unfold lp_starts_1
    repeat sizeOf_list_dec
    rw [← Int.natCast_ediv, ← Int.natCast_emod]
    repeat sizeOf_list_dec
    refine v_clock _ (by omega) ?_
    repeat sizeOf_list_dec
    refine x_append rfl (by rw [List.length_map]; unfold BIG; omega) rfl ?_
    simp only [List.set_cons_succ, List.set_cons_zero]
    repeat sizeOf_list_dec
    exact hP
theorem v_flat (gs : List (List Str)) (h : gs.flatten.length ≤ 1000) {kx : XD → Prop} {k : D → Prop} (hk : k (.lst (gs.flatten.map D.str))) : m_law_flat [.tup (gs.map nT)] kx k := by
  refine go_law_flat ?_
  unfold body_law_flat
  repeat sizeOf_list_dec
  refine x_for_pre (fun pre ρ => ∃ a2 : S, ρ = [.val (.tup (gs.map nT)), .val (.lst (pre.flatten.map D.str)), a2]) ⟨_, rfl⟩ ?_ ?_
  · rintro ρ ⟨a2, rfl⟩
    repeat sizeOf_list_dec
    exact hk
  · rintro pre g post ρ P hpp ⟨a2, rfl⟩ hP
    have hP := hP _ ⟨.val (nT g), rfl⟩
    rw [List.flatten_append, List.map_append] at hP
    rw [hpp, List.flatten_append, List.flatten_cons, List.length_append, List.length_append] at h
    unfold lp_law_flat_1
    repeat sizeOf_list_dec
    refine x_listT (by rw [List.length_map]; unfold BIG; omega) ?_
    repeat sizeOf_list_dec
    refine x_catL (by rw [List.length_map, List.length_map]; unfold BIG; omega) ?_
    repeat sizeOf_list_dec
    simpa using hP
theorem v_right (names : List Str) (p : Nat) (hp : 1 ≤ p ∧ p ≤ 100) (hn : names.length ≤ 1000) {kx : XD → Prop} {k : D → Prop} (hk : k (.bl true)) : m_law_right [.tup ((grp names p).map nT), nT names, .int (p : Nat)] kx k := by
  have hle := many_le (m := names.length) hp.1
  refine go_law_right ?_
  unfold body_law_right
  repeat sizeOf_list_dec
  refine x_lc_mapA (fun g => .int (g.length : Nat)) (fun g hg A hA => ?_) ?_
  · repeat sizeOf_list_dec
    rw [List.length_map]
    exact ⟨rfl, hA⟩
  have es : ((grp names p).map fun g => D.int (g.length : Nat)) = ((List.range (many names.length p)).map fun k => (sz names.length p k : Int)).map D.int := by
    rw [← grp_sizes names hp.1, List.map_map]; rfl
  rw [es]
  have hso := sizes_sorted names.length p (many names.length p)
  have hsl : ((List.range (many names.length p)).map fun k => (sz names.length p k : Int)).length = many names.length p := by simp
  have hsm : ∀ x ∈ (List.range (many names.length p)).map fun k => (sz names.length p k : Int), 1 ≤ names.length → x ≤ p ∧ (names.length / many names.length p : Nat) ≤ x ∧ x ≤ (names.length / many names.length p : Nat) + 1 := fun x hx h1 => by
    obtain ⟨j, hj, rfl⟩ := List.mem_map.mp hx
    have := sz_le hp.1 h1 (List.mem_range.mp hj)
    have e : sz names.length p j = names.length / many names.length p + if many names.length p - names.length % many names.length p ≤ j then 1 else 0 := rfl
    split at e <;> omega
  generalize (List.range (many names.length p)).map (fun k => (sz names.length p k : Int)) = zs at *
  repeat sizeOf_list_dec
  refine v_flat _ (by rw [grp_flat names hp.1]; exact hn) ?_
  rw [grp_flat names hp.1]
  repeat sizeOf_list_dec
  refine x_listT (by rw [List.length_map]; unfold BIG; omega) ?_
  repeat sizeOf_list_dec
  refine x_neRefl (plns_str 8 _) ?_
  repeat sizeOf_list_dec
  refine ⟨zs, rfl, by unfold BIG; omega, fun ms q1 q2 => ?_⟩
  have em : ms = zs := sorted_uniq q1 q2 hso
  subst em
  repeat sizeOf_list_dec
  refine x_neRefl (pln_lstI _) ?_
  repeat sizeOf_list_dec
  by_cases hm : 1 ≤ names.length
  · have h0 := many_pos hp.1 hm
    have hdn := many_down hp.1 hm
    refine x_eq (plns_str 8 _) rfl ?_
    rw [deq_ne hm]
    repeat sizeOf_list_dec
    refine x_maxAL (by omega) fun mx a1 a2 => ?_
    have b1 := hsm mx a1 hm
    repeat sizeOf_list_dec
    refine x_yes (by omega) ?_
    repeat sizeOf_list_dec
    refine x_maxAL (by omega) fun mx2 a1 a2 => ?_
    have b2 := hsm mx2 a1 hm
    repeat sizeOf_list_dec
    refine x_minAL (by omega) fun mn2 a1 a2 => ?_
    have b3 := hsm mn2 a1 hm
    repeat sizeOf_list_dec
    refine x_yes (by omega) ?_
    repeat sizeOf_list_dec
    have e : decide ((((((grp names p).map nT).length : Nat) : Int) - 1) * (p : Int) < (((names.map D.str).length : Nat) : Int)) = true := by
      rw [decide_eq_true_eq, List.length_map, List.length_map, grp_len]
      have : (((many names.length p - 1) * p : Nat) : Int) < (names.length : Int) := by omega
      rw [Int.natCast_mul, Int.natCast_sub h0] at this
      exact this
    rw [e]
    exact hk
  · have e : names = [] := List.eq_nil_of_length_eq_zero (by omega)
    subst e
    refine x_eq rfl rfl ?_
    rw [show deq (nT []) (.tup []) = true from rfl]
    repeat sizeOf_list_dec
    rw [grp_nil hp.1]
    refine x_eqRefl rfl ?_
    exact hk
theorem All2.ex {α : Type} {β : Type} {f : β → D} {P : β → Prop} {xs : List α} {ys : List D} (h : All2 (fun _ y => ∃ a, y = f a ∧ P a) xs ys) : ∃ l : List β, ys = l.map f ∧ l.length = xs.length ∧ ∀ a ∈ l, P a := by
  induction h with
  | nil => exact ⟨[], rfl, rfl, fun _ h => by cases h⟩
  | cons h _ ih =>
    obtain ⟨a, rfl, ha⟩ := h
    obtain ⟨l, rfl, hl, hp⟩ := ih
    refine ⟨a :: l, rfl, by simp [hl], fun b hb => ?_⟩
    rcases List.mem_cons.mp hb with rfl | hb
    · exact ha
    · exact hp b hb
theorem last_st : stl ["a", "b", "c", "d"] 1435 5 3 1 = [.tup [.str "23:55", .int 1, .tup [.str "a", .str "b"]], .tup [.str "0:00", .int 1, .tup [.str "c", .str "d"]]] := by
  have e : grp ["a", "b", "c", "d"] 3 = ([["a", "b"], ["c", "d"]] : List (List Str)) := by decide +kernel
  have c1 : clk (1435 + 5 * ((0 / 1 : Nat) : Int)) = "23:55" := by decide +kernel
  have c2 : clk (1435 + 5 * ((1 / 1 : Nat) : Int)) = "0:00" := by decide +kernel
  unfold stl
  rw [e]
  show [st1 1435 5 1 (["a", "b"], 0), st1 1435 5 1 (["c", "d"], 1)] = _
  unfold st1
  rw [c1, c2]
  rfl
def ok2 (a b : S) : Prop := (a = .un ∧ b = .un) ∨ ∃ d e : D, a = .val d ∧ b = .val e
theorem rng_mem {lo : Int} {N : Nat} {d : D} (h : d ∈ rng lo N) : ∃ j : Nat, j < N ∧ d = .int (lo + (j : Nat)) := by
  obtain ⟨j, hj, e⟩ := List.mem_map.mp h
  exact ⟨j, List.mem_range.mp hj, e.symm⟩
theorem st1_plain (first : Int) (g : List Str) (q : Nat) : st1 first 8 1 (g, q) = .tup [.str (clk (first + 8 * (q : Int))), .int 1, nT g] := by
  unfold st1
  rw [Nat.div_one, Nat.mod_one]
  rfl
theorem law_holds : ∀ ns : List Int, ns.length ≤ 63 → t_law (rhoL N_law.length ns) nokx KL := by
  intro ns hn
  unfold t_law
  repeat sizeOf_list_dec
  refine x_for_rng (fun _ ρ => ∃ a2 a3 a4 a5 a6 a7 a8 a9 a10 a11 a12 : S, ok2 a10 a11 ∧ ρ = [.val (.scr ns), .val .town, a2, a3, a4, a5, a6, a7, a8, a9, a10, a11, a12]) ⟨_, _, _, _, _, _, _, _, _, _, _, .inl ⟨rfl, rfl⟩, rfl⟩ ?_ ?_
  · rintro ρ ⟨a2, a3, a4, a5, a6, a7, a8, a9, a10, a11, a12, _, rfl⟩
    repeat sizeOf_list_dec
    refine v_starts ["a", "b", "c", "d"] 1435 5 3 1 (by omega) (by omega) (by decide) (by omega) (by omega) ?_
    rw [last_st]
    repeat sizeOf_list_dec
    refine x_eqRefl rfl ?_
    rfl
  · rintro i ρ P hi ⟨a2, a3, a4, a5, a6, a7, a8, a9, a10, a11, a12, hok, rfl⟩ hP
    have hn1 : ("n" : Str).length = 1 := by decide +kernel
    have hP2 : ∀ a2 a3 a4 a5 a6 a7 a8 a9 a10 a11 a12 : S, ok2 a10 a11 → P [.val (.scr ns), .val .town, a2, a3, a4, a5, a6, a7, a8, a9, a10, a11, a12] := fun a2 a3 a4 a5 a6 a7 a8 a9 a10 a11 a12 h => hP _ ⟨_, _, _, _, _, _, _, _, _, _, _, h, rfl⟩
    clear hP
    unfold lp_law_2
    rcases hok with ⟨rfl, rfl⟩ | ⟨d0, e0, rfl, rfl⟩
    all_goals
      repeat sizeOf_list_dec
      refine x_draw (by decide) fun v1 l1 u1 => ?_
      repeat sizeOf_list_dec
      refine x_lc_all (fun _ y => ∃ n : Str, y = .str n ∧ True) (fun d hd A hA => ?_) fun ys hys => ?_
      · obtain ⟨j, hj, rfl⟩ := rng_mem hd
        have sm : Sm (0 + (j : Int)) := by unfold Sm; omega
        have hl := len10 sm
        repeat sizeOf_list_dec
        refine x_addS (by unfold BIG; omega) ?_
        exact ⟨rfl, hA _ ⟨_, rfl, trivial⟩⟩
      obtain ⟨names, rfl, hnl, _⟩ := All2.ex hys
      rw [rng_len] at hnl
      have hnl : names.length ≤ 1000 := by omega
      repeat sizeOf_list_dec
      refine x_tupleL (by rw [List.length_map]; unfold BIG; omega) ?_
      repeat sizeOf_list_dec
      refine x_draw (by decide) fun v2 l2 u2 => ?_
      obtain ⟨p, ep⟩ : ∃ p : Nat, 1 + v2 = (p : Int) := ⟨(1 + v2).toNat, by omega⟩
      repeat sizeOf_list_dec
      rw [ep]
      refine x_draw (by decide) fun first l3 u3 => ?_
      repeat sizeOf_list_dec
      refine x_draw (by decide) fun gap l4 u4 => ?_
      repeat sizeOf_list_dec
      refine x_draw (by decide) fun v5 l5 u5 => ?_
      obtain ⟨tees, et⟩ : ∃ t : Nat, 1 + v5 = (t : Int) := ⟨(1 + v5).toNat, by omega⟩
      repeat sizeOf_list_dec
      rw [et]
      refine v_groups names p (by omega) hnl ?_
      repeat sizeOf_list_dec
      refine v_right names p (by omega) hnl ?_
      repeat sizeOf_list_dec
      refine v_groups names 3 (by omega) hnl ?_
      repeat sizeOf_list_dec
      refine v_right names 3 (by omega) hnl ?_
      repeat sizeOf_list_dec
      rw [enumD_map]
      have hle := many_le (m := names.length) (p := p) (by omega)
      refine x_for_pre (fun pre ρ => ∃ a10 a11 : S, ok2 a10 a11 ∧ ρ = [.val (.scr ns), .val .town, .val (.int (0 + (i : Nat))), .val (nT names), .val (.int (p : Nat)), .val (.int first), .val (.int gap), .val (.int (tees : Nat)), .val (.tup ((grp names p).map nT)), .own (pre.map (st1 first gap tees)), a10, a11, a12]) ?_ ?_ ?_
      · first
          | exact ⟨_, _, .inl ⟨rfl, rfl⟩, rfl⟩
          | exact ⟨_, _, .inr ⟨_, _, rfl, rfl⟩, rfl⟩
      · rintro ρ ⟨a10, a11, hok, rfl⟩
        rcases hok with ⟨rfl, rfl⟩ | ⟨d1, e1, rfl, rfl⟩
        all_goals
          repeat sizeOf_list_dec
          refine v_starts names first gap p tees (by omega) (by omega) hnl (by omega) (by omega) ?_
          repeat sizeOf_list_dec
          refine x_tupleL (by rw [List.length_map, List.length_zipIdx, grp_len]; unfold BIG; omega) ?_
          repeat sizeOf_list_dec
          refine x_neRefl (x := .tup (stl names first gap p tees)) (plns_st ..) ?_
          repeat sizeOf_list_dec
          refine v_starts names first gap p tees (by omega) (by omega) hnl (by omega) (by omega) ?_
          repeat sizeOf_list_dec
          refine x_tupleL (by rw [List.length_map, List.length_zipIdx, grp_len]; unfold BIG; omega) ?_
          repeat sizeOf_list_dec
          refine x_neRefl (x := .tup (stl names first gap p tees)) (plns_st ..) ?_
          repeat sizeOf_list_dec
          refine v_groups names 3 (by omega) hnl ?_
          repeat sizeOf_list_dec
          rw [enumD_map]
          have hle3 := many_le (m := names.length) (p := 3) (by omega)
          refine x_lc_mapA (st1 first 8 1) (fun g hg A hA => ?_) ?_
          · obtain ⟨g, q⟩ := g
            have hq := zipIdx_mem hg
            have hql : q < (grp names 3).length := (List.getElem?_eq_some_iff.mp hq).1
            rw [grp_len] at hql
            rw [st1_plain] at hA
            repeat sizeOf_list_dec
            refine v_lclock _ (by omega) ?_
            repeat sizeOf_list_dec
            exact ⟨rfl, hA⟩
          repeat sizeOf_list_dec
          refine v_starts names first 8 3 1 (by omega) (by omega) hnl (by omega) (by omega) ?_
          repeat sizeOf_list_dec
          refine x_tupleL (by rw [List.length_map, List.length_zipIdx, grp_len]; unfold BIG; omega) ?_
          repeat sizeOf_list_dec
          refine x_neRefl (x := .tup (stl names first 8 3 1)) (plns_st ..) ?_
          repeat sizeOf_list_dec
          first
            | exact hP2 _ _ _ _ _ _ _ _ _ _ _ (.inl ⟨rfl, rfl⟩)
            | exact hP2 _ _ _ _ _ _ _ _ _ _ _ (.inr ⟨_, _, rfl, rfl⟩)
      · rintro pre ⟨g, q⟩ post ρ P' hpp ⟨a10, a11, _, rfl⟩ hP
        have hqm := zipIdx_mem (show (g, q) ∈ (grp names p).zipIdx by rw [hpp]; simp)
        have hql : q < (grp names p).length := (List.getElem?_eq_some_iff.mp hqm).1
        rw [grp_len] at hql
        have hpl : pre.length ≤ 1000 := by
          have := congrArg List.length hpp
          rw [List.length_zipIdx, grp_len, List.length_append] at this
          omega
        have hP := hP _ ⟨.val (.int (q : Nat)), .val (nT g), .inr ⟨_, _, rfl, rfl⟩, rfl⟩
        rw [List.map_append] at hP
        have hq2 := gap_bd (gap := gap) (by omega) (show q / tees ≤ 1000 from Nat.le_trans (Nat.div_le_self ..) (by omega))
        unfold lp_law_1
        repeat sizeOf_list_dec
        try rw [Int.fdiv_eq_ediv_of_nonneg _ (by omega : (0 : Int) ≤ (tees : Int))]
        rw [← Int.natCast_ediv]
        repeat sizeOf_list_dec
        refine v_lclock _ (by omega) ?_
        repeat sizeOf_list_dec
        try rw [Int.fmod_eq_emod_of_nonneg _ (by omega : (0 : Int) ≤ (tees : Int))]
        rw [← Int.natCast_emod, Int.add_comm 1]
        repeat sizeOf_list_dec
        refine x_append rfl (by rw [List.length_map]; unfold BIG; omega) rfl ?_
        simp only [List.set_cons_succ, List.set_cons_zero]
        repeat sizeOf_list_dec
        exact hP
end L38
open L38 in
open PySem PySem.W PyProof.Rows L2 in
set_option maxRecDepth 100000 in
set_option maxHeartbeats 0 in
theorem PySem.Challenge.cw_strokesgiven_k38_groups_and_starts_holds : PySem.Challenge.rw_strokesgiven_k38_groups_and_starts.Holds := by
  w_on; o_law; k_head; (case hw => w_witness2)
  k_fill
  refine DL.walkL (l := PySem.Challenge.rw_strokesgiven_k38_groups_and_starts) (k := 3) ⟨rfl, by decide, by decide⟩ rfl rfl (fun w h Y => PySem.W.kIn_of Y) ?F
  case F =>
    intro w mg fa h KX G hmg
    refine' L38.all_mk KX G hmg L38.law_holds ?a_law_draw ?l_law_draw ?c_law_draw ?k_law_draw ?a_law_begun ?l_law_begun ?c_law_begun ?k_law_begun ?a_groups ?l_groups ?c_groups ?k_groups ?t_groups ?u_groups ?v_groups ?a_clock ?l_clock ?c_clock ?k_clock ?a_starts ?l_starts ?c_starts ?k_starts ?t_starts ?u_starts ?v_starts ?a_law_flat ?l_law_flat ?c_law_flat ?k_law_flat ?a_law_right ?l_law_right ?c_law_right ?k_law_right ?a_law_clock ?l_law_clock ?c_law_clock ?k_law_clock ?a_law ?l_law ?c_law ?k_law ?z_divmod ?z_enumerate ?z_int ?z_len ?z_list ?z_max ?z_min ?z_range ?z_sorted ?z_str ?z_tuple
    (case a_law_draw => k_is)
    (case l_law_draw => k_is)
    (case c_law_draw => k_is)
    (case k_law_draw => k_is)
    (case a_law_begun => k_is)
    (case l_law_begun => k_is)
    (case c_law_begun => k_is)
    (case k_law_begun => k_is)
    (case a_groups => k_is)
    (case l_groups => k_is)
    (case c_groups => k_is)
    (case k_groups => k_is)
    (case t_groups => k_is)
    (case u_groups => rfl)
    (case v_groups => exact Paired.cons DL.relInt (Paired.nil))
    (case a_clock => k_is)
    (case l_clock => k_is)
    (case c_clock => k_is)
    (case k_clock => k_is)
    (case a_starts => k_is)
    (case l_starts => k_is)
    (case c_starts => k_is)
    (case k_starts => k_is)
    (case t_starts => k_is)
    (case u_starts => rfl)
    (case v_starts => exact Paired.cons DL.relInt (Paired.cons DL.relInt (Paired.cons DL.relInt (Paired.nil))))
    (case a_law_flat => k_is)
    (case l_law_flat => k_is)
    (case c_law_flat => k_is)
    (case k_law_flat => k_is)
    (case a_law_right => k_is)
    (case l_law_right => k_is)
    (case c_law_right => k_is)
    (case k_law_right => k_is)
    (case a_law_clock => k_is)
    (case l_law_clock => k_is)
    (case c_law_clock => k_is)
    (case k_law_clock => k_is)
    (case a_law => k_is)
    (case l_law => k_is)
    (case c_law => k_is)
    (case k_law => k_is)
    (case z_divmod => k_is)
    (case z_enumerate => k_is)
    (case z_int => k_is)
    (case z_len => k_is)
    (case z_list => k_is)
    (case z_max => k_is)
    (case z_min => k_is)
    (case z_range => k_is)
    (case z_sorted => k_is)
    (case z_str => k_is)
    (case z_tuple => k_is)
