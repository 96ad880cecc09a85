import PyProof.Rows.All
import Wide.All
import OpenK.AllK
import Wide.FinOn
import HandS.Base
import HandS.Call
import HandS.List
import HandS.Comp
import HandS.Dict
import HandS.Iter
import HandS.Text
import HandS.Exc
import HandS.Words
import HandS.Lambda
import HandS.Walk
import HandS.Defaults
import HandS.CallSlots
import HandS.Style
import HandS.MakeKw
import HandS.ExcOwn
import HandS.Ends
import HandS.WordsExc
import HandS.TupAny
import HandS.TupMul
import HandS.IsInst
import HandS.Conv
import HandS.SortInts
import HandS.SortOrd
import KE.KTupSum
import KE.KIndexOf
import KE.DatumOrd
import HandS.ReCall
import HandS.Zip
import HandS.Zip0
import PyProof.ZipIter
import KE.GoesEnumKw
import PyProof.Rows.CallKwBuiltin
import KE.GoesMore
import PyProof.EnumMake
import HandS.Strs
import HandS.SortKw
import HandS.FStr
import HandS.RaiseMore
import HandS.SortRule
import HandS.StrMore
import HandS.SetFor
import HandS.ExcInit
import HandS.TryOnly
import HandS.ExcIs
import HandS.ExcField
import KE.KExcIs
import HandS.EndOwn
import KE.KNestM
import HandS.Deep
import PySem.Challenge.RW_strokesgiven_k68_whole_the_strongest_mee
set_option Elab.async false
set_option linter.all false
set_option maxRecDepth 100000
set_option autoImplicit false
set_option maxHeartbeats 4000000
/-! DL1: data, worlds, the readings of expressions and statements that speak of data alone. -/
namespace DL
open PySem PySem.Spec PyProof.Rows L2
/-! ### data -/
inductive D where
  | non
  | bl (b : Bool)
  | int (i : Int)
  | str (x : Str)
  | tup (xs : List D)
  | lst (xs : List D)
  | ins (c : Str) (fs : List Str) (xs : List D)
  | dic (ks : List Key) (xs : List D)
  | exc (c : Str) (fs : List Str) (xs : List D)
  | town
  | scr (ns : List Int)
  | ptp (xs : List D)
inductive Wk : D → D → Prop
  | same (d : D) : Wk d d
  | tup (xs : List D) : Wk (.ptp xs) (.tup xs)
structure Wd where
  G : Hp
  T : Option (Addr × Addr)
class TabC where
  tb : Addr → Option Str
instance (priority := low) : TabC := ⟨fun _ => none⟩
variable [TabC]
structure Twn where
  a : Addr
  r : Addr
  q : Option Str
def Wd.tw (W : Wd) (p : Twn) : Prop := (W.T = some (p.a, p.r) ∧ p.q = none) ∨ (p.a = p.r ∧ ∃ q, p.q = some q ∧ TabC.tb p.a = some q)
structure Wd.le (W W' : Wd) : Prop where
  g : Same W.G W'.G
  t : ∀ p, W.tw p → W'.tw p
theorem Wd.le.refl (W : Wd) : W.le W := ⟨Same.refl _, fun _ h => h⟩
theorem Wd.le.trans {W W1 W2 : Wd} (a : W.le W1) (b : W1.le W2) : W.le W2 := ⟨a.g.trans b.g, fun p h => b.t p (a.t p h)⟩
theorem seqL_mono {K : PySem.W.Frag} {H H' : Hp} {a : Addr} {xs : List V} (e : Same H H') (h : SqL K H a xs) : SqL K H' a xs := by
  rcases h with (h | ⟨o, h⟩) | h
  · exact .inl (.inl (e _ _ h))
  · exact .inl (.inr ⟨o, e _ _ h⟩)
  · exact .inr h
theorem seqT_mono {K : PySem.W.Frag} {H H' : Hp} {a : Addr} {xs : List V} (e : Same H H') (h : SqT K H a xs) : SqT K H' a xs := by
  rcases h with (h | ⟨o, h⟩) | h
  · exact .inl (.inl (e _ _ h))
  · exact .inl (.inr ⟨o, e _ _ h⟩)
  · exact .inr h
def ExO (c : Value) (dx : Option Addr) (a : Addr) : HO := .ext fun h => ∃ (oe : Obj) (fl : Array Value), h.get? a = some oe ∧ Zc c dx oe ∧ oe.data = .fields fl
def SOk (x : Str) : Prop := x.length ≤ sizeLine ∧ (x.cps.all (· < 0x110000)) = true
section
variable (K : PySem.W.Frag) (mg : Str → Option Value)
mutual
def DV (W : Wd) : D → V → Prop
  | .non, v => v = .non
  | .bl b, v => v = .bl b
  | .int i, v => v = .int i
  | .str x, v => v = .str x ∧ SOk x
  | .tup ds, v => ∃ a vs, v = .ref a ∧ SqT K W.G a vs ∧ vs.length ≤ sizeLine ∧ DVs W ds vs
  | .lst ds, v => ∃ a vs, v = .ref a ∧ W.G a = some (.lst vs) ∧ vs.length ≤ sizeLine ∧ DVs W ds vs
  | .ins c fs ds, v => ∃ a C dx vs, v = .ref a ∧ mg c = some (.ref C) ∧ W.G a = some (.ins C dx (fs.zip vs)) ∧ fs.length = vs.length ∧ DVs W ds vs
  | .dic ks ds, v => ∃ a vs, v = .ref a ∧ W.G a = some (.dK (ks.zip vs)) ∧ ks.length = vs.length ∧ DVs W ds vs
  | .exc c fs ds, v => ∃ a C dx vs, v = .ref a ∧ mg c = some (.ref C) ∧ W.G a = some (ExO (.ref C) dx a) ∧ fs.length = vs.length ∧
      (match dx with | none => fs = [] | some d => W.G d = some (.xd (fs.zip vs))) ∧ DVs W ds vs
  | .town, v => ∃ a r, v = .ref a ∧ W.tw ⟨a, r, none⟩
  | .scr ns, v => ∃ a, v = .ref a ∧ SqL K W.G a (ns.map V.int) ∧ ns.length ≤ 63
  | .ptp ds, v => ∃ a o vs, v = .ref a ∧ o.dict = none ∧ o.cls = .type "tuple" ∧ W.G a = some (.frz o (.tup vs)) ∧ vs.length ≤ sizeLine ∧ DVs W ds vs
def DVs (W : Wd) : List D → List V → Prop
  | [], vs => vs = []
  | d :: ds, vs => ∃ v vr, vs = v :: vr ∧ DV W d v ∧ DVs W ds vr
end
end
section
variable {K : PySem.W.Frag} {mg : Str → Option Value} {W W' : Wd}
mutual
theorem DV.mono (h : W.le W') : ∀ (d : D) (v : V), DV K mg W d v → DV K mg W' d v
  | .non, v, x => by simpa only [DV] using x
  | .bl b, v, x => by simpa only [DV] using x
  | .int i, v, x => by simpa only [DV] using x
  | .str y, v, x => by simpa only [DV] using x
  | .tup ds, v, x => by
    simp only [DV] at x ⊢
    obtain ⟨a, vs, e, s, l, r⟩ := x
    exact ⟨a, vs, e, seqT_mono h.g s, l, DVs.mono h ds vs r⟩
  | .lst ds, v, x => by
    simp only [DV] at x ⊢
    obtain ⟨a, vs, e, s, l, r⟩ := x
    exact ⟨a, vs, e, h.g _ _ s, l, DVs.mono h ds vs r⟩
  | .ins c fs ds, v, x => by
    simp only [DV] at x ⊢
    obtain ⟨a, C, dx, vs, e, m, g, l, r⟩ := x
    exact ⟨a, C, dx, vs, e, m, h.g _ _ g, l, DVs.mono h ds vs r⟩
  | .dic ks ds, v, x => by
    simp only [DV] at x ⊢
    obtain ⟨a, vs, e, g, l, r⟩ := x
    exact ⟨a, vs, e, h.g _ _ g, l, DVs.mono h ds vs r⟩
  | .exc c fs ds, v, x => by
    simp only [DV] at x ⊢
    obtain ⟨a, C, dx, vs, e, m, g, l, d, r⟩ := x
    refine ⟨a, C, dx, vs, e, m, h.g _ _ g, l, ?_, DVs.mono h ds vs r⟩
    cases dx with
    | none => exact d
    | some q => exact h.g _ _ d
  | .town, v, x => by
    simp only [DV] at x ⊢
    obtain ⟨a, r, e, t⟩ := x
    exact ⟨a, r, e, h.t _ t⟩
  | .scr ns, v, x => by
    simp only [DV] at x ⊢
    obtain ⟨a, e, s, l⟩ := x
    exact ⟨a, e, seqL_mono h.g s, l⟩
  | .ptp ds, v, x => by
    simp only [DV] at x ⊢
    obtain ⟨a, o, vs, e, h1, h2, s, l, r⟩ := x
    exact ⟨a, o, vs, e, h1, h2, h.g _ _ s, l, DVs.mono h ds vs r⟩
theorem DVs.mono (h : W.le W') : ∀ (ds : List D) (vs : List V), DVs K mg W ds vs → DVs K mg W' ds vs
  | [], vs, x => by simpa only [DVs] using x
  | d :: ds, vs, x => by
    simp only [DVs] at x ⊢
    obtain ⟨v, vr, e, r, t⟩ := x
    exact ⟨v, vr, e, DV.mono h d v r, DVs.mono h ds vr t⟩
end
theorem DV.wk {d d' : D} {v : V} (w : Wk d d') (x : DV K mg W d v) : DV K mg W d' v := by
  cases w with
  | same => exact x
  | tup xs =>
    simp only [DV] at x ⊢
    obtain ⟨a, o, vs, e, _, _, s, l, r⟩ := x
    exact ⟨a, vs, e, .inl (.inr ⟨o, s⟩), l, r⟩
theorem dvs_nil : DVs K mg W [] [] := by simp only [DVs]
theorem dvs_cons {d : D} {v : V} {ds : List D} {vs : List V} (h : DV K mg W d v) (t : DVs K mg W ds vs) : DVs K mg W (d :: ds) (v :: vs) := by
  simp only [DVs]; exact ⟨v, vs, rfl, h, t⟩
theorem dvs_len : ∀ {ds : List D} {vs : List V}, DVs K mg W ds vs → ds.length = vs.length
  | [], vs, x => by simp only [DVs] at x; subst x; rfl
  | d :: ds, vs, x => by
    simp only [DVs] at x
    obtain ⟨v, vr, e, _, t⟩ := x
    rw [e, List.length_cons, List.length_cons, dvs_len t]
theorem dvs_app : ∀ {ds es : List D} {vs ws : List V}, DVs K mg W ds vs → DVs K mg W es ws → DVs K mg W (ds ++ es) (vs ++ ws)
  | [], es, vs, ws, x, y => by simp only [DVs] at x; rw [x]; exact y
  | d :: ds, es, vs, ws, x, y => by
    simp only [DVs] at x
    obtain ⟨v, vr, e, r, t⟩ := x
    rw [e]
    exact dvs_cons r (dvs_app t y)
theorem dvs_get : ∀ {ds : List D} {vs : List V} {i : Nat} {d : D}, DVs K mg W ds vs → ds[i]? = some d → ∃ v, vs[i]? = some v ∧ DV K mg W d v
  | [], vs, i, d, x, e => by simp at e
  | d' :: ds, vs, 0, d, x, e => by
    simp only [DVs] at x
    obtain ⟨v, vr, e', r, t⟩ := x
    simp at e
    exact ⟨v, by rw [e']; rfl, by rw [← e]; exact r⟩
  | d' :: ds, vs, i + 1, d, x, e => by
    simp only [DVs] at x
    obtain ⟨v, vr, e', r, t⟩ := x
    obtain ⟨w, h1, h2⟩ := dvs_get (i := i) (d := d) t (by simpa using e)
    exact ⟨w, by rw [e']; simpa using h1, h2⟩
theorem dvs_getV {ds : List D} {vs : List V} {i : Nat} {v : V} (x : DVs K mg W ds vs) (e : vs[i]? = some v) : ∃ d, ds[i]? = some d ∧ DV K mg W d v := by
  have hi := (List.getElem?_eq_some_iff.mp e).1
  have hl := dvs_len x
  obtain ⟨d, hd⟩ : ∃ d, ds[i]? = some d := ⟨ds[i], by simp [hl, hi]⟩
  obtain ⟨w, h1, h2⟩ := dvs_get x hd
  rw [e] at h1
  cases h1
  exact ⟨d, hd, h2⟩
theorem dvs_ints : ∀ {ns : List Int} {vs : List V}, DVs K mg W (ns.map D.int) vs → vs = ns.map V.int
  | [], vs, x => by simpa only [List.map_nil, DVs] using x
  | n :: ns, vs, x => by
    rw [List.map_cons] at x
    simp only [DVs] at x
    obtain ⟨v, vr, e, r, t⟩ := x
    simp only [DV] at r
    rw [e, r, dvs_ints t, List.map_cons]
theorem dvs_ofInts : ∀ (ns : List Int), DVs K mg W (ns.map D.int) (ns.map V.int)
  | [] => dvs_nil
  | n :: ns => dvs_cons (by simp only [DV]) (dvs_ofInts ns)
end
/-! ### the town: {'count': c, 'rests': {..}} -/
def TownAt (H : Hp) (a r : Addr) : Prop :=
  a ≠ r ∧ ∃ (c : Int) (kvs : List (Key × V)), H a = some (.dK [(Sum.inr "count", .int c), (Sum.inr "rests", .ref r)]) ∧ H r = some (.dK kvs) ∧ kvs.length ≤ 64 ∧
    (∀ p ∈ kvs, ∃ k n : Int, p = (Sum.inl k, V.int n) ∧ 0 ≤ k ∧ k < 64) ∧ (kvs.map (·.1)).Nodup
def TabAt (G H : Hp) (P : Addr) (q : Str) : Prop := ∃ ps : Array Value, H P = some (.tbl ps) ∧ TriplesOk ps.toList ∧ ∀ (pos : Pos) (cv : Value), codeAmong pos ps.toList = some cv → ∃ c, cv = .ref c ∧ G c = some (LamX.CodeO c q)
def TwOk (G H : Hp) (p : Twn) : Prop := match p.q with | none => TownAt H p.a p.r | some q => TabAt G H p.a q
/-! ### slots -/
inductive S where
  | un
  | val (d : D)
  | own (xs : List D)
  | dct (kvs : List (Key × D))
  | slf (a : Addr) (c : Str) (fs : List Str) (xs : List D)
abbrev Rho := List S
def S.isOwn : S → Bool
  | .un => false
  | .val _ => false
  | _ => true
def free (W : Wd) (F : Hp) (a : Addr) : Prop := W.G a = none ∧ F a = none ∧ ∀ p, W.tw p → p.1 ≠ a ∧ p.2 ≠ a
section
variable (K : PySem.W.Frag) (mg : Str → Option Value)
def holdS (W : Wd) (H : Hp) (a : Addr) : S → Prop
  | .own ds => ∃ vs, H a = some (.lst vs) ∧ vs.length ≤ sizeLine ∧ DVs K mg W ds vs
  | .dct kvs => ∃ vs, H a = some (.dK ((kvs.map (·.1)).zip vs)) ∧ DVs K mg W (kvs.map (·.2)) vs
  | .slf b c fs ds => b = a ∧ ∃ C dx vs, mg c = some (.ref C) ∧ H a = some (.ins C dx (fs.zip vs)) ∧ fs.length = vs.length ∧ DVs K mg W ds vs
  | _ => False
def SV (W : Wd) (F H : Hp) : S → V → Prop
  | .un, _ => True
  | .val d, v => DV K mg W d v
  | s, v => ∃ a, v = .ref a ∧ holdS K mg W H a s ∧ free W F a
def SlotOk (W : Wd) (F H : Hp) (o : Option (Option V)) (s : S) : Prop := s = .un ∨ ∃ v, o = some (some v) ∧ SV K mg W F H s v
end
structure WOk (W : Wd) (F H : Hp) : Prop where
  g : Same W.G H
  f : Same F H
  gf : ∀ a, F a ≠ none → W.G a = none
  t : ∀ p, W.tw p → TwOk W.G H p ∧ W.G p.1 = none ∧ W.G p.2 = none ∧ F p.1 = none ∧ F p.2 = none
def OwnsAt (σ : L2.St) (ρ : Rho) (i : Nat) (a : Addr) : Prop := ∃ s, ρ[i]? = some s ∧ s.isOwn = true ∧ σ[i]? = some (some (.ref a))
structure Rep (K : PySem.W.Frag) (mg : Str → Option Value) (W : Wd) (F H : Hp) (σ : L2.St) (ρ : Rho) : Prop where
  w : WOk W F H
  len : ρ.length = σ.length
  sl : ∀ (i : Nat) (s : S), ρ[i]? = some s → SlotOk K mg W F H σ[i]? s
  sep : ∀ (i j : Nat) (a : Addr), i ≠ j → OwnsAt σ ρ i a → OwnsAt σ ρ j a → False
section
variable {K : PySem.W.Frag} {mg : Str → Option Value} {W W' : Wd} {F F' H H' : Hp} {σ : L2.St} {ρ : Rho}
theorem WOk.there (w : WOk W F H) {p : Twn} (hp : W.tw p) : (∃ o, H p.1 = some o) ∧ ∃ o, H p.2 = some o := by
  obtain ⟨t, _⟩ := w.t p hp
  obtain ⟨a, r, q⟩ := p
  rcases hp with ⟨_, e⟩ | ⟨e1, q', e2, _⟩
  · have e : q = none := e
    subst e
    obtain ⟨_, c, kvs, h1, h2, _⟩ := (show TownAt H a r from t)
    exact ⟨⟨_, h1⟩, ⟨_, h2⟩⟩
  · have e1 : a = r := e1
    have e2 : q = some q' := e2
    subst e1
    subst e2
    obtain ⟨ps, h1, _⟩ := (show TabAt W.G H a q' from t)
    exact ⟨⟨_, h1⟩, ⟨_, h1⟩⟩
theorem free.fresh (w : WOk W F H) {p : Addr} (hp : H p = none) : free W F p := by
  have n : ∀ {H0 : Hp}, Same H0 H → H0 p = none := fun {H0} e => by
    cases q : H0 p with
    | none => rfl
    | some o => rw [e p o q] at hp; cases hp
  refine ⟨n w.g, n w.f, fun q hq => ?_⟩
  obtain ⟨⟨_, h1⟩, ⟨_, h2⟩⟩ := w.there hq
  exact ⟨ne_of_none h1 hp, ne_of_none h2 hp⟩
theorem holdS.own {s : S} {a : Addr} (h : holdS K mg W H a s) : s.isOwn = true := by
  cases s <;> first | rfl | exact h.elim
theorem holdS.there {s : S} {a : Addr} (h : holdS K mg W H a s) : ∃ o, H a = some o := by
  cases s with
  | un => exact h.elim
  | val d => exact h.elim
  | own ds => obtain ⟨vs, e, _⟩ := h; exact ⟨_, e⟩
  | dct kvs => obtain ⟨vs, e, _⟩ := h; exact ⟨_, e⟩
  | slf b c fs ds => obtain ⟨_, C, dx, vs, _, e, _⟩ := h; exact ⟨_, e⟩
theorem holdS.mono (le : W.le W') {s : S} {a : Addr} (he : H' a = H a) (h : holdS K mg W H a s) : holdS K mg W' H' a s := by
  cases s with
  | un => exact h.elim
  | val d => exact h.elim
  | own ds => obtain ⟨vs, e, l, r⟩ := h; exact ⟨vs, he.trans e, l, DVs.mono le _ _ r⟩
  | dct kvs => obtain ⟨vs, e, r⟩ := h; exact ⟨vs, he.trans e, DVs.mono le _ _ r⟩
  | slf b c fs ds => obtain ⟨q, C, dx, vs, m, e, l, r⟩ := h; exact ⟨q, C, dx, vs, m, he.trans e, l, DVs.mono le _ _ r⟩
theorem SV.ofOwn {s : S} {v : V} (o : s.isOwn = true) (h : SV K mg W F H s v) : ∃ a, v = .ref a ∧ holdS K mg W H a s ∧ free W F a := by
  cases s <;> first | exact h | cases o
theorem SV.toOwn {s : S} {a : Addr} (h : holdS K mg W H a s) (f : free W F a) : SV K mg W F H s (.ref a) := by
  cases s <;> first | exact h.elim | exact ⟨a, rfl, h, f⟩
theorem SV.mono (le : W.le W') {s : S} {v : V} (h : SV K mg W F H s v) (keep : ∀ a, v = .ref a → s.isOwn = true → H' a = H a ∧ free W' F' a) : SV K mg W' F' H' s v := by
  cases s with
  | un => trivial
  | val d => exact DV.mono le _ _ h
  | own ds => obtain ⟨a, e, r, f⟩ := h; obtain ⟨k1, k2⟩ := keep a e rfl; exact ⟨a, e, r.mono le k1, k2⟩
  | dct kvs => obtain ⟨a, e, r, f⟩ := h; obtain ⟨k1, k2⟩ := keep a e rfl; exact ⟨a, e, r.mono le k1, k2⟩
  | slf b c fs ds => obtain ⟨a, e, r, f⟩ := h; obtain ⟨k1, k2⟩ := keep a e rfl; exact ⟨a, e, r.mono le k1, k2⟩
theorem Rep.slot (R : Rep K mg W F H σ ρ) {i : Nat} {s : S} (h : ρ[i]? = some s) (hu : s ≠ .un) : ∃ v, σ[i]? = some (some v) ∧ SV K mg W F H s v := by
  rcases R.sl i s h with e | e
  · exact (hu e).elim
  · exact e
theorem Rep.owned (R : Rep K mg W F H σ ρ) {i : Nat} {a : Addr} (h : OwnsAt σ ρ i a) : ∃ s, ρ[i]? = some s ∧ s.isOwn = true ∧ σ[i]? = some (some (.ref a)) ∧ holdS K mg W H a s ∧ free W F a := by
  obtain ⟨s, h1, h2, h3⟩ := h
  obtain ⟨v, e, r⟩ := R.slot h1 (fun z => by rw [z] at h2; cases h2)
  rw [h3] at e
  cases e
  obtain ⟨b, q, r1, r2⟩ := r.ofOwn h2
  cases q
  exact ⟨s, h1, h2, h3, r1, r2⟩
theorem Rep.go (R : Rep K mg W F H σ ρ) (le : W.le W') (w : WOk W' F' H') (keep : ∀ i a, OwnsAt σ ρ i a → H' a = H a ∧ free W' F' a) : Rep K mg W' F' H' σ ρ := by
  refine ⟨w, R.len, fun i s h => ?_, R.sep⟩
  rcases R.sl i s h with e | ⟨v, e, r⟩
  · exact .inl e
  · exact .inr ⟨v, e, r.mono le fun a ea o => keep i a ⟨s, h, o, by rw [e, ea]⟩⟩
def Wd.add (W : Wd) (p : Addr) (o : HO) : Wd := { W with G := upd W.G p o }
theorem same_upd {H : Hp} {p : Addr} {o : HO} (h : H p = none) : Same H (upd H p o) := fun b u e => by
  rw [upd_ne (ne_of_none e h)]; exact e
theorem Wd.add_le {p : Addr} {o : HO} (h : W.G p = none) : W.le (W.add p o) := ⟨same_upd h, fun _ e => e⟩
theorem TownAt.keep {a r : Addr} (t : TownAt H a r) (h1 : H' a = H a) (h2 : H' r = H r) : TownAt H' a r := by
  obtain ⟨n, c, kvs, e1, e2, q⟩ := t
  exact ⟨n, c, kvs, h1.trans e1, h2.trans e2, q⟩
theorem TwOk.keep {G G' : Hp} {p : Twn} (t : TwOk G H p) (h1 : H' p.1 = H p.1) (h2 : H' p.2 = H p.2) (g : Same G G' := by exact Same.refl _) : TwOk G' H' p := by
  obtain ⟨a, r, q⟩ := p
  cases q with
  | none => exact TownAt.keep (show TownAt H a r from t) h1 h2
  | some q =>
    obtain ⟨ps, e1, e2, e3⟩ := (show TabAt G H a q from t)
    refine (show TabAt G' H' a q from ⟨ps, h1.trans e1, e2, fun pos cv hc => ?_⟩)
    obtain ⟨c, e4, e5⟩ := e3 pos cv hc
    exact ⟨c, e4, g _ _ e5⟩
theorem WOk.add (w : WOk W F H) {p : Addr} {o : HO} (hp : H p = none) : WOk (W.add p o) F (upd H p o) := by
  have fr := free.fresh w hp
  refine ⟨fun b u e => ?_, fun b u e => ?_, fun a h => ?_, fun q hq => ?_⟩
  · by_cases hb : b = p
    · subst hb
      rw [upd_same]
      have e' : upd W.G b o b = some u := e
      rw [upd_same] at e'
      exact e'
    · rw [upd_ne hb]
      have e' : upd W.G p o b = some u := e
      rw [upd_ne hb] at e'
      exact w.g b u e'
  · rw [upd_ne (ne_of_none (w.f b u e) hp)]
    exact w.f b u e
  · show upd W.G p o a = none
    have : a ≠ p := fun z => by subst z; exact h fr.2.1
    rw [upd_ne this]
    exact w.gf a h
  · obtain ⟨t, g1, g2, f1, f2⟩ := w.t q hq
    obtain ⟨n1, n2⟩ := fr.2.2 q hq
    exact ⟨t.keep (upd_ne n1) (upd_ne n2) (same_upd fr.1), (upd_ne n1).trans g1, (upd_ne n2).trans g2, f1, f2⟩
theorem Rep.add (R : Rep K mg W F H σ ρ) {p : Addr} {o : HO} (hp : H p = none) : Rep K mg (W.add p o) F (upd H p o) σ ρ := by
  have fr := free.fresh R.w hp
  refine R.go (Wd.add_le fr.1) (R.w.add hp) fun i a h => ?_
  obtain ⟨s, _, _, _, h1, h2⟩ := R.owned h
  obtain ⟨u, e⟩ := h1.there
  have ne := ne_of_none e hp
  exact ⟨upd_ne ne, (upd_ne ne).trans h2.1, h2.2.1, h2.2.2⟩
theorem Rep.set (R : Rep K mg W F H σ ρ) {i : Nat} {s : S} {v : V} (h : SV K mg W F H s v) (hs : ∀ a j, s.isOwn = true → v = .ref a → j ≠ i → ¬ OwnsAt σ ρ j a) : Rep K mg W F H (σ.set i (some v)) (ρ.set i s) := by
  refine ⟨R.w, by rw [List.length_set, List.length_set]; exact R.len, fun j t hj => ?_, fun j k a hjk h1 h2 => ?_⟩
  · by_cases e : i = j
    · subst e
      have hl : i < ρ.length := by
        have := (List.getElem?_eq_some_iff.mp hj).1
        rwa [List.length_set] at this
      rw [List.getElem?_set_self hl] at hj
      cases hj
      rw [List.getElem?_set_self (by rw [← R.len]; exact hl)]
      exact .inr ⟨v, rfl, h⟩
    · rw [List.getElem?_set_ne e] at hj ⊢
      exact R.sl j t hj
  · have old : ∀ {j : Nat}, j ≠ i → OwnsAt (σ.set i (some v)) (ρ.set i s) j a → OwnsAt σ ρ j a := fun {j} hj ⟨t, t1, t2, t3⟩ => by
      rw [List.getElem?_set_ne (Ne.symm hj)] at t1 t3
      exact ⟨t, t1, t2, t3⟩
    have here : OwnsAt (σ.set i (some v)) (ρ.set i s) i a → s.isOwn = true ∧ v = .ref a := fun ⟨t, t1, t2, t3⟩ => by
      have hl : i < ρ.length := by
        have := (List.getElem?_eq_some_iff.mp t1).1
        rwa [List.length_set] at this
      rw [List.getElem?_set_self hl] at t1
      rw [List.getElem?_set_self (by rw [← R.len]; exact hl)] at t3
      cases t1
      cases t3
      exact ⟨t2, rfl⟩
    by_cases e1 : j = i
    · subst e1
      obtain ⟨o, ev⟩ := here h1
      exact hs a k o ev (Ne.symm hjk) (old (Ne.symm hjk) h2)
    · by_cases e2 : k = i
      · subst e2
        obtain ⟨o, ev⟩ := here h2
        exact hs a j o ev e1 (old e1 h1)
      · exact R.sep j k a hjk (old e1 h1) (old e2 h2)
theorem Rep.setVal (R : Rep K mg W F H σ ρ) {i : Nat} {d : D} {v : V} (h : DV K mg W d v) : Rep K mg W F H (σ.set i (some v)) (ρ.set i (.val d)) :=
  R.set (s := .val d) h fun _ _ o => by cases o
theorem WOk.frz (w : WOk W F H) {a : Addr} {o : HO} (f : free W F a) (h : H a = some o) : WOk (W.add a o) F H := by
  refine ⟨fun b u e => ?_, w.f, fun b hb => ?_, fun q hq => ?_⟩
  · by_cases hb : b = a
    · subst hb
      have e' : upd W.G b o b = some u := e
      rw [upd_same] at e'
      cases e'
      exact h
    · have e' : upd W.G a o b = some u := e
      rw [upd_ne hb] at e'
      exact w.g b u e'
  · show upd W.G a o b = none
    have : b ≠ a := fun z => by subst z; exact hb f.2.1
    rw [upd_ne this]
    exact w.gf b hb
  · obtain ⟨t, g1, g2, f1, f2⟩ := w.t q hq
    obtain ⟨n1, n2⟩ := f.2.2 q hq
    exact ⟨t.keep rfl rfl (same_upd f.1), (upd_ne n1).trans g1, (upd_ne n2).trans g2, f1, f2⟩
end
end DL
set_option maxHeartbeats 4000000
/-! DL2: judgements over data; names, constants, operators, tests, statements. -/
namespace DL
open PySem PySem.Spec PyProof.Rows L2
variable [TabC]
structure XD where
  c : Str
  fs : List Str
  xs : List D
abbrev KE := D → Rho → Prop
abbrev KX := XD → Rho → Prop
abbrev KV := S → Rho → Prop
abbrev TD := Rho → KX → KE → Prop
abbrev TDs := Rho → KX → KV → Prop
abbrev TDt := Rho → KX → (Bool → Rho → Prop) → Prop
abbrev TDa := Rho → KX → (List D → Rho → Prop) → Prop
structure KS where
  nx : Rho → Prop
  rt : D → Rho → Prop
  bk : Rho → Prop := fun _ => False
  ct : Rho → Prop := fun _ => False
abbrev TDS := Rho → KX → KS → Prop
def XV (K : PySem.W.Frag) (mg : Str → Option Value) (W : Wd) (x : XD) (cls : Value) (dx : Option Addr) : Prop :=
  ∃ C vs, mg x.c = some (.ref C) ∧ cls = .ref C ∧ x.fs.length = vs.length ∧ DVs K mg W x.xs vs ∧ (match dx with | none => x.fs = [] | some d => W.G d = some (.xd (x.fs.zip vs)))
def TakesD (X : Cx) (W : Wd) (F : Hp) (kx : KX) : Prop := Takes X fun cls dx σ H => ∃ xd ρ W', kx xd ρ ∧ W.le W' ∧ Rep X.K X.mg W' F H σ ρ ∧ XV X.K X.mg W' xd cls dx
theorem TakesD.mono {X : Cx} {W W' : Wd} {F : Hp} {kx : KX} (h : TakesD X W F kx) (le : W.le W') : TakesD X W' F kx :=
  Takes.imp h fun _ _ _ _ ⟨xd, ρ, W2, q, l, R, x⟩ => ⟨xd, ρ, W2, q, le.trans l, R, x⟩
theorem Rep.weakF {K : PySem.W.Frag} {mg : Str → Option Value} {W : Wd} {F F1 H : Hp} {σ : L2.St} {ρ : Rho} (R : Rep K mg W F1 H σ ρ) (e : Same F F1) : Rep K mg W F H σ ρ := by
  have n : ∀ {a : Addr}, F1 a = none → F a = none := fun {a} h => by
    cases q : F a with
    | none => rfl
    | some o => rw [e a o q] at h; cases h
  refine R.go (Wd.le.refl W) ⟨R.w.g, e.trans R.w.f, fun a h => R.w.gf a fun z => h (n z), fun p hp => ?_⟩ fun i a h => ?_
  · obtain ⟨t, g1, g2, f1, f2⟩ := R.w.t p hp
    exact ⟨t, g1, g2, n f1, n f2⟩
  · obtain ⟨s, _, _, _, _, f⟩ := R.owned h
    exact ⟨rfl, f.1, n f.2.1, f.2.2⟩
theorem TakesD.anti {X : Cx} {W : Wd} {F F1 : Hp} {kx : KX} (h : TakesD X W F kx) (e : Same F F1) : TakesD X W F1 kx :=
  Takes.imp h fun _ _ _ _ ⟨xd, ρ, W2, q, l, R, x⟩ => ⟨xd, ρ, W2, q, l, R.weakF e, x⟩
/-! ### readings -/
def lE (X : Cx) (τ : TD) : TE := fun σ H Q => ∃ (W : Wd) (F : Hp) (ρ : Rho) (kx : KX) (k : KE), TakesD X W F kx ∧ Rep X.K X.mg W F H σ ρ ∧ τ ρ kx k ∧
  ∀ d ρ' v H' W', k d ρ' → W.le W' → Rep X.K X.mg W' F H' σ ρ' → DV X.K X.mg W' d v → Q v H'
def lV (X : Cx) (τ : TDs) : TE := fun σ H Q => ∃ (W : Wd) (F : Hp) (ρ : Rho) (kx : KX) (k : KV), TakesD X W F kx ∧ Rep X.K X.mg W F H σ ρ ∧ τ ρ kx k ∧
  ∀ s ρ' v H' W', k s ρ' → W.le W' → Rep X.K X.mg W' F H' σ ρ' → SV X.K X.mg W' F H' s v → (∀ a i, s.isOwn = true → v = .ref a → ¬ OwnsAt σ ρ' i a) → s ≠ .un → Q v H'
def lT (X : Cx) (τ : TDt) : TT := fun σ H Q => ∃ (W : Wd) (F : Hp) (ρ : Rho) (kx : KX) (k : Bool → Rho → Prop), TakesD X W F kx ∧ Rep X.K X.mg W F H σ ρ ∧ τ ρ kx k ∧
  ∀ b ρ' H' W', k b ρ' → W.le W' → Rep X.K X.mg W' F H' σ ρ' → Q b H'
def lA (X : Cx) (τ : TDa) : TA := fun σ H Q => ∃ (W : Wd) (F : Hp) (ρ : Rho) (kx : KX) (k : List D → Rho → Prop), TakesD X W F kx ∧ Rep X.K X.mg W F H σ ρ ∧ τ ρ kx k ∧
  ∀ ds ρ' vs H' W', k ds ρ' → W.le W' → Rep X.K X.mg W' F H' σ ρ' → DVs X.K X.mg W' ds vs → Q vs H'
structure LS (X : Cx) (W : Wd) (F : Hp) (k : KS) (D : Ends) : Prop where
  nx : ∀ ρ' σ' H' W', k.nx ρ' → W.le W' → Rep X.K X.mg W' F H' σ' ρ' → D.nx σ' H'
  rt : ∀ d ρ' v σ' H' W', k.rt d ρ' → W.le W' → Rep X.K X.mg W' F H' σ' ρ' → DV X.K X.mg W' d v → D.rt v H'
  bk : ∀ ρ' σ' H' W', k.bk ρ' → W.le W' → Rep X.K X.mg W' F H' σ' ρ' → D.bk σ' H'
  ct : ∀ ρ' σ' H' W', k.ct ρ' → W.le W' → Rep X.K X.mg W' F H' σ' ρ' → D.ct σ' H'
theorem LS.mono {X : Cx} {W W' : Wd} {F : Hp} {k : KS} {D : Ends} (h : LS X W F k D) (le : W.le W') : LS X W' F k D :=
  ⟨fun a b c d e f => h.nx a b c d e (le.trans f), fun a b c d e f g i => h.rt a b c d e f g (le.trans i), fun a b c d e f => h.bk a b c d e (le.trans f), fun a b c d e f => h.ct a b c d e (le.trans f)⟩
def lS (X : Cx) (τ : TDS) : TS := fun D σ H => ∃ (W : Wd) (F : Hp) (ρ : Rho) (kx : KX) (k : KS), TakesD X W F kx ∧ Rep X.K X.mg W F H σ ρ ∧ τ ρ kx k ∧ LS X W F k D
structure PEd (X : Cx) (e : Expr) (τ : TD) : Prop where
  p : PE X e (lE X τ)
structure PEv (X : Cx) (e : Expr) (τ : TDs) : Prop where
  p : PE X e (lV X τ)
structure PTd (X : Cx) (e : Expr) (τ : TDt) : Prop where
  p : PT X e (lT X τ)
structure PWd (X : Cx) (e : Expr) (τ : TDt) : Prop where
  p : PW X e (lT X τ)
structure PAd (X : Cx) (es : List Expr) (τ : TDa) : Prop where
  p : PA X es (lA X τ)
structure PKd (X : Cx) (kws : List Keyword) (τ : TDa) : Prop where
  p : PK X kws (lA X τ)
structure PSd (X : Cx) (st : Stmt) (τ : TDS) : Prop where
  p : PS X st (lS X τ)
structure PBd (X : Cx) (st : List Stmt) (τ : TDS) : Prop where
  p : PSs X st (lS X τ)
theorem PE.imp {X : Cx} {e : Expr} {t t' : TE} (h : PE X e t) (f : ∀ σ H Q, t' σ H Q → t σ H Q) : PE X e t' := ⟨fun pins s σ H Q I q => h.run pins s σ H Q I (f _ _ _ q)⟩
theorem PT.imp {X : Cx} {e : Expr} {t t' : TT} (h : PT X e t) (f : ∀ σ H Q, t' σ H Q → t σ H Q) : PT X e t' := ⟨fun pins s σ H Q I q => h.run pins s σ H Q I (f _ _ _ q)⟩
theorem PW.imp {X : Cx} {e : Expr} {t t' : TT} (h : PW X e t) (f : ∀ σ H Q, t' σ H Q → t σ H Q) : PW X e t' := ⟨fun w pins s σ H Q I q => h.run w pins s σ H Q I (f _ _ _ q)⟩
theorem PA.imp {X : Cx} {e : List Expr} {t t' : TA} (h : PA X e t) (f : ∀ σ H Q, t' σ H Q → t σ H Q) : PA X e t' := ⟨fun w pins s σ H Q I q => h.run w pins s σ H Q I (f _ _ _ q)⟩
theorem PK.imp {X : Cx} {e : List Keyword} {t t' : TA} (h : PK X e t) (f : ∀ σ H Q, t' σ H Q → t σ H Q) : PK X e t' := ⟨fun w pins s σ H Q I q => h.run w pins s σ H Q I (f _ _ _ q)⟩
theorem PS.imp {X : Cx} {e : Stmt} {t t' : TS} (h : PS X e t) (f : ∀ D σ H, t' D σ H → t D σ H) : PS X e t' := ⟨fun pins s σ H D I q => h.run pins s σ H D I (f _ _ _ q)⟩
theorem PSs.imp {X : Cx} {e : List Stmt} {t t' : TS} (h : PSs X e t) (f : ∀ D σ H, t' D σ H → t D σ H) : PSs X e t' := ⟨fun pins s σ H D I q => h.run pins s σ H D I (f _ _ _ q)⟩
section
variable {X : Cx} {a b e : Expr} {τ τa τb : TD} {pos : Pos}
/-! ### names, constants -/
def dVar (i : Nat) : TD := fun ρ _ k => ∃ d d', ρ[i]? = some (.val d) ∧ Wk d d' ∧ k d' ρ
theorem pd_var (i : Nat) {x : Str} (hN : X.N[i]? = some x := by rfl) (hv : Vis X.env.scope x := by first | exact Or.inl rfl | exact Or.inr (Or.inl rfl) | exact Or.inr (Or.inr rfl))
    (hd : (x == ("__debug__" : Str)) = false := by decide) (hcd : (x == ("__classdict__" : Str)) = false := by decide) : PEd X (.Name x pos) (dVar i) :=
  ⟨PE.imp (pe_var hN hv hd hcd) fun σ H Q ⟨W, F, ρ, kx, k, tk, R, ⟨d, d', hs, w, hk⟩, hQ⟩ => by
    obtain ⟨v, e, r⟩ := R.slot hs (by intro z; cases z)
    exact ⟨v, e, hQ d' ρ v H W hk (Wd.le.refl W) R (DV.wk w r)⟩⟩
def dC (d : D) : TD := fun ρ _ k => k d ρ
theorem PEd.const {v : V} {d : D} (h : PE X e (tC v)) (r : ∀ W, DV X.K X.mg W d v) : PEd X e (dC d) :=
  ⟨PE.imp h fun σ H Q ⟨W, F, ρ, kx, k, tk, R, hk, hQ⟩ => hQ d ρ v H W hk (Wd.le.refl W) R (r W)⟩
theorem pd_int {i : Int} {j : Nat} : PEd X (.Constant (.int i) j pos) (dC (.int i)) := .const pe_int fun W => by simp only [DV]
theorem pd_bl {i : Bool} {j : Nat} : PEd X (.Constant (.bool i) j pos) (dC (.bl i)) := .const pe_bl fun W => by simp only [DV]
theorem pd_non {j : Nat} : PEd X (.Constant .none j pos) (dC .non) := .const pe_non fun W => by simp only [DV]
theorem pd_str {x : Str} {j : Nat} (h : SOk x := by exact ⟨by decide +kernel, by decide +kernel⟩) : PEd X (.Constant (.str x) j pos) (dC (.str x)) := .const pe_str fun W => by simp only [DV]; exact ⟨trivial, h⟩
/-! ### operators, by data -/
abbrev G2 := D → D → (D → Prop) → Prop
def OpD (X : Cx) (r : R2) (g : G2) : Prop := ∀ (W : Wd) (F H : Hp) (σ : L2.St) (ρ : Rho) (x y : V) (dx dy : D) (k : D → Prop) (Q : VK), Rep X.K X.mg W F H σ ρ → DV X.K X.mg W dx x → DV X.K X.mg W dy y → g dx dy k →
  (∀ d v H' W', k d → W.le W' → Rep X.K X.mg W' F H' σ ρ → DV X.K X.mg W' d v → Q v H') → r x y H Q
def dOp (g : G2) (τa τb : TD) : TD := fun ρ kx k => τa ρ kx fun x ρ1 => τb ρ1 kx fun y ρ2 => g x y fun d => k d ρ2
theorem lE.op {r : R2} {g : G2} (od : OpD X r g) : ∀ σ H Q, lE X (dOp g τa τb) σ H Q → tOp r (lE X τa) (lE X τb) σ H Q := by
  rintro σ H Q ⟨W, F, ρ, kx, k, tk, R, h, hQ⟩
  refine ⟨W, F, ρ, kx, _, tk, R, h, fun dx ρ1 v1 H1 W1 h1 le1 R1 d1 => ?_⟩
  refine ⟨W1, F, ρ1, kx, _, tk.mono le1, R1, h1, fun dy ρ2 v2 H2 W2 h2 le2 R2 d2 => ?_⟩
  exact od W2 F H2 σ ρ2 v1 v2 dx dy _ Q R2 (d1.mono le2) d2 h2 fun d v H' W' hk le R' dv => hQ d ρ2 v H' W' hk ((le1.trans le2).trans le) R' dv
theorem pd_op {op : Operator} {r : R2} {g : G2} (ho : OpR X (binaryOp op) r) (od : OpD X r g) (ha : PEd X a τa) (hb : PEd X b τb) : PEd X (.BinOp a op b pos) (dOp g τa τb) := ⟨PE.imp (pe_op ho ha.p hb.p) (lE.op od)⟩
theorem pd_cmp {op : CmpOp} {r : R2} {g : G2} (ho : OpR X (compareOp op) r) (od : OpD X r g) (ha : PEd X a τa) (hb : PEd X b τb) (hm : behindInMarks op b = false) : PEd X (.Compare a [op] [b] pos) (dOp g τa τb) :=
  ⟨PE.imp (pe_cmpR ho ha.p hb.p hm) (lE.op od)⟩
theorem OpR.or2 {f : Value → Value → Sem Value} {r r' : R2} (h : OpR X f r) (h' : OpR X f r') : OpR X f (fun x y H Q => r x y H Q ∨ r' x y H Q) := OpR.or h h'
theorem OpD.or {r r' : R2} {g g' : G2} (h : OpD X r g) (h' : OpD X r' g') : OpD X (fun x y H Q => r x y H Q ∨ r' x y H Q) (fun x y k => g x y k ∨ g' x y k) := by
  intro W F H σ ρ x y dx dy k Q R hx hy hg hQ
  rcases hg with hg | hg
  · exact .inl (h W F H σ ρ x y dx dy k Q R hx hy hg hQ)
  · exact .inr (h' W F H σ ρ x y dx dy k Q R hx hy hg hQ)
theorem OpD.imp {r : R2} {g g' : G2} (h : OpD X r g) (f : ∀ x y k, g' x y k → g x y k) : OpD X r g' := fun W F H σ ρ x y dx dy k Q R hx hy hg hQ => h W F H σ ρ x y dx dy k Q R hx hy (f _ _ _ hg) hQ
def gI (C : Int → Int → Prop) (f : Int → Int → D) : G2 := fun x y k => match x, y with | .int i, .int j => C i j ∧ k (f i j) | _, _ => False
theorem od_I {C : Int → Int → Prop} {f : Int → Int → Int} : OpD X (rI C fun i j => .int (f i j)) (gI C fun i j => .int (f i j)) := by
  intro W F H σ ρ x y dx dy k Q R hx hy hg hQ
  cases dx <;> try exact hg.elim
  rename_i i
  cases dy <;> try exact hg.elim
  rename_i j
  simp only [DV] at hx hy
  exact ⟨i, j, hx, hy, hg.1, hQ _ _ H W hg.2 (Wd.le.refl W) R (by simp only [DV])⟩
theorem od_I0 {f : Int → Int → Int} : OpD X (rI0 fun i j => .int (f i j)) (gI (fun _ _ => True) fun i j => .int (f i j)) := by
  intro W F H σ ρ x y dx dy k Q R hx hy hg hQ
  cases dx <;> try exact hg.elim
  rename_i i
  cases dy <;> try exact hg.elim
  rename_i j
  simp only [DV] at hx hy
  exact ⟨i, j, hx, hy, hQ _ _ H W hg.2 (Wd.le.refl W) R (by simp only [DV])⟩
theorem od_B0 {f : Int → Int → Bool} : OpD X (rI0 fun i j => .bl (f i j)) (gI (fun _ _ => True) fun i j => .bl (f i j)) := by
  intro W F H σ ρ x y dx dy k Q R hx hy hg hQ
  cases dx <;> try exact hg.elim
  rename_i i
  cases dy <;> try exact hg.elim
  rename_i j
  simp only [DV] at hx hy
  exact ⟨i, j, hx, hy, hQ _ _ H W hg.2 (Wd.le.refl W) R (by simp only [DV])⟩
def gSub : G2 := gI (fun _ _ => True) fun i j => .int (i - j)
def gMul : G2 := gI CMul fun i j => .int (i * j)
def gDiv : G2 := gI CDivN fun i j => .int (i.fdiv j)
def gMod : G2 := gI (fun _ j => j ≠ 0) fun i j => .int (i.fmod j)
def gPow : G2 := gI CPow fun i j => .int (i ^ j.toNat)
def gAddI : G2 := gI (fun _ _ => True) fun i j => .int (i + j)
theorem pd_sub (ha : PEd X a τa) (hb : PEd X b τb) : PEd X (.BinOp a .Sub b pos) (dOp gSub τa τb) := pd_op op_sub od_I0 ha hb
theorem pd_mul (ha : PEd X a τa) (hb : PEd X b τb) : PEd X (.BinOp a .Mult b pos) (dOp gMul τa τb) := pd_op op_mul od_I ha hb
theorem pd_div (ha : PEd X a τa) (hb : PEd X b τb) : PEd X (.BinOp a .FloorDiv b pos) (dOp gDiv τa τb) := pd_op op_fdivN od_I ha hb
def gLtI : G2 := gI (fun _ _ => True) fun i j => .bl (decide (i < j))
def gLeI : G2 := gI (fun _ _ => True) fun i j => .bl (decide (i ≤ j))
def gGtI : G2 := gI (fun _ _ => True) fun i j => .bl (decide (j < i))
def gGeI : G2 := gI (fun _ _ => True) fun i j => .bl (decide (j ≤ i))
theorem od_ltI : OpD X (rI0 fun i j => .bl (decide (i < j))) gLtI := od_B0
theorem od_leI : OpD X (rI0 fun i j => .bl (decide (i ≤ j))) gLeI := od_B0
/-! ### tests -/
def dTest (τ : TD) : TDt := fun ρ kx k => τ ρ kx fun d ρ' => match d with | .bl b => k b ρ' | _ => False
theorem lT.test : ∀ σ H Q, lT X (dTest τ) σ H Q → tTest (lE X τ) σ H Q := by
  rintro σ H Q ⟨W, F, ρ, kx, k, tk, R, h, hQ⟩
  refine ⟨W, F, ρ, kx, _, tk, R, h, fun d ρ1 v1 H1 W1 h1 le1 R1 d1 => ?_⟩
  cases d <;> try exact h1.elim
  rename_i c
  simp only [DV] at d1
  exact ⟨c, d1, hQ c ρ1 H1 W1 h1 le1 R1⟩
theorem td_cmp {op : CmpOp} {r : R2} {g : G2} (ho : OpR X (compareOp op) r) (od : OpD X r g) (ha : PEd X a τa) (hb : PEd X b τb) (hm : behindInMarks op b = false) : PTd X (.Compare a [op] [b] pos) (dTest (dOp g τa τb)) :=
  ⟨PT.imp (pt_cmpR ho ha.p hb.p hm) fun σ H Q h => by
    obtain ⟨W, F, ρ, kx, k, tk, R, h, hQ⟩ := h
    refine lE.op od σ H _ ⟨W, F, ρ, kx, _, tk, R, h, fun d ρ1 v1 H1 W1 h1 le1 R1 d1 => ?_⟩
    cases d <;> try exact h1.elim
    rename_i c
    simp only [DV] at d1
    exact ⟨c, d1, hQ c ρ1 H1 W1 h1 le1 R1⟩⟩
theorem td_val (h : PEd X e τ) (he : ∀ whole, isTrue e X.env whole = (do let v ← whole; standAt e.pos; holding [v] (truthy v)) := by intro _; rfl) : PTd X e (dTest τ) :=
  ⟨PT.imp (pt_val h.p he) lT.test⟩
variable {ta tb : TDt} {rest : List Expr}
def dAnd (ta tb : TDt) : TDt := fun ρ kx k => ta ρ kx fun c ρ' => if c = true then tb ρ' kx k else k false ρ'
def dOr (ta tb : TDt) : TDt := fun ρ kx k => ta ρ kx fun c ρ' => if c = true then k true ρ' else tb ρ' kx k
def dNot (ta : TDt) : TDt := fun ρ kx k => ta ρ kx fun c ρ' => k (!c) ρ'
theorem wd_and1 (ha : PTd X a ta) : PWd X (.BoolOp .And [a] pos) ta := ⟨pw_and1 ha.p⟩
theorem wd_or1 (ha : PTd X a ta) : PWd X (.BoolOp .Or [a] pos) ta := ⟨pw_or1 ha.p⟩
theorem wd_and (ha : PTd X a ta) (hb : PWd X (.BoolOp .And (b :: rest) pos) tb) : PWd X (.BoolOp .And (a :: b :: rest) pos) (dAnd ta tb) :=
  ⟨PW.imp (pw_and ha.p hb.p) fun σ H Q ⟨W, F, ρ, kx, k, tk, R, h, hQ⟩ => ⟨W, F, ρ, kx, _, tk, R, h, fun c ρ1 H1 W1 h1 le1 R1 => by
    cases c with
    | true => exact ⟨W1, F, ρ1, kx, k, tk.mono le1, R1, h1, fun b ρ' H' W' hk le R' => hQ b ρ' H' W' hk (le1.trans le) R'⟩
    | false => exact hQ false ρ1 H1 W1 h1 le1 R1⟩⟩
theorem wd_or (ha : PTd X a ta) (hb : PWd X (.BoolOp .Or (b :: rest) pos) tb) : PWd X (.BoolOp .Or (a :: b :: rest) pos) (dOr ta tb) :=
  ⟨PW.imp (pw_or ha.p hb.p) fun σ H Q ⟨W, F, ρ, kx, k, tk, R, h, hQ⟩ => ⟨W, F, ρ, kx, _, tk, R, h, fun c ρ1 H1 W1 h1 le1 R1 => by
    cases c with
    | false => exact ⟨W1, F, ρ1, kx, k, tk.mono le1, R1, h1, fun b ρ' H' W' hk le R' => hQ b ρ' H' W' hk (le1.trans le) R'⟩
    | true => exact hQ true ρ1 H1 W1 h1 le1 R1⟩⟩
theorem PWd.t (h : PWd X e ta) : PTd X e ta := ⟨h.p.pt⟩
theorem td_not (ha : PTd X a ta) : PTd X (.UnaryOp .Not a pos) (dNot ta) :=
  ⟨PT.imp (pt_not ha.p) fun σ H Q ⟨W, F, ρ, kx, k, tk, R, h, hQ⟩ => ⟨W, F, ρ, kx, _, tk, R, h, fun c ρ1 H1 W1 h1 le1 R1 => hQ (!c) ρ1 H1 W1 h1 le1 R1⟩⟩
def dAndV (τa τb : TD) : TD := fun ρ kx k => τa ρ kx fun d ρ' => match d with | .bl c => (if c = true then τb ρ' kx k else k (.bl false) ρ') | _ => False
def dOrV (τa τb : TD) : TD := fun ρ kx k => τa ρ kx fun d ρ' => match d with | .bl c => (if c = true then k (.bl true) ρ' else τb ρ' kx k) | _ => False
def dNotV (τa : TD) : TD := fun ρ kx k => τa ρ kx fun d ρ' => match d with | .bl c => k (.bl (!c)) ρ' | _ => False
theorem pd_one {op : BoolOp} (h : PEd X a τ) : PEd X (.BoolOp op [a] pos) τ := ⟨pe_one h.p⟩
theorem pd_and (ha : PEd X a τa) (hb : PEd X (.BoolOp .And (b :: rest) pos) τb) : PEd X (.BoolOp .And (a :: b :: rest) pos) (dAndV τa τb) :=
  ⟨PE.imp (pe_and ha.p hb.p) fun σ H Q ⟨W, F, ρ, kx, k, tk, R, h, hQ⟩ => ⟨W, F, ρ, kx, _, tk, R, h, fun d ρ1 v1 H1 W1 h1 le1 R1 d1 => by
    cases d <;> try exact h1.elim
    rename_i c
    simp only [DV] at d1
    refine ⟨c, d1, ?_⟩
    cases c with
    | true => exact ⟨W1, F, ρ1, kx, k, tk.mono le1, R1, h1, fun b ρ' v' H' W' hk le R' dv => hQ b ρ' v' H' W' hk (le1.trans le) R' dv⟩
    | false => exact hQ _ ρ1 _ H1 W1 h1 le1 R1 (by simp only [DV])⟩⟩
def dIf (t : TDt) (τa τb : TD) : TD := fun ρ kx k => t ρ kx fun c ρ' => if c = true then τa ρ' kx k else τb ρ' kx k
theorem pd_if {c : Expr} (hc : PTd X c ta) (ha : PEd X a τa) (hb : PEd X b τb) : PEd X (.IfExp c a b pos) (dIf ta τa τb) :=
  ⟨PE.imp (pe_ifExp hc.p ha.p hb.p) fun σ H Q ⟨W, F, ρ, kx, k, tk, R, h, hQ⟩ => ⟨W, F, ρ, kx, _, tk, R, h, fun c ρ1 H1 W1 h1 le1 R1 => by
    cases c with
    | true => exact ⟨W1, F, ρ1, kx, k, tk.mono le1, R1, h1, fun b ρ' v' H' W' hk le R' dv => hQ b ρ' v' H' W' hk (le1.trans le) R' dv⟩
    | false => exact ⟨W1, F, ρ1, kx, k, tk.mono le1, R1, h1, fun b ρ' v' H' W' hk le R' dv => hQ b ρ' v' H' W' hk (le1.trans le) R' dv⟩⟩⟩
def gIsN (x : D) : Bool := match x with | .non => true | _ => false
theorem DV.isN {K : PySem.W.Frag} {mg : Str → Option Value} {W : Wd} {d : D} {v : V} (h : DV K mg W d v) : decide (v = .non) = gIsN d := by
  cases d <;> simp only [DV] at h <;> first
    | (subst h; rfl)
    | (obtain ⟨e, _⟩ := h; subst e; rfl)
    | (obtain ⟨a, e, _⟩ := h; subst e; rfl)
    | (obtain ⟨a, _, e, _⟩ := h; subst e; rfl)
    | (obtain ⟨a, _, _, e, _⟩ := h; subst e; rfl)
    | (obtain ⟨a, _, _, _, e, _⟩ := h; subst e; rfl)
def dUn (g : D → (D → Prop) → Prop) (τ : TD) : TD := fun ρ kx k => τ ρ kx fun d ρ' => g d fun d' => k d' ρ'
def gIs (x : D) (k : D → Prop) : Prop := k (.bl (gIsN x))
def gNotIs (x : D) (k : D → Prop) : Prop := k (.bl (!gIsN x))
def gNeg (x : D) (k : D → Prop) : Prop := match x with | .int i => k (.int (-i)) | _ => False
def dChain (g g' : G2) (τa τb τc : TD) : TD := fun ρ kx k => τa ρ kx fun x ρ1 => τb ρ1 kx fun y ρ2 => g x y fun z => match z with
  | .bl c => (if c = true then τc ρ2 kx fun w ρ3 => g' y w fun d => k d ρ3 else k (.bl false) ρ2)
  | _ => False
end
end DL
set_option maxHeartbeats 4000000
/-! DL3: arguments, displays, statements, loops, comprehensions. -/
namespace DL
open PySem PySem.Spec PyProof.Rows L2
variable [TabC]
section
variable {X : Cx} {a b e : Expr} {es : List Expr} {τ τa τb : TD} {τv : TDs} {τs : TDa} {pos : Pos}
/-! ### arguments -/
def dNil : TDa := fun ρ _ k => k [] ρ
def dCons (τ : TD) (τr : TDa) : TDa := fun ρ kx k => τ ρ kx fun d ρ1 => τr ρ1 kx fun ds ρ2 => k (d :: ds) ρ2
theorem ad_nil : PAd X [] dNil := ⟨PA.imp pa_nil fun σ H Q ⟨W, F, ρ, kx, k, tk, R, h, hQ⟩ => hQ [] ρ [] H W h (Wd.le.refl W) R dvs_nil⟩
theorem ad_cons (ha : PEd X e τ) (hr : PAd X es τs) (hs : starEach (e :: es) X.env = (false, eval e X.env) :: starEach es X.env := by rfl) : PAd X (e :: es) (dCons τ τs) :=
  ⟨PA.imp (pa_cons ha.p hr.p hs) fun σ H Q ⟨W, F, ρ, kx, k, tk, R, h, hQ⟩ => ⟨W, F, ρ, kx, _, tk, R, h, fun d ρ1 v1 H1 W1 h1 le1 R1 d1 =>
    ⟨W1, F, ρ1, kx, _, tk.mono le1, R1, h1, fun ds ρ2 vs H2 W2 h2 le2 R2 d2 => hQ (d :: ds) ρ2 (v1 :: vs) H2 W2 h2 (le1.trans le2) R2 (dvs_cons (d1.mono le2) d2)⟩⟩⟩
theorem kd_nil : PKd X [] dNil := ⟨PK.imp pk_nil fun σ H Q ⟨W, F, ρ, kx, k, tk, R, h, hQ⟩ => hQ [] ρ [] H W h (Wd.le.refl W) R dvs_nil⟩
theorem kd_cons {nm : Option Str} {kpos : Pos} {kws : List Keyword} (ha : PEd X e τ) (hr : PKd X kws τs) : PKd X (⟨nm, e, kpos⟩ :: kws) (dCons τ τs) :=
  ⟨PK.imp (pk_cons ha.p hr.p) fun σ H Q ⟨W, F, ρ, kx, k, tk, R, h, hQ⟩ => ⟨W, F, ρ, kx, _, tk, R, h, fun d ρ1 v1 H1 W1 h1 le1 R1 d1 =>
    ⟨W1, F, ρ1, kx, _, tk.mono le1, R1, h1, fun ds ρ2 vs H2 W2 h2 le2 R2 d2 => hQ (d :: ds) ρ2 (v1 :: vs) H2 W2 h2 (le1.trans le2) R2 (dvs_cons (d1.mono le2) d2)⟩⟩⟩
/-! ### displays; what is owned is frozen -/
def BIG : Nat := 1000000
theorem big_le {n : Nat} (h : n ≤ BIG) : n ≤ sizeLine := Nat.le_trans h (by unfold BIG; rw [sizeLine_eq]; decide)
theorem big_lt {n : Nat} (h : n < BIG) : n < sizeLine := Nat.lt_of_lt_of_le h (by unfold BIG; rw [sizeLine_eq]; decide)
def dTup (τ : TDa) : TD := fun ρ kx k => τ ρ kx fun ds ρ' => ds.length ≤ BIG ∧ ∃ d, Wk (.ptp ds) d ∧ k d ρ'
def plainT (o : Obj) : Prop := o.dict = none ∧ o.cls = .type "tuple"
def tTupF (t : TA) : TE := fun σ H Q => t σ H fun xs H1 => xs.length ≤ sizeLine ∧ ∀ p o, plainT o → H1 p = none → Q (.ref p) (upd H1 p (.frz o (.tup xs)))
theorem pe_tupF {t : TA} {x1 : Nat} (h : PA X es t) : PE X (.Tuple es x1 pos) (tTupF t) := by
  refine ⟨fun pins s σ H Q I hq => ?_⟩
  refine wpAny_Tuple_spliced (thn (h.run pos pins s σ H _ I hq) fun us s1 ⟨xs, H1, I1, r, z, q⟩ => ⟨by rw [← r.length]; exact z, ?_⟩)
  have hf : H1 s1.heap.objs.size = none := I1.hok.fresh (Nat.le_refl _)
  have e := Heap.get?_push_size s1.heap (o := { cls := .type "tuple", data := .seq us.toArray }) rfl
  refine ⟨.ref s1.heap.objs.size, upd H1 s1.heap.objs.size (.frz { cls := .type "tuple", data := .seq us.toArray } (.tup xs)), I1.laid (t' := s1.toks) (fun b u e => Heap.get?_push_of_some _ e) (Nat.le_refl _) ?_, rfl, q _ _ ⟨rfl, rfl⟩ hf⟩
  exact ⟨e, z, us, r, ⟨_, e, rfl, _, rfl⟩⟩
theorem newTupF {K : PySem.W.Frag} {mg : Str → Option Value} {W : Wd} {F H : Hp} {σ : L2.St} {ρ : Rho} (R : Rep K mg W F H σ ρ) {ds : List D} {vs : List V} (l : ds.length ≤ BIG) (d : DVs K mg W ds vs) {p : Addr} {o : Obj} (ho : plainT o) (hp : H p = none) :
    Rep K mg (W.add p (.frz o (.tup vs))) F (upd H p (.frz o (.tup vs))) σ ρ ∧ W.le (W.add p (.frz o (.tup vs))) ∧ DV K mg (W.add p (.frz o (.tup vs))) (.ptp ds) (.ref p) := by
  have le := Wd.add_le (W := W) (o := .frz o (.tup vs)) (free.fresh R.w hp).1
  refine ⟨R.add hp, le, ?_⟩
  simp only [DV]
  exact ⟨p, o, vs, rfl, ho.1, ho.2, upd_same, by rw [← dvs_len d]; exact big_le l, DVs.mono le _ _ d⟩
theorem newTup {K : PySem.W.Frag} {mg : Str → Option Value} {W : Wd} {F H : Hp} {σ : L2.St} {ρ : Rho} (R : Rep K mg W F H σ ρ) {ds : List D} {vs : List V} (l : ds.length ≤ BIG) (d : DVs K mg W ds vs) {p : Addr} (hp : H p = none) :
    Rep K mg (W.add p (.tup vs)) F (upd H p (.tup vs)) σ ρ ∧ W.le (W.add p (.tup vs)) ∧ DV K mg (W.add p (.tup vs)) (.tup ds) (.ref p) := by
  have le := Wd.add_le (W := W) (o := .tup vs) (free.fresh R.w hp).1
  refine ⟨R.add hp, le, ?_⟩
  simp only [DV]
  exact ⟨p, vs, rfl, .inl (.inl upd_same), by rw [← dvs_len d]; exact big_le l, DVs.mono le _ _ d⟩
theorem newLst {K : PySem.W.Frag} {mg : Str → Option Value} {W : Wd} {F H : Hp} {σ : L2.St} {ρ : Rho} (R : Rep K mg W F H σ ρ) {ds : List D} {vs : List V} (l : ds.length ≤ BIG) (d : DVs K mg W ds vs) {p : Addr} (hp : H p = none) :
    Rep K mg W F (upd H p (.lst vs)) σ ρ ∧ SV K mg W F (upd H p (.lst vs)) (.own ds) (.ref p) ∧ ∀ i, ¬ OwnsAt σ ρ i p := by
  have fr := free.fresh R.w hp
  have no : ∀ i, ¬ OwnsAt σ ρ i p := fun i h => by
    obtain ⟨s, _, _, _, h1, _⟩ := R.owned h
    obtain ⟨u, e⟩ := h1.there
    rw [hp] at e; cases e
  have ne : ∀ {b : Addr} {u : HO}, H b = some u → b ≠ p := fun e => ne_of_none e hp
  refine ⟨R.go (Wd.le.refl W) ⟨R.w.g.trans (same_upd hp), R.w.f.trans (same_upd hp), R.w.gf, fun q hq => ?_⟩ fun i b h => ?_, ⟨p, rfl, ⟨vs, upd_same, by rw [← dvs_len d]; exact big_le l, d⟩, fr⟩, no⟩
  · obtain ⟨t, g1, g2, f1, f2⟩ := R.w.t q hq
    obtain ⟨n1, n2⟩ := fr.2.2 q hq
    exact ⟨t.keep (upd_ne n1) (upd_ne n2), g1, g2, f1, f2⟩
  · obtain ⟨s, _, _, _, h1, h2⟩ := R.owned h
    obtain ⟨u, e⟩ := h1.there
    exact ⟨upd_ne (ne e), h2⟩
theorem pd_tup {x1 : Nat} (h : PAd X es τs) : PEd X (.Tuple es x1 pos) (dTup τs) :=
  ⟨PE.imp (pe_tupF h.p) fun σ H Q ⟨W, F, ρ, kx, k, tk, R, h, hQ⟩ => ⟨W, F, ρ, kx, _, tk, R, h, fun ds ρ1 vs H1 W1 ⟨l, d', wk, h1⟩ le1 R1 d1 =>
    ⟨by rw [← dvs_len d1]; exact big_le l, fun p o ho hp => by
      obtain ⟨R2, le2, d2⟩ := newTupF R1 l d1 ho hp
      exact hQ _ ρ1 _ _ _ h1 (le1.trans le2) R2 (DV.wk wk d2)⟩⟩⟩
def vLst (τ : TDa) : TDs := fun ρ kx k => τ ρ kx fun ds ρ' => ds.length ≤ BIG ∧ k (.own ds) ρ'
theorem vd_lst (h : PAd X es τs) : PEv X (.List es pos) (vLst τs) :=
  ⟨PE.imp (pe_lst h.p) fun σ H Q ⟨W, F, ρ, kx, k, tk, R, h, hQ⟩ => ⟨W, F, ρ, kx, _, tk, R, h, fun ds ρ1 vs H1 W1 ⟨l, h1⟩ le1 R1 d1 =>
    ⟨by rw [← dvs_len d1]; exact big_le l, fun p hp => by
      obtain ⟨R2, s2, no⟩ := newLst R1 l d1 hp
      exact hQ (.own ds) ρ1 _ _ W1 h1 le1 R2 s2 (fun a i _ ea => by cases ea; exact no i) (by intro z; cases z)⟩⟩⟩
def vDct : TDs := fun ρ kx k => k (.dct []) ρ
def S.toD : S → D
  | .val d => d
  | .own ds => .lst ds
  | .dct kvs => .dic (kvs.map (·.1)) (kvs.map (·.2))
  | .slf _ c fs ds => .ins c fs ds
  | .un => .non
theorem SV.freeze {K : PySem.W.Frag} {mg : Str → Option Value} {W : Wd} {F H : Hp} {σ : L2.St} {ρ : Rho} (R : Rep K mg W F H σ ρ) {s : S} {v : V} (h : SV K mg W F H s v) (no : ∀ a i, s.isOwn = true → v = .ref a → ¬ OwnsAt σ ρ i a) (hu : s ≠ .un) :
    ∃ W', W.le W' ∧ Rep K mg W' F H σ ρ ∧ DV K mg W' s.toD v := by
  by_cases o : s.isOwn = true
  · obtain ⟨a, ea, hh, fr⟩ := h.ofOwn o
    obtain ⟨u, eu⟩ := hh.there
    have le : W.le (W.add a u) := Wd.add_le fr.1
    have R2 : Rep K mg (W.add a u) F H σ ρ := R.go le (R.w.frz fr eu) fun i b hb => by
      obtain ⟨t, _, _, _, _, f2⟩ := R.owned hb
      have ne : b ≠ a := fun z => no a i o ea (z ▸ hb)
      exact ⟨rfl, (upd_ne ne).trans f2.1, f2.2.1, f2.2.2⟩
    refine ⟨_, le, R2, ?_⟩
    subst ea
    cases s with
    | un => exact hh.elim
    | val d => exact hh.elim
    | own ds =>
      obtain ⟨vs, e1, l, r⟩ := hh
      rw [eu] at e1; cases e1
      simp only [S.toD, DV]
      exact ⟨a, vs, rfl, upd_same, l, DVs.mono le _ _ r⟩
    | dct kvs =>
      obtain ⟨vs, e1, r⟩ := hh
      rw [eu] at e1; cases e1
      simp only [S.toD, DV]
      refine ⟨a, vs, rfl, upd_same, ?_, DVs.mono le _ _ r⟩
      have := dvs_len r
      rw [List.length_map] at this ⊢
      exact this
    | slf b c fs ds =>
      obtain ⟨_, C, dx, vs, m, e1, l, r⟩ := hh
      rw [eu] at e1; cases e1
      simp only [S.toD, DV]
      exact ⟨a, C, dx, vs, rfl, m, upd_same, l, DVs.mono le _ _ r⟩
  · cases s with
    | un => exact (hu rfl).elim
    | val d => exact ⟨W, Wd.le.refl W, R, h⟩
    | own ds => exact (o rfl).elim
    | dct kvs => exact (o rfl).elim
    | slf b c fs ds => exact (o rfl).elim
def dFz (τ : TDs) : TD := fun ρ kx k => τ ρ kx fun s ρ' => k s.toD ρ'
theorem PEv.d (h : PEv X e τv) : PEd X e (dFz τv) :=
  ⟨PE.imp h.p fun σ H Q ⟨W, F, ρ, kx, k, tk, R, h, hQ⟩ => ⟨W, F, ρ, kx, _, tk, R, h, fun s ρ1 v1 H1 W1 h1 le1 R1 s1 no hu => by
    obtain ⟨W2, le2, R2, d2⟩ := s1.freeze R1 no hu
    exact hQ _ ρ1 v1 H1 W2 h1 (le1.trans le2) R2 d2⟩⟩
def vVal (τ : TD) : TDs := fun ρ kx k => τ ρ kx fun d ρ' => k (.val d) ρ'
theorem PEd.v (h : PEd X e τ) : PEv X e (vVal τ) :=
  ⟨PE.imp h.p fun σ H Q ⟨W, F, ρ, kx, k, tk, R, h, hQ⟩ => ⟨W, F, ρ, kx, _, tk, R, h, fun d ρ1 v1 H1 W1 h1 le1 R1 d1 =>
    hQ (.val d) ρ1 v1 H1 W1 h1 le1 R1 d1 (fun a i o _ => by cases o) (by intro z; cases z)⟩⟩
/-! ### statements -/
variable {st : Stmt} {sts : List Stmt} {t u : TDS}
def sNext : TDS := fun ρ _ k => k.nx ρ
def sSeq (t u : TDS) : TDS := fun ρ kx k => t ρ kx { k with nx := fun ρ' => u ρ' kx k }
theorem bd_nil : PBd X [] sNext := ⟨PSs.imp pss_nil fun D σ H ⟨W, F, ρ, kx, k, tk, R, h, L⟩ => L.nx ρ σ H W h (Wd.le.refl W) R⟩
theorem bd_cons (h1 : PSd X st t) (h2 : PBd X sts u) : PBd X (st :: sts) (sSeq t u) :=
  ⟨PSs.imp (pss_cons h1.p h2.p) fun D σ H ⟨W, F, ρ, kx, k, tk, R, h, L⟩ => ⟨W, F, ρ, kx, _, tk, R, h,
    ⟨fun ρ' σ' H' W' hk le R' => ⟨W', F, ρ', kx, k, tk.mono le, R', hk, L.mono le⟩, L.rt, L.bk, L.ct⟩⟩⟩
theorem bd_one (h1 : PSd X st t) : PBd X [st] t := ⟨pss_one h1.p⟩
def sBrk : TDS := fun ρ _ k => k.bk ρ
def sCnt : TDS := fun ρ _ k => k.ct ρ
def sDrop (τ : TD) : TDS := fun ρ kx k => τ ρ kx fun _ ρ' => k.nx ρ'
theorem sd_expr (he : PEd X e τ) (hs : swapsWith e none pos.line X.env = pure false := by rfl) : PSd X (.Expr e pos) (sDrop τ) :=
  ⟨PS.imp (ps_expr he.p hs) fun D σ H ⟨W, F, ρ, kx, k, tk, R, h, L⟩ => ⟨W, F, ρ, kx, _, tk, R, h, fun d ρ1 v1 H1 W1 h1 le1 R1 d1 => L.nx ρ1 σ H1 W1 h1 le1 R1⟩⟩
def sRet (τ : TD) : TDS := fun ρ kx k => τ ρ kx k.rt
theorem sd_ret (he : PEd X e τ) : PSd X (.Return (some e) pos) (sRet τ) :=
  ⟨PS.imp (ps_ret he.p) fun D σ H ⟨W, F, ρ, kx, k, tk, R, h, L⟩ => ⟨W, F, ρ, kx, _, tk, R, h, fun d ρ1 v1 H1 W1 h1 le1 R1 d1 => L.rt d ρ1 v1 σ H1 W1 h1 le1 R1 d1⟩⟩
def sRetN : TDS := fun ρ _ k => k.rt .non ρ
def sIf (c : TDt) (t u : TDS) : TDS := fun ρ kx k => c ρ kx fun b ρ' => if b = true then t ρ' kx k else u ρ' kx k
theorem sd_if {c : Expr} {τc : TDt} {A B : List Stmt} (hc : PTd X c τc) (ha : PBd X A t) (hb : PBd X B u) : PSd X (.If c A B pos) (sIf τc t u) :=
  ⟨PS.imp (ps_if hc.p ha.p hb.p) fun D σ H ⟨W, F, ρ, kx, k, tk, R, h, L⟩ => ⟨W, F, ρ, kx, _, tk, R, h, fun c ρ1 H1 W1 h1 le1 R1 => by
    cases c with
    | true => exact ⟨W1, F, ρ1, kx, k, tk.mono le1, R1, h1, L.mono le1⟩
    | false => exact ⟨W1, F, ρ1, kx, k, tk.mono le1, R1, h1, L.mono le1⟩⟩⟩
def sAsg (i : Nat) (τ : TDs) : TDS := fun ρ kx k => τ ρ kx fun s ρ' => k.nx (ρ'.set i s)
theorem sd_asg (i : Nat) {x : Str} {pos' : Pos} (hN : X.N.Nodup) (hi : X.N[i]? = some x) (hx : Loc X.env.scope x) (he : PEv X e τv) (hs : swapsWith e (some (.Name x pos')) pos.line X.env = pure false := by rfl)
    (hf : X.fn x = true ∨ X.env.scope.names.lookup x = some .local := by first | exact .inl rfl | exact .inr rfl | assumption) : PSd X (.Assign [.Name x pos'] e pos) (sAsg i τv) :=
  ⟨PS.imp (ps_set hN hi hx he.p hs hf) fun D σ H ⟨W, F, ρ, kx, k, tk, R, h, L⟩ => ⟨W, F, ρ, kx, _, tk, R, h, fun s ρ1 v1 H1 W1 h1 le1 R1 s1 no hu =>
    L.nx _ _ H1 W1 h1 le1 (R1.set s1 fun a j o ev _ => no a j o ev)⟩⟩
def fzR (i : Nat) (ρ : Rho) : Rho := match ρ[i]? with
  | some .un => ρ
  | some s => ρ.set i (.val s.toD)
  | none => ρ
theorem Rep.fz {K : PySem.W.Frag} {mg : Str → Option Value} {W : Wd} {F H : Hp} {σ : L2.St} {ρ : Rho} (R : Rep K mg W F H σ ρ) (i : Nat) : ∃ W', W.le W' ∧ Rep K mg W' F H σ (fzR i ρ) := by
  have same : ∃ W', W.le W' ∧ Rep K mg W' F H σ ρ := ⟨W, Wd.le.refl W, R⟩
  unfold fzR
  cases q : ρ[i]? with
  | none => exact same
  | some s =>
    by_cases hu : s = .un
    · subst hu; exact same
    · have go : ∃ W', W.le W' ∧ Rep K mg W' F H σ (ρ.set i (.val s.toD)) := by
        obtain ⟨v, ev, sv⟩ := R.slot q hu
        -- without the slot i, nobody owns it
        have R0 : Rep K mg W F H (σ.set i (some .non)) (ρ.set i (.val .non)) := R.setVal (by simp only [DV])
        have no : ∀ a j, s.isOwn = true → v = .ref a → ¬ OwnsAt (σ.set i (some .non)) (ρ.set i (.val .non)) j a := by
          intro a j o ea ⟨t, t1, t2, t3⟩
          by_cases ej : i = j
          · subst ej
            have hl : i < ρ.length := (List.getElem?_eq_some_iff.mp q).1
            rw [List.getElem?_set_self hl] at t1
            cases t1
            cases t2
          · rw [List.getElem?_set_ne ej] at t1 t3
            exact R.sep i j a ej ⟨s, q, o, by rw [ev, ea]⟩ ⟨t, t1, t2, t3⟩
        obtain ⟨W2, le2, R2, d2⟩ := sv.freeze R0 no hu
        refine ⟨W2, le2, ?_⟩
        have R3 := R2.setVal (i := i) d2
        rw [List.set_set, List.set_set] at R3
        have es : σ.set i (some v) = σ := by
          have hl : i < σ.length := (List.getElem?_eq_some_iff.mp ev).1
          refine List.ext_getElem? fun j => ?_
          by_cases ej : i = j
          · subst ej
            rw [List.getElem?_set_self hl, ev]
          · rw [List.getElem?_set_ne ej]
        rw [es] at R3
        exact R3
      cases s with
      | un => exact (hu rfl).elim
      | val d => exact go
      | own ds => exact go
      | dct kvs => exact go
      | slf b c fs ds => exact go
def sFz (i : Nat) (t : TDS) : TDS := fun ρ kx k => t (fzR i ρ) kx k
theorem sd_fz (i : Nat) (h : PSd X st t) : PSd X st (sFz i t) :=
  ⟨PS.imp h.p fun D σ H ⟨W, F, ρ, kx, k, tk, R, h, L⟩ => by
    obtain ⟨W', le, R'⟩ := R.fz i
    exact ⟨W', F, _, kx, k, tk.mono le, R', h, L.mono le⟩⟩
end
end DL
set_option maxHeartbeats 4000000
/-! DL4: targets, several values at once, loops, comprehensions. -/
namespace DL
open PySem PySem.Spec PyProof.Rows L2
variable [TabC]
/-! ### targets -/
abbrev TGd := D → Rho → (Rho → Prop) → Prop
abbrev TGsd := List D → Rho → (Rho → Prop) → Prop
def Out (is : List Nat) (σ σ' : L2.St) : Prop := σ'.length = σ.length ∧ ∀ j, j ∉ is → σ'[j]? = σ[j]?
theorem Out.refl {is : List Nat} (σ : L2.St) : Out is σ σ := ⟨rfl, fun _ _ => rfl⟩
theorem Out.trans {is js : List Nat} {σ σ1 σ2 : L2.St} (a : Out is σ σ1) (b : Out js σ1 σ2) : Out (is ++ js) σ σ2 :=
  ⟨b.1.trans a.1, fun j h => (b.2 j fun z => h (List.mem_append_right _ z)).trans (a.2 j fun z => h (List.mem_append_left _ z))⟩
def ROut (is : List Nat) (ρ ρ' : Rho) : Prop := ρ'.length = ρ.length ∧ ∀ j, j ∉ is → ρ'[j]? = ρ[j]?
theorem ROut.refl {is : List Nat} (ρ : Rho) : ROut is ρ ρ := ⟨rfl, fun _ _ => rfl⟩
theorem ROut.trans {is js : List Nat} {ρ ρ1 ρ2 : Rho} (a : ROut is ρ ρ1) (b : ROut js ρ1 ρ2) : ROut (is ++ js) ρ ρ2 :=
  ⟨b.1.trans a.1, fun j h => (b.2 j fun z => h (List.mem_append_right _ z)).trans (a.2 j fun z => h (List.mem_append_left _ z))⟩
theorem ROut.set {i : Nat} {ρ : Rho} {s : S} : ROut [i] ρ (ρ.set i s) := ⟨List.length_set, fun j h => List.getElem?_set_ne fun z => h (by rw [z]; exact List.mem_singleton.mpr rfl)⟩
theorem Out.set {i : Nat} {σ : L2.St} {v : Option V} : Out [i] σ (σ.set i v) := ⟨List.length_set, fun j h => List.getElem?_set_ne fun z => h (by rw [z]; exact List.mem_singleton.mpr rfl)⟩
def lG (X : Cx) (is : List Nat) (γ : TGd) : TG := fun v σ H Q => ∃ (W : Wd) (F : Hp) (ρ : Rho) (d : D) (k : Rho → Prop), Rep X.K X.mg W F H σ ρ ∧ DV X.K X.mg W d v ∧ γ d ρ k ∧
  ∀ ρ' σ' H' W', k ρ' → W.le W' → Rep X.K X.mg W' F H' σ' ρ' → Out is σ σ' → ROut is ρ ρ' → Q σ' H'
def lGs (X : Cx) (is : List Nat) (γ : TGsd) : TGs := fun vs σ H Q => ∃ (W : Wd) (F : Hp) (ρ : Rho) (ds : List D) (k : Rho → Prop), Rep X.K X.mg W F H σ ρ ∧ DVs X.K X.mg W ds vs ∧ γ ds ρ k ∧
  ∀ ρ' σ' H' W', k ρ' → W.le W' → Rep X.K X.mg W' F H' σ' ρ' → Out is σ σ' → ROut is ρ ρ' → Q σ' H'
structure PGd (X : Cx) (target : Expr) (is : List Nat) (γ : TGd) : Prop where
  p : PG X target (lG X is γ)
structure PGsd (X : Cx) (ts : List Expr) (is : List Nat) (γ : TGsd) : Prop where
  p : PGs X ts (lGs X is γ)
theorem PG.imp {X : Cx} {e : Expr} {t t' : TG} (h : PG X e t) (f : ∀ v σ H Q, t' v σ H Q → t v σ H Q) : PG X e t' := ⟨fun pins s σ H v u Q I r q => h.run pins s σ H v u Q I r (f _ _ _ _ q)⟩
theorem PGs.imp {X : Cx} {e : List Expr} {t t' : TGs} (h : PGs X e t) (f : ∀ v σ H Q, t' v σ H Q → t v σ H Q) : PGs X e t' := ⟨fun pins s σ H v u Q I r q => h.run pins s σ H v u Q I r (f _ _ _ _ q)⟩
section
variable {X : Cx} {e : Expr} {es : List Expr} {γ : TGd} {γs : TGsd} {is js : List Nat} {pos : Pos}
def gN (i : Nat) : TGd := fun d ρ k => k (ρ.set i (.val d))
theorem gd_name (i : Nat) {x : Str} (hN : X.N.Nodup) (hi : X.N[i]? = some x) (hx : Loc X.env.scope x) (hf : X.fn x = true ∨ X.env.scope.names.lookup x = some .local := by first | exact .inl rfl | exact .inr rfl | assumption) :
    PGd X (.Name x pos) [i] (gN i) :=
  ⟨PG.imp (pg_name hN hi hx hf) fun v σ H Q ⟨W, F, ρ, d, k, R, dv, h, hQ⟩ => hQ _ _ H W h (Wd.le.refl W) (R.setVal dv) Out.set ROut.set⟩
def gsN : TGsd := fun ds ρ k => ds = [] ∧ k ρ
def gsC (γ : TGd) (γs : TGsd) : TGsd := fun ds ρ k => match ds with | [] => False | d :: r => γ d ρ fun ρ1 => γs r ρ1 k
theorem gsd_nil : PGsd X [] [] gsN := ⟨PGs.imp pgs_nil fun vs σ H Q ⟨W, F, ρ, ds, k, R, dv, h, hQ⟩ => by
  obtain ⟨e, h⟩ := h
  subst e
  simp only [DVs] at dv
  exact ⟨dv, hQ ρ σ H W h (Wd.le.refl W) R (Out.refl σ) (ROut.refl ρ)⟩⟩
theorem gsd_cons (h1 : PGd X e is γ) (h2 : PGsd X es js γs) (hs : (assignEach (e :: es) X.env).map (·.2) = assign e X.env :: (assignEach es X.env).map (·.2) := by rfl) : PGsd X (e :: es) (is ++ js) (gsC γ γs) :=
  ⟨PGs.imp (pgs_cons h1.p h2.p hs) fun vs σ H Q ⟨W, F, ρ, ds, k, R, dv, h, hQ⟩ => by
    cases ds with
    | nil => exact h.elim
    | cons d r =>
      simp only [DVs] at dv
      obtain ⟨v, vr, e, dv1, dv2⟩ := dv
      refine ⟨v, vr, e, W, F, ρ, d, _, R, dv1, h, fun ρ1 σ1 H1 W1 h1 le1 R1 o1 p1 => ?_⟩
      exact ⟨W1, F, ρ1, r, k, R1, DVs.mono le1 _ _ dv2, h1, fun ρ2 σ2 H2 W2 h2 le2 R2 o2 p2 => hQ ρ2 σ2 H2 W2 h2 (le1.trans le2) R2 (o1.trans o2) (p1.trans p2)⟩⟩
def gT (n : Nat) (γs : TGsd) : TGd := fun d ρ k => match d with | .tup ds => ds.length = n ∧ γs ds ρ k | _ => False
theorem gd_tup {k n : Nat} (hc : X.calm = true) (h : PGsd X es is γs) (hn : (assignEach es X.env).length = n := by rfl) (hst : (assignEach es X.env).findIdx? (·.1) = none := by rfl) : PGd X (.Tuple es k pos) is (gT n γs) :=
  ⟨PG.imp (pg_tup hc h.p hn hst) fun v σ H Q ⟨W, F, ρ, d, k, R, dv, h, hQ⟩ => by
    cases d <;> try exact h.elim
    rename_i ds
    simp only [DV] at dv
    obtain ⟨a, vs, e, sq, l, dvs⟩ := dv
    exact ⟨a, vs, e, seqT_mono R.w.g sq, (dvs_len dvs).symm.trans h.1, W, F, ρ, ds, k, R, dvs, h.2, hQ⟩⟩
def sAsgT (γ : TGd) (τ : TD) : TDS := fun ρ kx k => τ ρ kx fun d ρ' => γ d ρ' k.nx
end
/-! ### several values, some owned -/
def SVs (K : PySem.W.Frag) (mg : Str → Option Value) (W : Wd) (F H : Hp) : List S → List V → Prop := Paired fun s v => SV K mg W F H s v ∧ s ≠ .un
def Apart (σ : L2.St) (ρ : Rho) : List S → List V → Prop
  | s :: ss, v :: vs => (∀ a, s.isOwn = true → v = .ref a → (∀ i, ¬ OwnsAt σ ρ i a) ∧ ∀ (j : Nat) (t : S), ss[j]? = some t → t.isOwn = true → vs[j]? ≠ some (.ref a)) ∧ Apart σ ρ ss vs
  | _, _ => True
abbrev TDm := Rho → KX → (List S → Rho → Prop) → Prop
def lM (X : Cx) (τ : TDm) : TA := fun σ H Q => ∃ (W : Wd) (F : Hp) (ρ : Rho) (kx : KX) (k : List S → Rho → Prop), TakesD X W F kx ∧ Rep X.K X.mg W F H σ ρ ∧ τ ρ kx k ∧
  ∀ ss ρ' vs H' W', k ss ρ' → W.le W' → Rep X.K X.mg W' F H' σ ρ' → SVs X.K X.mg W' F H' ss vs → Apart σ ρ' ss vs → Q vs H'
structure PMd (X : Cx) (es : List Expr) (τ : TDm) : Prop where
  p : PA X es (lM X τ)
section
variable {X : Cx} {e : Expr} {es : List Expr} {τ : TDs} {τs : TDm} {pos : Pos}
def mNil : TDm := fun ρ _ k => k [] ρ
def mCons (τ : TDs) (τr : TDm) : TDm := fun ρ kx k => τ ρ kx fun s ρ1 => τr ρ1 kx fun ss ρ2 => k (s :: ss) ρ2
theorem md_nil : PMd X [] mNil := ⟨PA.imp pa_nil fun σ H Q ⟨W, F, ρ, kx, k, tk, R, h, hQ⟩ => hQ [] ρ [] H W h (Wd.le.refl W) R .nil trivial⟩
theorem SVs.weakF {K : PySem.W.Frag} {mg : Str → Option Value} {W : Wd} {F F1 H : Hp} (e : Same F F1) : ∀ {ss : List S} {vs : List V}, SVs K mg W F1 H ss vs → SVs K mg W F H ss vs
  | _, _, .nil => .nil
  | _, _, .cons h t => .cons ⟨h.1.mono (Wd.le.refl W) fun a ea o => ⟨rfl, by
      obtain ⟨b, eb, _, f⟩ := h.1.ofOwn o
      rw [ea] at eb
      cases eb
      refine ⟨f.1, ?_, f.2.2⟩
      cases q : F a with
      | none => rfl
      | some u => exact absurd (e a u q) (by rw [f.2.1]; intro z; cases z)⟩, h.2⟩ (SVs.weakF e t)
theorem md_cons (ha : PEv X e τ) (hr : PMd X es τs) (hs : starEach (e :: es) X.env = (false, eval e X.env) :: starEach es X.env := by rfl) : PMd X (e :: es) (mCons τ τs) :=
  ⟨PA.imp (pa_cons ha.p hr.p hs) fun σ H Q ⟨W, F, ρ, kx, k, tk, R, h, hQ⟩ => ⟨W, F, ρ, kx, _, tk, R, h, fun s ρ1 v1 H1 W1 h1 le1 R1 s1 no hu => by
    by_cases o : s.isOwn = true
    · obtain ⟨a, ea, hh, fr⟩ := s1.ofOwn o
      subst ea
      obtain ⟨u, eu⟩ := hh.there
      have sF : Same F (upd F a u) := same_upd fr.2.1
      have w2 : WOk W1 (upd F a u) H1 := by
        refine ⟨R1.w.g, fun b x eb => ?_, fun b hb => ?_, fun p hp => ?_⟩
        · by_cases z : b = a
          · subst z; rw [upd_same] at eb; cases eb; exact eu
          · rw [upd_ne z] at eb; exact R1.w.f b x eb
        · by_cases z : b = a
          · subst z; exact fr.1
          · rw [upd_ne z] at hb; exact R1.w.gf b hb
        · obtain ⟨t, g1, g2, f1, f2⟩ := R1.w.t p hp
          obtain ⟨n1, n2⟩ := fr.2.2 p hp
          exact ⟨t, g1, g2, (upd_ne n1).trans f1, (upd_ne n2).trans f2⟩
      have R2 : Rep X.K X.mg W1 (upd F a u) H1 σ ρ1 := R1.go (Wd.le.refl _) w2 fun i b hb => by
        obtain ⟨t, _, _, _, _, f2⟩ := R1.owned hb
        have ne : b ≠ a := fun z => no a i o rfl (z ▸ hb)
        exact ⟨rfl, f2.1, (upd_ne ne).trans f2.2.1, f2.2.2⟩
      refine ⟨W1, upd F a u, ρ1, kx, _, (tk.mono le1).anti sF, R2, h1, fun ss ρ2 vs H2 W2 h2 le2 R3 sv ap => ?_⟩
      have eu2 : H2 a = some u := R3.w.f a u upd_same
      have gn : W2.G a = none := R3.w.gf a (by rw [upd_same]; intro z; cases z)
      have tn : ∀ p, W2.tw p → p.1 ≠ a ∧ p.2 ≠ a := fun p hp => by
        obtain ⟨_, _, _, f1, f2⟩ := R3.w.t p hp
        exact ⟨(fun z => by rw [z, upd_same] at f1; cases f1), (fun z => by rw [z, upd_same] at f2; cases f2)⟩
      have no2 : ∀ i, ¬ OwnsAt σ ρ2 i a := fun i hb => by
        obtain ⟨t, _, _, _, _, f2⟩ := R3.owned hb
        have := f2.2.1
        rw [upd_same] at this; cases this
      refine hQ (s :: ss) ρ2 (.ref a :: vs) H2 W2 h2 (le1.trans le2) (R3.weakF sF) (.cons ⟨SV.toOwn (hh.mono le2 (eu2.trans eu.symm)) ⟨gn, fr.2.1, tn⟩, hu⟩ (sv.weakF sF)) ⟨fun b _ eb => ?_, ap⟩
      cases eb
      refine ⟨no2, fun j t ht ho hv => ?_⟩
      have key : ∀ {ss : List S} {vs : List V} (j : Nat), SVs X.K X.mg W2 (upd F a u) H2 ss vs → ss[j]? = some t → vs[j]? = some (V.ref a) → False := by
        intro ss vs j q
        induction q generalizing j with
        | nil => intro h; simp at h
        | cons p r ih =>
          intro h1 h2
          cases j with
          | zero =>
            simp at h1 h2
            subst h1 h2
            obtain ⟨b, eb, _, f⟩ := p.1.ofOwn ho
            cases eb
            have := f.2.1
            rw [upd_same] at this; cases this
          | succ j => exact ih j (by simpa using h1) (by simpa using h2)
      exact key j sv ht hv
    · refine ⟨W1, F, ρ1, kx, _, tk.mono le1, R1, h1, fun ss ρ2 vs H2 W2 h2 le2 R3 sv ap => ?_⟩
      exact hQ (s :: ss) ρ2 (v1 :: vs) H2 W2 h2 (le1.trans le2) R3 (.cons ⟨s1.mono le2 fun a _ z => (o z).elim, hu⟩ sv) ⟨fun b z _ => (o z).elim, ap⟩⟩⟩
def setV : L2.St → List Nat → List V → L2.St
  | σ, i :: is, v :: vs => setV (σ.set i (some v)) is vs
  | σ, _, _ => σ
def setS : Rho → List Nat → List S → Rho
  | ρ, i :: is, s :: ss => setS (ρ.set i s) is ss
  | ρ, _, _ => ρ
theorem Rep.setAll {K : PySem.W.Frag} {mg : Str → Option Value} {W : Wd} {F H : Hp} : ∀ {is : List Nat} {ss : List S} {vs : List V} {σ : L2.St} {ρ : Rho}, Rep K mg W F H σ ρ → SVs K mg W F H ss vs → Apart σ ρ ss vs → Rep K mg W F H (setV σ is vs) (setS ρ is ss)
  | [], _, _, σ, ρ, R, _, _ => by simpa only [setV, setS] using R
  | i :: is, _, _, σ, ρ, R, .nil, _ => by simpa only [setV, setS] using R
  | i :: is, s :: ss, v :: vs, σ, ρ, R, .cons h t, ap => by
    refine Rep.setAll (is := is) (R.set h.1 fun a j o ev _ => (ap.1 a o ev).1 j) t ?_
    -- nobody new owns what comes later
    have sub : ∀ {ss' : List S} {vs' : List V}, Apart σ ρ ss' vs' → (∀ a, s.isOwn = true → v = .ref a → ∀ (j : Nat) (t : S), ss'[j]? = some t → t.isOwn = true → vs'[j]? ≠ some (.ref a)) → Apart (σ.set i (some v)) (ρ.set i s) ss' vs' := by
      intro ss'
      induction ss' with
      | nil => intro vs' _ _; cases vs' <;> trivial
      | cons s' ss' ih =>
        intro vs' ap' hn
        cases vs' with
        | nil => trivial
        | cons v' vs' =>
          refine ⟨fun a o ev => ⟨fun j hj => ?_, (ap'.1 a o ev).2⟩, ih ap'.2 fun a o ev j t ht ho => hn a o ev (j + 1) t (by simpa using ht) ho⟩
          obtain ⟨t1, q1, q2, q3⟩ := hj
          by_cases e : i = j
          · subst e
            have hl : i < ρ.length := by
              have := (List.getElem?_eq_some_iff.mp q1).1
              rwa [List.length_set] at this
            rw [List.getElem?_set_self hl] at q1
            rw [List.getElem?_set_self (by rw [← R.len]; exact hl)] at q3
            cases q1
            have e3 : v = .ref a := Option.some.inj (Option.some.inj q3)
            exact hn a q2 e3 0 s' rfl o (by rw [← ev]; rfl)
          · rw [List.getElem?_set_ne e] at q1 q3
            exact (ap'.1 a o ev).1 j ⟨t1, q1, q2, q3⟩
    exact sub ap.2 fun a o ev => (ap.1 a o ev).2
def sPar (is : List Nat) (τ : TDm) : TDS := fun ρ kx k => τ ρ kx fun ss ρ' => ss.length = is.length ∧ k.nx (setS ρ' is ss)
theorem SVs.len {K : PySem.W.Frag} {mg : Str → Option Value} {W : Wd} {F H : Hp} {ss : List S} {vs : List V} (h : SVs K mg W F H ss vs) : ss.length = vs.length := Paired.length h
theorem sd_par2 (i j : Nat) {x y : Str} {a b : Expr} {px py pt : Pos} {kt k2 : Nat} {pt2 : Pos} (hc : X.calm = true) (hN : X.N.Nodup) (hi : X.N[i]? = some x) (hj : X.N[j]? = some y) (hij : i ≠ j)
    (hx : X.env.scope.names.lookup x = some .local) (hy : X.env.scope.names.lookup y = some .local) (ha : PMd X [a, b] τs)
    (hw : swappedStores [.Tuple [.Name x px, .Name y py] kt pt] (.Tuple [a, b] k2 pt2) X.env = pure (some [x, y]))
    (hs : swapsWithSole [.Tuple [.Name x px, .Name y py] kt pt] (.Tuple [a, b] k2 pt2) pos.line X.env = pure false := by rfl) :
    PSd X (.Assign [.Tuple [.Name x px, .Name y py] kt pt] (.Tuple [a, b] k2 pt2) pos) (sPar [i, j] τs) :=
  ⟨PS.imp (ps_par hc hN hi hj hij hx hy ha.p hw hs) fun D σ H ⟨W, F, ρ, kx, k, tk, R, h, L⟩ => ⟨W, F, ρ, kx, _, tk, R, h, fun ss ρ1 vs H1 W1 ⟨l, h1⟩ le1 R1 sv ap => by
    have lv := sv.len
    rw [l] at lv
    match vs, lv with
    | [v, w], _ => exact ⟨v, w, rfl, L.nx _ _ H1 W1 h1 le1 (R1.setAll (is := [i, j]) sv ap)⟩⟩⟩
theorem sd_par3 (i j l : Nat) {x y z : Str} {a b c : Expr} {px py pz pt : Pos} {kt k2 : Nat} {pt2 : Pos} (hc : X.calm = true) (hN : X.N.Nodup) (hi : X.N[i]? = some x) (hj : X.N[j]? = some y) (hl : X.N[l]? = some z) (hij : i ≠ j) (hil : i ≠ l) (hjl : j ≠ l)
    (hx : X.env.scope.names.lookup x = some .local) (hy : X.env.scope.names.lookup y = some .local) (hz : X.env.scope.names.lookup z = some .local) (ha : PMd X [a, b, c] τs)
    (hw : swappedStores [.Tuple [.Name x px, .Name y py, .Name z pz] kt pt] (.Tuple [a, b, c] k2 pt2) X.env = pure (some [x, y, z]))
    (hs : swapsWithSole [.Tuple [.Name x px, .Name y py, .Name z pz] kt pt] (.Tuple [a, b, c] k2 pt2) pos.line X.env = pure false := by rfl) :
    PSd X (.Assign [.Tuple [.Name x px, .Name y py, .Name z pz] kt pt] (.Tuple [a, b, c] k2 pt2) pos) (sPar [i, j, l] τs) :=
  ⟨PS.imp (ps_par3 hc hN hi hj hl hij hil hjl hx hy hz ha.p hw hs) fun D σ H ⟨W, F, ρ, kx, k, tk, R, h, L⟩ => ⟨W, F, ρ, kx, _, tk, R, h, fun ss ρ1 vs H1 W1 ⟨l, h1⟩ le1 R1 sv ap => by
    have lv := sv.len
    rw [l] at lv
    match vs, lv with
    | [v, w, u], _ => exact ⟨v, w, u, rfl, L.nx _ _ H1 W1 h1 le1 (R1.setAll (is := [i, j, _]) sv ap)⟩⟩⟩
structure PNs (X : Cx) (ts : List Expr) (is : List Nat) : Prop where
  p : PGs X ts (fun vs σ H Q => vs.length = is.length ∧ Q (setV σ is vs) H)
theorem pn_nil : PNs X [] [] := ⟨PGs.imp pgs_nil fun vs σ H Q ⟨l, q⟩ => by
  cases vs with
  | nil => exact ⟨rfl, q⟩
  | cons v vs => cases l⟩
theorem pn_cons (i : Nat) {x : Str} {p : Pos} {is : List Nat} (hN : X.N.Nodup) (hi : X.N[i]? = some x) (hx : Loc X.env.scope x) (h : PNs X es is)
    (hs : (assignEach (.Name x p :: es) X.env).map (·.2) = assign (.Name x p) X.env :: (assignEach es X.env).map (·.2) := by rfl) (hf : X.fn x = true ∨ X.env.scope.names.lookup x = some .local := by first | exact .inl rfl | exact .inr rfl | assumption) : PNs X (.Name x p :: es) (i :: is) :=
  ⟨PGs.imp (pgs_cons (pg_name hN hi hx hf) h.p hs) fun vs σ H Q ⟨l, q⟩ => by
    cases vs with
    | nil => cases l
    | cons v vs => exact ⟨v, vs, rfl, Nat.succ.inj l, q⟩⟩
end
end DL
set_option maxHeartbeats 4000000
/-! DL5: what is walked, for, list comprehensions, while. -/
namespace DL
open PySem PySem.Spec PyProof.Rows L2
variable [TabC]
abbrev TDi := Rho → KX → (List D → Rho → Prop) → Prop
structure WalkD (X : Cx) (W1 : Wd) (items : List D) (J : It) : Prop where
  len : items.length ≤ sizeLine
  w : ∃ (Gc : Hp → Prop) (Y : Nat → Hp → V → Hp → Prop), Walk J items.length Gc Y ∧ (∀ H2 : Hp, Same W1.G H2 → Gc H2) ∧
    ∀ (i : Nat) (H2 H3 : Hp) (x : V) (W2 : Wd) (F : Hp) (σ : L2.St) (ρ : Rho), i < items.length → W1.le W2 → Rep X.K X.mg W2 F H2 σ ρ → Y i H2 x H3 →
      ∃ d W3, items[i]? = some d ∧ W2.le W3 ∧ Rep X.K X.mg W3 F H3 σ ρ ∧ DV X.K X.mg W3 d x
structure PId (X : Cx) (tg iter : Expr) (τ : TDi) : Prop where
  p : ∃ wi : TI, PI X tg iter wi ∧ ∀ (σ : L2.St) (H : Hp) (R : It → Hp → Prop) (W : Wd) (F : Hp) (ρ : Rho) (kx : KX) (k : List D → Rho → Prop), TakesD X W F kx → Rep X.K X.mg W F H σ ρ → τ ρ kx k →
    (∀ items ρ' H1 W1 J, k items ρ' → W.le W1 → Rep X.K X.mg W1 F H1 σ ρ' → WalkD X W1 items J → R J H1) → wi σ H R
section
variable {X : Cx} {tg iter e : Expr} {τ τe : TD} {τi : TDi} {pos : Pos}
def iSeq (τ : TD) : TDi := fun ρ kx k => τ ρ kx fun d ρ' => match d with
  | .lst ds => k ds ρ'
  | _ => False
def iTupD (τ : TD) : TDi := fun ρ kx k => τ ρ kx fun d ρ' => match d with
  | .tup ds => k ds ρ'
  | _ => False
theorem id_list (h : PEd X iter τ) : PId X tg iter (iSeq τ) :=
  ⟨⟨_, pi_list h.p, fun σ H R W F ρ kx k tk Rp hτ hR => ⟨W, F, ρ, kx, _, tk, Rp, hτ, fun d ρ1 v1 H1 W1 h1 le1 R1 d1 => by
    cases d <;> try exact h1.elim
    rename_i ds
    simp only [DV] at d1
    obtain ⟨a, vs, e, g, l, dv⟩ := d1
    have hl := dvs_len dv
    refine ⟨a, e, ⟨vs, .inl (.inl (R1.w.g _ _ g))⟩, hR ds ρ1 H1 W1 _ h1 le1 R1 ⟨by rw [hl]; exact l, (fun H => SqL X.K H a vs), YAt vs, by rw [hl]; exact walk_list, fun H2 s2 => .inl (.inl (s2 _ _ g)), fun i H2 H3 x W2 F2 σ2 ρ2 hi le2 R2 y => ?_⟩⟩
    obtain ⟨e3, hx⟩ := y
    subst e3
    obtain ⟨d, hd, dx⟩ := dvs_getV dv hx
    exact ⟨d, W2, hd, Wd.le.refl _, R2, dx.mono le2⟩⟩⟩⟩
theorem id_tup (h : PEd X iter τ) : PId X tg iter (iTupD τ) :=
  ⟨⟨_, pi_tup h.p, fun σ H R W F ρ kx k tk Rp hτ hR => ⟨W, F, ρ, kx, _, tk, Rp, hτ, fun d ρ1 v1 H1 W1 h1 le1 R1 d1 => by
    cases d <;> try exact h1.elim
    rename_i ds
    simp only [DV] at d1
    obtain ⟨a, vs, e, g, l, dv⟩ := d1
    have hl := dvs_len dv
    refine ⟨a, e, ⟨vs, seqT_mono R1.w.g g⟩, hR ds ρ1 H1 W1 _ h1 le1 R1 ⟨by rw [hl]; exact l, (fun H => SqT X.K H a vs), YAt vs, by rw [hl]; exact walk_tup, fun H2 s2 => seqT_mono s2 g, fun i H2 H3 x W2 F2 σ2 ρ2 hi le2 R2 y => ?_⟩⟩
    obtain ⟨e3, hx⟩ := y
    subst e3
    obtain ⟨d, hd, dx⟩ := dvs_getV dv hx
    exact ⟨d, W2, hd, Wd.le.refl _, R2, dx.mono le2⟩⟩⟩⟩
def rng (lo : Int) (n : Nat) : List D := (List.range n).map fun i => D.int (lo + (i : Nat))
theorem rng_len (lo : Int) (n : Nat) : (rng lo n).length = n := by simp [rng]
theorem rng_get {lo : Int} {n i : Nat} (h : i < n) : (rng lo n)[i]? = some (D.int (lo + (i : Nat))) := by simp [rng, h]
theorem walk_rngD {W1 : Wd} (lo : Int) (n : Nat) (h : n ≤ BIG) : WalkD X W1 (rng lo n) (Itr lo n) :=
  ⟨by rw [rng_len]; exact big_le h, _, _, by rw [rng_len]; exact walk_range, fun _ _ => trivial, fun i H2 H3 x W2 F2 σ2 ρ2 hi le2 R2 y => by
    rw [rng_len] at hi
    obtain ⟨e3, hx⟩ := y
    subst e3
    subst hx
    exact ⟨_, W2, rng_get hi, Wd.le.refl _, R2, by simp only [DV]⟩⟩
def iRg1 (τs : TDa) : TDi := fun ρ kx k => τs ρ kx fun ds ρ' => match ds with
  | [.int j] => (-1000000 ≤ j ∧ j ≤ 1000000) ∧ k (rng 0 j.toNat) ρ'
  | _ => False
def iRg2 (τs : TDa) : TDi := fun ρ kx k => τs ρ kx fun ds ρ' => match ds with
  | [.int i, .int j] => (-1000000 ≤ i ∧ i ≤ 1000000 ∧ -1000000 ≤ j ∧ j ≤ 1000000 ∧ j - i ≤ 1000000) ∧ k (rng i (j - i).toNat) ρ'
  | _ => False
theorem dvs1 {K : PySem.W.Frag} {mg : Str → Option Value} {W : Wd} {d : D} {vs : List V} (h : DVs K mg W [d] vs) : ∃ v, vs = [v] ∧ DV K mg W d v := by
  simp only [DVs] at h
  obtain ⟨v, vr, e, r, t⟩ := h
  subst t
  exact ⟨v, e, r⟩
theorem id_range1 {a : Expr} {τs : TDa} {p : Pos} (hg : Gl X "range") (hm : X.mg "range" = none) (ha : PAd X [a] τs) (hs : starEach [a] X.env = [(false, eval a X.env)] := by rfl) : PId X tg (.Call (.Name "range" p) [a] [] pos) (iRg1 τs) :=
  ⟨⟨_, pi_range1 hg hm ha.p hs, fun σ H R W F ρ kx k tk Rp hτ hR => ⟨W, F, ρ, kx, _, tk, Rp, hτ, fun ds ρ1 vs H1 W1 h1 le1 R1 d1 => by
    match ds, h1, d1 with
    | [.int j], h1, d1 =>
      obtain ⟨v, e, r⟩ := dvs1 d1
      simp only [DV] at r
      subst r
      have b := h1.1
      exact ⟨j, e, by omega, by omega, hR _ ρ1 H1 W1 _ h1.2 le1 R1 (walk_rngD 0 j.toNat (by unfold BIG; omega))⟩⟩⟩⟩
/-! ### for -/
variable {γ : TGd} {is : List Nat} {body : List Stmt} {tb : TDS}
def forD (γ : TGd) (tb : TDS) : List D → TDS
  | [] => fun ρ _ k => k.nx ρ
  | d :: ds => fun ρ kx k => γ d ρ fun ρ1 => tb ρ1 kx { nx := fun ρ' => forD γ tb ds ρ' kx k, ct := fun ρ' => forD γ tb ds ρ' kx k, bk := k.nx, rt := k.rt }
def sFor (τi : TDi) (γ : TGd) (tb : TDS) : TDS := fun ρ kx k => τi ρ kx fun ds ρ' => forD γ tb ds ρ' kx k
theorem sd_for (hp : PassesOwn (model X.prog X.w) X.A X.env X.xe) (hc : X.calm = true) (hi : PId X tg iter τi) (hg : PGd X tg is γ) (hb : PBd X body tb) (hs : ∀ x, foldedSetIterable iter X.env x = pure x := by intro _; rfl) :
    PSd X (.For tg iter body [] pos) (sFor τi γ tb) := by
  obtain ⟨wi, pi, hi⟩ := hi.p
  refine ⟨PS.imp (ps_for hp hc pi hg.p hb.p hs) fun D σ H ⟨W, F, ρ, kx, k, tk, R, h, L⟩ => ?_⟩
  refine hi σ H _ W F ρ kx _ tk R h fun items ρ1 H1 W1 J h1 le1 R1 wd => ?_
  obtain ⟨len, Gc, Y, wk, hG, hY⟩ := wd
  refine for_it wk (fun i σ' H' => ∃ W' ρ', W1.le W' ∧ Rep X.K X.mg W' F H' σ' ρ' ∧ forD γ tb (items.drop i) ρ' kx k) ⟨W1, ρ1, Wd.le.refl _, R1, by simpa using h1⟩ (fun i σ' H' _ ⟨W', ρ', le, R', _⟩ => hG H' (le.g.trans R'.w.g)) ?_ ?_
  · rintro i x σ' H' H'' hi' ⟨W', ρ', le', R', q⟩ y
    obtain ⟨d, W3, hd, le3, R3, d3⟩ := hY i H' H'' x W' F σ' ρ' hi' le' R' y
    have ed : items.drop i = d :: items.drop (i + 1) := by
      have hlt := (List.getElem?_eq_some_iff.mp hd)
      obtain ⟨hl, e⟩ := hlt
      rw [← List.getElem_cons_drop hl, e]
    rw [ed] at q
    have q : γ d ρ' fun ρ1 => tb ρ1 kx { nx := fun ρ' => forD γ tb (items.drop (i + 1)) ρ' kx k, ct := fun ρ' => forD γ tb (items.drop (i + 1)) ρ' kx k, bk := k.nx, rt := k.rt } := q
    refine ⟨W3, F, ρ', d, _, R3, d3, q, fun ρ4 σ4 H4 W4 h4 le4 R4 _ _ => ?_⟩
    have le14 : W1.le W4 := (le'.trans le3).trans le4
    refine ⟨W4, F, ρ4, kx, _, tk.mono (le1.trans le14), R4, h4, ⟨fun ρ5 σ5 H5 W5 h5 le5 R5 => ⟨W5, ρ5, le14.trans le5, R5, h5⟩, fun d5 ρ5 v5 σ5 H5 W5 h5 le5 R5 dv5 => L.rt d5 ρ5 v5 σ5 H5 W5 h5 ((le1.trans le14).trans le5) R5 dv5,
      fun ρ5 σ5 H5 W5 h5 le5 R5 => L.nx ρ5 σ5 H5 W5 h5 ((le1.trans le14).trans le5) R5, fun ρ5 σ5 H5 W5 h5 le5 R5 => ⟨W5, ρ5, le14.trans le5, R5, h5⟩⟩⟩
  · rintro σ' H' ⟨W', ρ', le', R', q⟩
    rw [List.drop_length] at q
    exact L.nx ρ' σ' H' W' q (le1.trans le') R'
/-! ### list comprehensions -/
def wipeR (ρ : Rho) : List Nat → Rho
  | [] => ρ
  | v :: vs => (wipeR ρ vs).set v .un
def nown (ρ : Rho) (vs : List Nat) : Bool := vs.all fun i => match ρ[i]? with | some s => !s.isOwn | none => true
theorem wipe_get (σ : L2.St) (j : Nat) : ∀ vs : List Nat, (wipe σ vs)[j]? = if j ∈ vs ∧ j < σ.length then some none else σ[j]?
  | [] => by simp [wipe]
  | v :: vs => by
    have ih := wipe_get σ j vs
    unfold wipe
    by_cases e : v = j
    · subst e
      by_cases hl : v < σ.length
      · rw [List.getElem?_set_self (by rw [wipe_length]; exact hl), if_pos ⟨List.mem_cons_self, hl⟩]
      · rw [if_neg fun z => hl z.2, List.getElem?_eq_none (by rw [List.length_set, wipe_length]; omega), List.getElem?_eq_none (by omega)]
    · rw [List.getElem?_set_ne e, ih]
      by_cases hm : j ∈ vs ∧ j < σ.length
      · rw [if_pos hm, if_pos ⟨List.mem_cons_of_mem _ hm.1, hm.2⟩]
      · rw [if_neg hm, if_neg]
        rintro ⟨h1, h2⟩
        rcases List.mem_cons.mp h1 with z | z
        · exact e z.symm
        · exact hm ⟨z, h2⟩
theorem wipeR_len (ρ : Rho) : ∀ vs : List Nat, (wipeR ρ vs).length = ρ.length
  | [] => rfl
  | v :: vs => by unfold wipeR; rw [List.length_set, wipeR_len ρ vs]
theorem wipeR_get (ρ : Rho) (j : Nat) : ∀ vs : List Nat, (wipeR ρ vs)[j]? = if j ∈ vs ∧ j < ρ.length then some .un else ρ[j]?
  | [] => by simp [wipeR]
  | v :: vs => by
    have ih := wipeR_get ρ j vs
    unfold wipeR
    by_cases e : v = j
    · subst e
      by_cases hl : v < ρ.length
      · rw [List.getElem?_set_self (by rw [wipeR_len]; exact hl), if_pos ⟨List.mem_cons_self, hl⟩]
      · rw [if_neg fun z => hl z.2, List.getElem?_eq_none (by rw [List.length_set, wipeR_len]; omega), List.getElem?_eq_none (by omega)]
    · rw [List.getElem?_set_ne e, ih]
      by_cases hm : j ∈ vs ∧ j < ρ.length
      · rw [if_pos hm, if_pos ⟨List.mem_cons_of_mem _ hm.1, hm.2⟩]
      · rw [if_neg hm, if_neg]
        rintro ⟨h1, h2⟩
        rcases List.mem_cons.mp h1 with z | z
        · exact e z.symm
        · exact hm ⟨z, h2⟩
section
variable {K : PySem.W.Frag} {mg : Str → Option Value} {W W' : Wd} {F H H' : Hp} {σ : L2.St} {ρ : Rho}
theorem Rep.wipe (R : Rep K mg W F H σ ρ) (vs : List Nat) : Rep K mg W F H (L2.wipe σ vs) (wipeR ρ vs) := by
  have sub : ∀ {i : Nat} {a : Addr}, OwnsAt (L2.wipe σ vs) (wipeR ρ vs) i a → OwnsAt σ ρ i a := fun {i a} ⟨s, h1, h2, h3⟩ => by
    rw [wipeR_get] at h1
    split at h1
    · cases h1; cases h2
    · rename_i q
      rw [wipe_get, ← R.len, if_neg q] at h3
      exact ⟨s, h1, h2, h3⟩
  refine ⟨R.w, by rw [wipeR_len, wipe_length]; exact R.len, fun i s h => ?_, fun i j a ne h1 h2 => R.sep i j a ne (sub h1) (sub h2)⟩
  rw [wipeR_get] at h
  split at h
  · cases h; exact .inl rfl
  · rename_i q
    rw [wipe_get, ← R.len, if_neg q]
    exact R.sl i s h
theorem Rep.unwipe (R0 : Rep K mg W F H σ ρ) (le : W.le W') {vs : List Nat} (R : Rep K mg W' F H' (L2.wipe σ vs) (wipeR ρ vs)) (n : nown ρ vs = true) : Rep K mg W' F H' σ ρ := by
  have nn : ∀ {i : Nat} {s : S}, i ∈ vs → ρ[i]? = some s → s.isOwn = false := fun {i s} hi hs => by
    have := List.all_eq_true.mp n i hi
    rw [hs] at this
    simpa using this
  have up : ∀ {i : Nat} {a : Addr}, OwnsAt σ ρ i a → OwnsAt (L2.wipe σ vs) (wipeR ρ vs) i a := fun {i a} ⟨s, h1, h2, h3⟩ => by
    have hi : ¬ (i ∈ vs ∧ i < ρ.length) := fun z => by rw [nn z.1 h1] at h2; cases h2
    exact ⟨s, by rw [wipeR_get, if_neg hi]; exact h1, h2, by rw [wipe_get, ← R0.len, if_neg hi]; exact h3⟩
  refine ⟨R.w, R0.len, fun i s h => ?_, fun i j a ne h1 h2 => R.sep i j a ne (up h1) (up h2)⟩
  by_cases hi : i ∈ vs ∧ i < ρ.length
  · rcases R0.sl i s h with e | ⟨v, e, r⟩
    · exact .inl e
    · refine .inr ⟨v, e, ?_⟩
      have o := nn hi.1 h
      exact r.mono le fun a _ z => by rw [o] at z; cases z
  · have := R.sl i s (by rw [wipeR_get, if_neg hi]; exact h)
    rw [wipe_get, ← R0.len, if_neg hi] at this
    exact this
end
abbrev nokx : KX := fun _ _ => False
def tYesD : TDt := fun ρ _ k => k true ρ
structure PTsd (X : Cx) (ifs : List Expr) (τ : TDt) : Prop where
  p : PTs X ifs (lT X τ)
theorem tsd_nil : PTsd X [] tYesD := ⟨⟨fun pins s σ H Q I ⟨W, F, ρ, kx, k, tk, R, h, hQ⟩ => pts_nil.run pins s σ H Q I (hQ true ρ H W h (Wd.le.refl W) R)⟩⟩
theorem tsd_one {c : Expr} {τc : TDt} (h : PTd X c τc) : PTsd X [c] τc := ⟨pts_one h.p⟩
def lcD (γ : TGd) (tt : TDt) (te : TD) (ρ0 : Rho) : List D → (List D → Prop) → Prop
  | [], k => k []
  | d :: ds, k => γ d ρ0 fun ρ1 => tt ρ1 nokx fun b ρ2 => ρ2 = ρ1 ∧ if b = true then te ρ1 nokx fun y ρ3 => ρ3 = ρ1 ∧ lcD γ tt te ρ0 ds fun ys => k (y :: ys) else lcD γ tt te ρ0 ds k
def vLc (τi : TDi) (γ : TGd) (tt : TDt) (te : TD) (vs : List Nat) : TDs := fun ρ kx k => τi ρ kx fun ds ρ' => nown ρ' vs = true ∧ lcD γ tt te (wipeR ρ' vs) ds fun ys => k (.own ys) ρ'
theorem takesNo {X : Cx} {W : Wd} {F : Hp} : TakesD X W F nokx := Takes.imp (W := fun _ _ _ _ => False) (fun u s' h => by
  obtain ⟨_, _, _, _, _, _, _, _, _, _, _, _, _, _, _, _, z⟩ := h
  exact z.elim) fun _ _ _ _ ⟨_, _, _, q, _⟩ => q
theorem Out.wipe {is vs : List Nat} {σ σ' : L2.St} (o : Out is (L2.wipe σ vs) σ') (h : ∀ i ∈ is, i ∈ vs) : L2.wipe σ' vs = L2.wipe σ vs := by
  refine List.ext_getElem? fun j => ?_
  rw [wipe_get, wipe_get]
  have hl : σ'.length = σ.length := by rw [o.1, wipe_length]
  rw [hl]
  split
  · rfl
  · rename_i q
    by_cases hj : j ∈ is
    · have := h j hj
      have : ¬ j < σ.length := fun z => q ⟨this, z⟩
      rw [List.getElem?_eq_none (by omega), List.getElem?_eq_none (by omega)]
    · rw [o.2 j hj, wipe_get, if_neg q]
theorem ROut.wipe {is vs : List Nat} {ρ ρ' : Rho} (o : ROut is (wipeR ρ vs) ρ') (h : ∀ i ∈ is, i ∈ vs) : wipeR ρ' vs = wipeR ρ vs := by
  refine List.ext_getElem? fun j => ?_
  rw [wipeR_get, wipeR_get]
  have hl : ρ'.length = ρ.length := by rw [o.1, wipeR_len]
  rw [hl]
  split
  · rfl
  · rename_i q
    by_cases hj : j ∈ is
    · have := h j hj
      have : ¬ j < ρ.length := fun z => q ⟨this, z⟩
      rw [List.getElem?_eq_none (by omega), List.getElem?_eq_none (by omega)]
    · rw [o.2 j hj, wipeR_get, if_neg q]
def lTn (K : PySem.W.Frag) (mg : Str → Option Value) (τ : TDt) : TT := fun σ H Q => ∃ (W : Wd) (F : Hp) (ρ : Rho) (k : Bool → Rho → Prop), Rep K mg W F H σ ρ ∧ τ ρ nokx k ∧ ∀ b ρ' H' W', k b ρ' → W.le W' → Rep K mg W' F H' σ ρ' → Q b H'
def lEn (K : PySem.W.Frag) (mg : Str → Option Value) (τ : TD) : TE := fun σ H Q => ∃ (W : Wd) (F : Hp) (ρ : Rho) (k : KE), Rep K mg W F H σ ρ ∧ τ ρ nokx k ∧ ∀ d ρ' v H' W', k d ρ' → W.le W' → Rep K mg W' F H' σ ρ' → DV K mg W' d v → Q v H'
theorem lTn.to {τ : TDt} : ∀ σ H Q, lTn X.K X.mg τ σ H Q → lT X τ σ H Q := fun σ H Q ⟨W, F, ρ, k, R, h, hQ⟩ => ⟨W, F, ρ, nokx, k, takesNo, R, h, hQ⟩
theorem lEn.to {τ : TD} : ∀ σ H Q, lEn X.K X.mg τ σ H Q → lE X τ σ H Q := fun σ H Q ⟨W, F, ρ, k, R, h, hQ⟩ => ⟨W, F, ρ, nokx, k, takesNo, R, h, hQ⟩
theorem lc_sound {tt : TDt} {te : TD} {vs : List Nat} (hsub : ∀ i ∈ is, i ∈ vs) {wi : TI}
    (hi : ∀ (σ : L2.St) (H : Hp) (R : It → Hp → Prop) (W : Wd) (F : Hp) (ρ : Rho) (kx : KX) (k : List D → Rho → Prop), TakesD X W F kx → Rep X.K X.mg W F H σ ρ → τi ρ kx k →
      (∀ items ρ' H1 W1 J, k items ρ' → W.le W1 → Rep X.K X.mg W1 F H1 σ ρ' → WalkD X W1 items J → R J H1) → wi σ H R) :
    ∀ σ H Q, lV X (vLc τi γ tt te vs) σ H Q → tLc wi (lG X is γ) (lTn X.K X.mg tt) (lEn X.K X.mg te) vs σ H Q := by
  rintro σ H Q ⟨W, F, ρ, kx, k, tk, R, h, hQ⟩
  refine hi σ H _ W F ρ kx _ tk R h fun items ρ1 H1 W1 J ⟨hn, h1⟩ le1 R1 wd => fun D hD => ?_
  obtain ⟨len, Gc, Y, wk, hG, hY⟩ := wd
  obtain ⟨Ra, sa, na⟩ := newLst (R1.wipe vs) (ds := []) (vs := []) (by unfold BIG; simp) dvs_nil hD
  have fa : free W1 F D := free.fresh R1.w hD
  refine lc_it wk (fun i H' => ∃ W' acc accV, W1.le W' ∧ Rep X.K X.mg W' F H' (L2.wipe σ vs) (wipeR ρ1 vs) ∧ H' D = some (.lst accV) ∧ DVs X.K X.mg W' acc accV ∧ acc.length ≤ i ∧ free W' F D ∧ (∀ i, ¬ OwnsAt (L2.wipe σ vs) (wipeR ρ1 vs) i D) ∧
    lcD γ tt te (wipeR ρ1 vs) (items.drop i) (fun ys => k (.own (acc ++ ys)) ρ1)) ⟨W1, [], [], Wd.le.refl _, Ra, upd_same, dvs_nil, Nat.le_refl _, fa, na, by simpa using h1⟩ (fun i H' _ ⟨W', acc, accV, le, R', _⟩ => hG H' (le.g.trans R'.w.g)) ?_ ?_
  · rintro i x H' H'' hi' ⟨W', acc, accV, le', R', hD', dacc, lacc, fD, nD, q⟩ y
    have sF : Same F (upd F D (.lst accV)) := same_upd fD.2.1
    have R1' : Rep X.K X.mg W' (upd F D (.lst accV)) H' (L2.wipe σ vs) (wipeR ρ1 vs) := by
      refine R'.go (Wd.le.refl _) ⟨R'.w.g, fun b x eb => ?_, fun b hb => ?_, fun p hp => ?_⟩ fun i b hb => ?_
      · by_cases z : b = D
        · subst z; rw [upd_same] at eb; cases eb; exact hD'
        · rw [upd_ne z] at eb; exact R'.w.f b x eb
      · by_cases z : b = D
        · subst z; exact fD.1
        · rw [upd_ne z] at hb; exact R'.w.gf b hb
      · obtain ⟨t, g1, g2, f1, f2⟩ := R'.w.t p hp
        obtain ⟨n1, n2⟩ := fD.2.2 p hp
        exact ⟨t, g1, g2, (upd_ne n1).trans f1, (upd_ne n2).trans f2⟩
      · obtain ⟨t, _, _, _, _, f2⟩ := R'.owned hb
        have ne : b ≠ D := fun z => nD i (z ▸ hb)
        exact ⟨rfl, f2.1, (upd_ne ne).trans f2.2.1, f2.2.2⟩
    obtain ⟨d, W3, hd, le3, R3, d3⟩ := hY i H' H'' x W' _ _ _ hi' le' R1' y
    have ed : items.drop i = d :: items.drop (i + 1) := by
      obtain ⟨hl, e⟩ := (List.getElem?_eq_some_iff.mp hd)
      rw [← List.getElem_cons_drop hl, e]
    rw [ed] at q
    unfold lcD at q
    -- a turn's end, nothing added to the slots
    have fin : ∀ {H6 : Hp} {W6 : Wd} {σ4 : L2.St} {ρ4 : Rho}, W'.le W6 → Rep X.K X.mg W6 (upd F D (.lst accV)) H6 σ4 ρ4 → Out is (L2.wipe σ vs) σ4 → ROut is (wipeR ρ1 vs) ρ4 →
        Rep X.K X.mg W6 F H6 (L2.wipe σ vs) (wipeR ρ1 vs) ∧ H6 D = some (.lst accV) ∧ free W6 F D ∧ (∀ i, ¬ OwnsAt (L2.wipe σ vs) (wipeR ρ1 vs) i D) := by
      intro H6 W6 σ4 ρ4 le6 R6 o4 p4
      have R7 := R6.wipe vs
      rw [o4.wipe hsub, p4.wipe hsub] at R7
      refine ⟨R7.weakF sF, R6.w.f D _ upd_same, ⟨R6.w.gf D (by rw [upd_same]; intro z; cases z), fD.2.1, fun p hp => ?_⟩, nD⟩
      obtain ⟨_, _, _, f1, f2⟩ := R6.w.t p hp
      exact ⟨(fun z => by rw [z, upd_same] at f1; cases f1), (fun z => by rw [z, upd_same] at f2; cases f2)⟩
    refine ⟨W3, _, _, d, _, R3, d3, q, fun ρ4 σ4 H4 W4 h4 le4 R4 o4 p4 => ⟨o4.wipe hsub, ?_⟩⟩
    refine ⟨W4, _, ρ4, _, R4, h4, fun b ρ5 H5 W5 ⟨e5, h5⟩ le5 R5 => ?_⟩
    subst e5
    cases b with
    | false =>
      obtain ⟨a1, a2, a3, a4⟩ := fin ((le3.trans le4).trans le5) R5 o4 p4
      exact ⟨W5, acc, accV, ((le'.trans le3).trans le4).trans le5, a1, a2, DVs.mono ((le3.trans le4).trans le5) _ _ dacc, Nat.le_succ_of_le lacc, a3, a4, h5⟩
    | true =>
      refine ⟨W5, _, ρ5, _, R5, h5, fun y ρ6 v6 H6 W6 ⟨e6, h6⟩ le6 R6 d6 => ?_⟩
      subst e6
      have leW : W'.le W6 := ((le3.trans le4).trans le5).trans le6
      obtain ⟨a1, a2, a3, a4⟩ := fin leW R6 o4 p4
      have dacc6 := DVs.mono leW _ _ dacc
      refine ⟨accV, a2, by rw [← dvs_len dacc6]; omega, W6, acc ++ [y], accV ++ [v6], le'.trans leW, ?_, upd_same, dvs_app dacc6 (dvs_cons d6 dvs_nil), by rw [List.length_append]; simp; omega, a3, a4, by simpa only [List.append_assoc, List.singleton_append] using h6⟩
      refine a1.go (Wd.le.refl _) ⟨fun b u e => ?_, fun b u e => ?_, a1.w.gf, fun p hp => ?_⟩ fun i b hb => ?_
      · have ne : b ≠ D := fun z => by rw [z, a3.1] at e; cases e
        rw [upd_ne ne]; exact a1.w.g b u e
      · have ne : b ≠ D := fun z => by rw [z, a3.2.1] at e; cases e
        rw [upd_ne ne]; exact a1.w.f b u e
      · obtain ⟨t, g1, g2, f1, f2⟩ := a1.w.t p hp
        obtain ⟨n1, n2⟩ := a3.2.2 p hp
        exact ⟨t.keep (upd_ne n1) (upd_ne n2), g1, g2, f1, f2⟩
      · obtain ⟨t, _, _, _, _, f2⟩ := a1.owned hb
        exact ⟨upd_ne fun z => a4 i (z ▸ hb), f2⟩
  · rintro H' ⟨W', acc, accV, le', R', hD', dacc, lacc, fD, nD, q⟩
    rw [List.drop_length] at q
    unfold lcD at q
    rw [List.append_nil] at q
    have R2 := R1.unwipe le' R' hn
    refine hQ (.own acc) ρ1 _ H' W' q (le1.trans le') R2 ⟨D, rfl, ⟨accV, hD', by rw [← dvs_len dacc]; exact Nat.le_trans lacc len, dacc⟩, fD⟩ (fun a i _ ea hb => ?_) (by intro z; cases z)
    cases ea
    obtain ⟨s, h1, h2, h3⟩ := hb
    have hv : ¬ (i ∈ vs ∧ i < ρ1.length) := fun z => by
      have := List.all_eq_true.mp hn i z.1
      rw [h1] at this
      simp [h2] at this
    exact nD i ⟨s, by rw [wipeR_get, if_neg hv]; exact h1, h2, by rw [wipe_get, ← R1.len, if_neg hv]; exact h3⟩
theorem vd_lc {elt : Expr} {ifs : List Expr} {scope : Scope} {own : List (Str × Nat)} {tt : TDt} {te : TD} (hc : X.calm = true) (hN : X.N.Nodup) (hi : PId X tg iter τi) (ok : BlkOk X.N X.env.scope scope own) (hsub : ∀ i ∈ is, i ∈ own.map (·.2))
    (hg : ∀ (s : Shared) (H : Hp) (C : Addr) (cl : List (Str × Addr)) (fp : List Addr), PGd (X.blk s H scope (compEnvC scope cl C X.env) fp) tg is γ) (ht : ∀ (s : Shared) (H : Hp) (C : Addr) (cl : List (Str × Addr)) (fp : List Addr), PTsd (X.blk s H scope (compEnvC scope cl C X.env) fp) ifs tt)
    (he : ∀ (s : Shared) (H : Hp) (C : Addr) (cl : List (Str × Addr)) (fp : List Addr), PEd (X.blk s H scope (compEnvC scope cl C X.env) fp) elt te) (hs : ∀ x, foldedSetIterable iter X.env x = pure x := by intro _; rfl) :
    PEv X (.ListComp elt [⟨tg, iter, ifs, 0⟩] scope pos) (vLc τi γ tt te (own.map (·.2))) := by
  obtain ⟨wi, pi, hi⟩ := hi.p
  refine ⟨PE.imp (pe_lc (g := lG X is γ) (tt := lTn X.K X.mg tt) (te := lEn X.K X.mg te) hc hN pi ok (fun s H C cl fp => (hg s H C cl fp).p) (fun s H C cl fp => ?_) (fun s H C cl fp => ?_) hs) (lc_sound hsub hi)⟩
  · exact ⟨fun pins s' σ H' Q I q => (ht s H C cl fp).p.run pins s' σ H' Q I (lTn.to (X := X.blk s H scope (compEnvC scope cl C X.env) fp) σ H' Q q)⟩
  · exact ⟨fun pins s' σ H' Q I q => (he s H C cl fp).p.run pins s' σ H' Q I (lEn.to (X := X.blk s H scope (compEnvC scope cl C X.env) fp) σ H' Q q)⟩
theorem sd_lc {i : Nat} {y : Str} {py : Pos} {elt : Expr} {ifs : List Expr} {scope : Scope} {own : List (Str × Nat)} {spos : Pos} {tt : TDt} {te : TD} (hc : X.calm = true) (hN : X.N.Nodup) (hy : X.N[i]? = some y) (hyl : X.env.scope.names.lookup y = some .local)
    (hsw : swapsWith (.ListComp elt [⟨tg, iter, ifs, 0⟩] scope pos) (some (.Name y py)) spos.line X.env = pure true) (hi : PId X tg iter τi) (ok : BlkOk X.N X.env.scope scope own) (hsub : ∀ i ∈ is, i ∈ own.map (·.2))
    (hg : ∀ (s : Shared) (H : Hp) (C : Addr) (cl : List (Str × Addr)) (fp : List Addr), PGd (X.blk s H scope (compEnvC scope cl C X.env) fp) tg is γ) (ht : ∀ (s : Shared) (H : Hp) (C : Addr) (cl : List (Str × Addr)) (fp : List Addr), PTsd (X.blk s H scope (compEnvC scope cl C X.env) fp) ifs tt)
    (he : ∀ (s : Shared) (H : Hp) (C : Addr) (cl : List (Str × Addr)) (fp : List Addr), PEd (X.blk s H scope (compEnvC scope cl C X.env) fp) elt te) (hs : ∀ x, foldedSetIterable iter X.env x = pure x := by intro _; rfl) :
    PSd X (.Assign [.Name y py] (.ListComp elt [⟨tg, iter, ifs, 0⟩] scope pos) spos) (sAsg i (vLc τi γ tt te (own.map (·.2)))) := by
  obtain ⟨wi, pi, hi⟩ := hi.p
  refine ⟨PS.imp (ps_setLc (g := lG X is γ) (tt := lTn X.K X.mg tt) (te := lEn X.K X.mg te) hc hN hy hyl hsw pi ok (fun s H C cl fp => (hg s H C cl fp).p) (fun s H C cl fp => ?_) (fun s H C cl fp => ?_) hs) fun D σ H ⟨W, F, ρ, kx, k, tk, R, h, L⟩ => ?_⟩
  · exact ⟨fun pins s' σ H' Q I q => (ht s H C cl fp).p.run pins s' σ H' Q I (lTn.to (X := X.blk s H scope (compEnvC scope cl C X.env) fp) σ H' Q q)⟩
  · exact ⟨fun pins s' σ H' Q I q => (he s H C cl fp).p.run pins s' σ H' Q I (lEn.to (X := X.blk s H scope (compEnvC scope cl C X.env) fp) σ H' Q q)⟩
  · exact lc_sound hsub hi σ H _ ⟨W, F, ρ, kx, _, tk, R, h, fun s ρ1 v1 H1 W1 h1 le1 R1 s1 no hu => L.nx _ _ H1 W1 h1 le1 (R1.set s1 fun a j o ev _ => no a j o ev)⟩
end
end DL
set_option maxHeartbeats 4000000
/-! DL6: defs, calls, instances. -/
namespace DL
open PySem PySem.Spec PyProof.Rows L2
variable [TabC]
/-! ### a callee's world -/
open Classical in
noncomputable def FO (σ : L2.St) (ρ : Rho) (H F : Hp) : Hp := fun a => if ∃ i, OwnsAt σ ρ i a then H a else F a
section
variable {K : PySem.W.Frag} {mg : Str → Option Value} {W W' : Wd} {F H H' : Hp} {σ : L2.St} {ρ : Rho}
theorem FO.own {i : Nat} {a : Addr} (h : OwnsAt σ ρ i a) : FO σ ρ H F a = H a := by unfold FO; rw [if_pos ⟨i, h⟩]
theorem FO.not {a : Addr} (h : ∀ i, ¬ OwnsAt σ ρ i a) : FO σ ρ H F a = F a := by unfold FO; rw [if_neg (fun ⟨i, z⟩ => h i z)]
theorem Rep.enter (R : Rep K mg W F H σ ρ) : WOk W (FO σ ρ H F) H := by
  refine ⟨R.w.g, fun a o e => ?_, fun a h => ?_, fun p hp => ?_⟩
  · by_cases q : ∃ i, OwnsAt σ ρ i a
    · obtain ⟨i, q⟩ := q
      rw [FO.own q] at e; exact e
    · rw [FO.not (fun i z => q ⟨i, z⟩)] at e; exact R.w.f a o e
  · by_cases q : ∃ i, OwnsAt σ ρ i a
    · obtain ⟨i, q⟩ := q
      obtain ⟨_, _, _, _, _, f⟩ := R.owned q
      exact f.1
    · rw [FO.not (fun i z => q ⟨i, z⟩)] at h; exact R.w.gf a h
  · obtain ⟨t, g1, g2, f1, f2⟩ := R.w.t p hp
    have no : ∀ a, (a = p.1 ∨ a = p.2) → ∀ i, ¬ OwnsAt σ ρ i a := fun a ha i z => by
      obtain ⟨_, _, _, _, _, f⟩ := R.owned z
      obtain ⟨n1, n2⟩ := f.2.2 p hp
      rcases ha with e | e
      · exact n1 e.symm
      · exact n2 e.symm
    exact ⟨t, g1, g2, (FO.not (no _ (.inl rfl))).trans f1, (FO.not (no _ (.inr rfl))).trans f2⟩
theorem Rep.back (R : Rep K mg W F H σ ρ) (le : W.le W') (w : WOk W' (FO σ ρ H F) H') : Rep K mg W' F H' σ ρ := by
  have ownF : ∀ {i : Nat} {a : Addr}, OwnsAt σ ρ i a → F a = none := fun z => by
    obtain ⟨_, _, _, _, _, f⟩ := R.owned z
    exact f.2.1
  have nF : ∀ {a : Addr} {o : HO}, F a = some o → ∀ i, ¬ OwnsAt σ ρ i a := fun e i z => by rw [ownF z] at e; cases e
  refine R.go le ⟨w.g, fun a o e => w.f a o ((FO.not (nF e)).trans e), fun a h => ?_, fun p hp => ?_⟩ fun i a h => ?_
  · obtain ⟨o, e⟩ : ∃ o, F a = some o := by
      cases q : F a with
      | none => exact (h q).elim
      | some o => exact ⟨o, rfl⟩
    exact w.gf a (by rw [FO.not (nF e), e]; intro z; cases z)
  · obtain ⟨t, g1, g2, f1, f2⟩ := w.t p hp
    have no : ∀ {a : Addr}, FO σ ρ H F a = none → F a = none := fun {a} h => by
      cases q : F a with
      | none => rfl
      | some o => rw [FO.not (nF q), q] at h; cases h
    exact ⟨t, g1, g2, no f1, no f2⟩
  · obtain ⟨s, _, _, _, hh, f⟩ := R.owned h
    obtain ⟨o, e⟩ := hh.there
    have eo : FO σ ρ H F a = some o := (FO.own h).trans e
    refine ⟨(w.f a o eo).trans e.symm, w.gf a (by rw [eo]; intro z; cases z), f.2.1, fun p hp => ?_⟩
    obtain ⟨_, _, _, f1, f2⟩ := w.t p hp
    exact ⟨(fun z => by rw [z, eo] at f1; cases f1), (fun z => by rw [z, eo] at f2; cases f2)⟩
end
/-! ### defs -/
abbrev FD := List D → (XD → Prop) → (D → Prop) → Prop
def SpD (K : PySem.W.Frag) (mg : Str → Option Value) (n : Nat) (m : FD) : Sp := fun vs H Q E => vs.length = n ∧ ∃ (W : Wd) (F : Hp) (ds : List D) (kx : XD → Prop) (k : D → Prop), WOk W F H ∧ DVs K mg W ds vs ∧ m ds kx k ∧
  (∀ d v H' W', k d → W.le W' → WOk W' F H' → DV K mg W' d v → Q v H') ∧ (∀ x cls dx H' W', kx x → W.le W' → WOk W' F H' → XV K mg W' x cls dx → E cls dx H')
def startR (n : Nat) (ds : List D) : Rho := ds.map S.val ++ List.replicate (n - ds.length) .un
theorem start_rep {K : PySem.W.Frag} {mg : Str → Option Value} {W : Wd} {F H : Hp} {N : List Str} {ds : List D} {vs : List V} (w : WOk W F H) (d : DVs K mg W ds vs) : Rep K mg W F H (L2.start N vs) (startR N.length ds) := by
  have hl := dvs_len d
  have nown : ∀ (i : Nat) (s : S), (startR N.length ds)[i]? = some s → s = .un ∨ ∃ d', s = .val d' ∧ ds[i]? = some d' := fun i s h => by
    unfold startR at h
    by_cases hi : i < ds.length
    · rw [List.getElem?_append_left (by simpa using hi), List.getElem?_map] at h
      obtain ⟨d', e, q⟩ := Option.map_eq_some_iff.mp h
      exact .inr ⟨d', q.symm, e⟩
    · rw [List.getElem?_append_right (by simpa using Nat.le_of_not_lt hi)] at h
      exact .inl (List.eq_of_mem_replicate (List.mem_of_getElem? h))
  refine ⟨w, by unfold startR L2.start; simp [hl], fun i s h => ?_, fun i j a _ ⟨s, h1, h2, _⟩ => ?_⟩
  · rcases nown i s h with e | ⟨d', e, q⟩
    · exact .inl e
    · subst e
      obtain ⟨v, hv, dv⟩ := dvs_get d q
      refine .inr ⟨v, ?_, dv⟩
      unfold L2.start
      have hi := (List.getElem?_eq_some_iff.mp hv).1
      rw [List.getElem?_append_left (by simpa using hi), List.getElem?_map, hv]
      rfl
  · rcases nown i s h1 with e | ⟨d', e, q⟩ <;> (subst e; cases h2)
def fnm (n : Nat) (τ : TDS) : FD := fun ds kx k => τ (startR n ds) (fun x _ => kx x) { nx := fun _ => k .non, rt := fun d _ => k d }
section
variable {P : Program} {w : World} {K : PySem.W.Frag} {mg : Str → Option Value} {base : Heap}
theorem fn_d {x qual : Str} {params : Arguments} {body : List Stmt} {scope : Scope} {dvs : List V} {kws : List (Str × V)} {f : Addr} {fd : FuncData} {N ps : List Str} {k : Nat} {τ : TDS} (F : FunD K x qual params body scope dvs kws f fd) (S : FnScope N ps scope)
    (hb : ∀ (cdv : Value) (A : Around) (outer : List PySem.Env) (s : Shared) (H : Hp) (E : XK), Room k (A.deeper (envOfC qual scope s.heap.objs.size f cdv)) → PBd (cxOf (L2.CX P w) P w K mg base N qual scope f cdv A outer s H E) body τ) :
    FnOk P w K mg base (L2.CX P w) (k + 1) f fd ps (SpD K mg ps.length (fnm N.length τ)) := by
  refine F.ok S (fun vs H Q E h => h.1) fun cdv A outer s H vs Q E hr h => ?_
  obtain ⟨hl, W, F', ds, kx, kk, wok, dv, hm, hQ, hE⟩ := h
  refine ⟨_, (hb cdv A outer s H E hr).p, W, F', startR N.length ds, _, _, ?_, start_rep wok dv, hm, ⟨fun ρ' σ' H' W' hk le R => ?_, fun d ρ' v σ' H' W' hk le R dv => hQ d v H' W' hk le R.w dv, fun _ _ _ _ z => z.elim, fun _ _ _ _ z => z.elim⟩⟩
  · exact Takes.imp (takes_of (X := cxOf (L2.CX P w) P w K mg base N qual scope f cdv A outer s H E) rfl rfl rfl rfl) fun cls dx σ H' ⟨xd, ρ, W', hk, le, R, xv⟩ => hE xd cls dx H' W' hk le R.w xv
  · exact hQ .non .non H' W' hk le R.w (by simp only [DV])
end
/-! ### arguments put in order -/
def pickD (idx : List Nat) (l : List D) : List D := idx.map fun i => l.getD i .non
def pickV (idx : List Nat) (l : List V) : List V := idx.map fun i => l.getD i .non
def pickU (idx : List Nat) (l : List Value) : List Value := idx.map fun i => l.getD i .none
theorem pick_rel {l : List V} {u : List Value} (h : Vals l u) : ∀ idx : List Nat, Vals (pickV idx l) (pickU idx u)
  | [] => .nil
  | i :: idx => by
    refine .cons (show RelV (l.getD i .non) (u.getD i .none) from ?_) (pick_rel h idx)
    cases q : l[i]? with
    | none =>
      have q2 := h.none_of q
      rw [List.getD_eq_getElem?_getD, List.getD_eq_getElem?_getD, q, q2]
      exact rfl
    | some x =>
      obtain ⟨y, q2, r⟩ := h.get q
      rw [List.getD_eq_getElem?_getD, List.getD_eq_getElem?_getD, q, q2]
      exact r
theorem pick_dv {K : PySem.W.Frag} {mg : Str → Option Value} {W : Wd} {ds : List D} {l : List V} (h : DVs K mg W ds l) : ∀ idx : List Nat, DVs K mg W (pickD idx ds) (pickV idx l)
  | [] => dvs_nil
  | i :: idx => by
    refine dvs_cons (show DV K mg W (ds.getD i .non) (l.getD i .non) from ?_) (pick_dv h idx)
    cases q : ds[i]? with
    | none =>
      have q2 : l[i]? = none := by
        have := dvs_len h
        rw [List.getElem?_eq_none_iff] at q ⊢
        omega
      rw [List.getD_eq_getElem?_getD, List.getD_eq_getElem?_getD, q, q2]
      simp only [Option.getD_none, DV]
    | some x =>
      obtain ⟨y, q2, r⟩ := dvs_get h q
      rw [List.getD_eq_getElem?_getD, List.getD_eq_getElem?_getD, q, q2]
      exact r
structure BindD (K : PySem.W.Frag) (fd : FuncData) (ps : List Str) (n : Nat) (ks : List Str) (idx : List Nat) (dvs : List V) : Prop where
  b : ∃ its : List Value, Vals dvs its ∧ ∀ (s : Shared) (us ws : List Value), K.In s.heap → us.length = n → ws.length = ks.length → BindsTo s fd ⟨us, ks.zip ws⟩ (ps.zip (pickU idx (us ++ its ++ ws)))
  len : idx.length = ps.length
section
variable {K : PySem.W.Frag} {x qual : Str} {params : Arguments} {body : List Stmt} {scope : Scope} {dvs : List V} {kws : List (Str × V)} {f : Addr} {fd : FuncData} {ps : List Str}
theorem bind_all (F : FunD K x qual params body scope [] kws f fd) (n : Nat) (ks : List Str) (idx : List Nat) (hl : idx.length = ps.length)
    (h : ∀ (kV doc pm : Value) (an : Option Addr) (cdv ct : Value) (us ws : List Value), us.length = n → ws.length = ks.length →
      bindArgs (PySem.W.fnOf x qual params body scope .none kV doc pm an cdv ct) ⟨us, ks.zip ws⟩ = pure (ps.zip (pickU idx (us ++ ws)))) : BindD K fd ps n ks idx [] := by
  obtain ⟨oc, od, dV, kV, doc, pm, an, cdv, ct, osl, rfl, lk, hcd, hD, _⟩ := F.ex
  rcases hD with ⟨_, rfl⟩ | ⟨z, _⟩
  · exact ⟨⟨[], .nil, fun s us ws X l1 l2 => .of_eq (by rw [List.append_nil]; exact h kV doc pm an cdv ct us ws l1 l2)⟩, hl⟩
  · exact absurd rfl z
end
/-! ### calls of defs -/
section
variable {X : Cx} {k : Nat} {f C : Addr} {fd : FuncData} {ps : List Str} {x : Str} {p pos : Pos} {e : Expr} {es : List Expr} {kws : List Keyword} {τs τk : TDa} {m : FD}
theorem run_d {pins : List (Addr × Obj)} {σ : L2.St} {ρ : Rho} {H : Hp} {s : Shared} {Q : VK} {us : List Value} {vs : List V} {ds : List D} {args : Args} {W : Wd} {F : Hp} {kx : KX} {kk : KE} (G : FnOk X.prog X.w X.K X.mg X.base (L2.CX X.prog X.w) k f fd ps (SpD X.K X.mg ps.length m)) (hr : Room k X.A)
    (I : Inv X pins σ H s) (hb : BindsTo s fd args (ps.zip us)) (r : Vals vs us) (hl : vs.length = ps.length) (tk : TakesD X W F kx) (R : Rep X.K X.mg W F H σ ρ) (dv : DVs X.K X.mg W ds vs) (hm : m ds (fun x => kx x ρ) (fun d => kk d ρ))
    (hQ : ∀ d v H' W', kk d ρ → W.le W' → Rep X.K X.mg W' F H' σ ρ → DV X.K X.mg W' d v → Q v H') : wpAny (model X.prog X.w) X.A (call (.ref f) args.pos args.kw) (EP X pins σ Q) X.xe s := by
  have hsp : SpD X.K X.mg ps.length m vs H Q (fun cls dx H' => ∃ xd ρ W', kx xd ρ ∧ W.le W' ∧ Rep X.K X.mg W' F H' σ ρ ∧ XV X.K X.mg W' xd cls dx) :=
    ⟨hl, W, FO σ ρ H F, ds, _, _, R.enter, dv, hm, fun d v H' W' hk le w dv => hQ d v H' W' hk le (R.back le w) dv, fun xd cls dx H' W' hk le w xv => ⟨xd, ρ, W', hk, le, R.back le w, xv⟩⟩
  refine wpAny_call (codeAny_mono (G.run X.A X.stack s H ⟨args.pos, args.kw⟩ us vs Q _ hr I.env0 hb r hsp) fun r s' hq => ?_)
  cases r with
  | error e => exact passAt tk σ pins H s e s' I hq
  | ok fl =>
    cases fl with
    | ret u => exact I.after hq
    | next => exact False.elim hq
    | brk => exact False.elim hq
    | cont => exact False.elim hq
def dCall (m : FD) (idx : List Nat) (dds : List D) (τs τk : TDa) : TD := fun ρ kx k => τs ρ kx fun ds ρ1 => τk ρ1 kx fun ks ρ2 => m (pickD idx (ds ++ dds ++ ks)) (fun x => kx x ρ2) fun d => k d ρ2
theorem pickV_len (idx : List Nat) (l : List V) : (pickV idx l).length = idx.length := by simp [pickV]
variable {n nk : Nat} {ks : List Str} {idx : List Nat} {dvs : List V} {dds : List D}
def cnt (n : Nat) (τ : TDa) : TDa := fun ρ kx k => τ ρ kx fun ds ρ' => ds.length = n ∧ k ds ρ'
theorem pd_call (G : FnOk X.prog X.w X.K X.mg X.base (L2.CX X.prog X.w) k f fd ps (SpD X.K X.mg ps.length m)) (hr : Room k X.A) (hg : Gl X x) (hm : X.mg x = some (.ref f)) (hk : PySem.W.keepIn X.K (.ref f) = true) (hb : BindD X.K fd ps n [] idx dvs) (hd : ∀ W, DVs X.K X.mg W dds dvs)
    (ha : PAd X (e :: es) τs) (hdb : (x == ("__debug__" : Str)) = false := by decide) (he : starEach (e :: es) X.env = (false, eval e X.env) :: starEach es X.env := by rfl) (hpl : (backTo pos (starEach es X.env)).any (·.1) = false := by rfl) :
    PEd X (.Call (.Name x p) (e :: es) [] pos) (dCall m idx dds (cnt n τs) dNil) := by
  refine ⟨⟨fun pins s σ H Q I ⟨W, F, ρ, kx, kk, tk, R, h, hQ⟩ => ?_⟩⟩
  refine wpAny_Call_Name_kw (ld_glob I hg hm ?_ hdb)
  refine PySem.W.callWith_K (h₀ := X.base) I.ok.mod.kin hk (thn (ha.p.run pos pins s σ H _ I ⟨W, F, ρ, kx, _, tk, R, h, fun ds ρ1 vs H1 W1 h1 le1 R1 d1 =>
    (⟨ds, ρ1, W1, h1, le1, R1, d1⟩ : ∃ ds ρ1 W1, (ds.length = n ∧ m (pickD idx (ds ++ dds ++ [])) (fun x => kx x ρ1) fun d => kk d ρ1) ∧ W.le W1 ∧ Rep X.K X.mg W1 F H1 σ ρ1 ∧ DVs X.K X.mg W1 ds vs)⟩) fun us s1 ⟨vs, H1, I1, r, ds, ρ1, W1, ⟨hn, h1⟩, le1, R1, d1⟩ => ⟨I1.kIn, ?_⟩) he hpl
  obtain ⟨its, ri, hbt⟩ := hb.b
  have l1 : us.length = n := by rw [← r.length, ← dvs_len d1, hn]
  refine run_d (args := ⟨us, []⟩) (us := pickU idx (us ++ its ++ [])) (vs := pickV idx (vs ++ dvs ++ [])) G hr I1 (hbt s1 us [] I1.kIn l1 rfl) (pick_rel ((r.append ri).append .nil) idx) (by rw [pickV_len]; exact hb.len) (tk.mono le1) R1
    (pick_dv (dvs_app (dvs_app d1 (hd W1)) dvs_nil) idx) h1 fun d v H' W' hk le R' dv => hQ d ρ1 v H' W' hk (le1.trans le) R' dv
theorem pd_callK (G : FnOk X.prog X.w X.K X.mg X.base (L2.CX X.prog X.w) k f fd ps (SpD X.K X.mg ps.length m)) (hr : Room k X.A) (hg : Gl X x) (hm : X.mg x = some (.ref f)) (hk : PySem.W.keepIn X.K (.ref f) = true) (hb : BindD X.K fd ps n ks idx dvs) (hd : ∀ W, DVs X.K X.mg W dds dvs)
    (ha : PAd X (e :: es) τs) (hkw : PKd X kws τk) (hall : (backToKw pos (keywordEach kws X.env)).all (·.1.isSome) = true := by rfl) (hks : (backToKw pos (keywordEach kws X.env)).filterMap (·.1) = ks := by rfl) (hnk : ks.length = nk := by rfl)
    (hdb : (x == ("__debug__" : Str)) = false := by decide) (he : starEach (e :: es) X.env = (false, eval e X.env) :: starEach es X.env := by rfl)
    (hpl : ((backTo pos (starEach (e :: es) X.env)).any (·.1) || (backToKw pos (keywordEach kws X.env)).any (·.1.isNone)) = false := by rfl) :
    PEd X (.Call (.Name x p) (e :: es) kws pos) (dCall m idx dds (cnt n τs) (cnt nk τk)) := by
  refine ⟨⟨fun pins s σ H Q I ⟨W, F, ρ, kx, kk, tk, R, h, hQ⟩ => ?_⟩⟩
  refine wpAny_Call_Name_kw (ld_glob I hg hm ?_ hdb)
  refine PySem.W.callWith_KW (h₀ := X.base) I.ok.mod.kin hk hall (thn (ha.p.run pos pins s σ H _ I ⟨W, F, ρ, kx, _, tk, R, h, fun ds ρ1 vs H1 W1 h1 le1 R1 d1 =>
    (⟨ds, ρ1, W1, h1, le1, R1, d1⟩ : ∃ ds ρ1 W1, (ds.length = n ∧ cnt nk τk ρ1 kx fun ks' ρ2 => m (pickD idx (ds ++ dds ++ ks')) (fun x => kx x ρ2) fun d => kk d ρ2) ∧ W.le W1 ∧ Rep X.K X.mg W1 F H1 σ ρ1 ∧ DVs X.K X.mg W1 ds vs)⟩) fun us s1 ⟨vs, H1, I1, r, ds, ρ1, W1, ⟨hn, h1⟩, le1, R1, d1⟩ => ?_) hpl he
  refine thn (hkw.p.run pos pins s1 σ H1 _ I1 ⟨W1, F, ρ1, kx, _, tk.mono le1, R1, h1, fun ds2 ρ2 vs2 H2 W2 h2 le2 R2 d2 =>
    (⟨ds2, ρ2, W2, h2, le2, R2, d2⟩ : ∃ ds2 ρ2 W2, (ds2.length = nk ∧ m (pickD idx (ds ++ dds ++ ds2)) (fun x => kx x ρ2) fun d => kk d ρ2) ∧ W1.le W2 ∧ Rep X.K X.mg W2 F H2 σ ρ2 ∧ DVs X.K X.mg W2 ds2 vs2)⟩) fun ws s2 ⟨zs, H2, I2, rz, ds2, ρ2, W2, ⟨hn2, h2⟩, le2, R2, d2⟩ => ⟨I2.kIn, ?_⟩
  rw [hks]
  obtain ⟨its, ri, hbt⟩ := hb.b
  have l1 : us.length = n := by rw [← r.length, ← dvs_len d1, hn]
  have l2 : ws.length = ks.length := by rw [← rz.length, ← dvs_len d2, hn2, hnk]
  exact run_d (args := ⟨us, ks.zip ws⟩) (us := pickU idx (us ++ its ++ ws)) (vs := pickV idx (vs ++ dvs ++ zs)) G hr I2 (hbt s2 us ws I2.kIn l1 l2) (pick_rel ((r.append ri).append rz) idx) (by rw [pickV_len]; exact hb.len) (tk.mono (le1.trans le2)) R2
    (pick_dv (dvs_app (dvs_app (DVs.mono le2 _ _ d1) (hd W2)) d2) idx) h2 fun d v H' W' hk le R' dv => hQ d ρ2 v H' W' hk ((le1.trans le2).trans le) R' dv
end
end DL
set_option maxHeartbeats 4000000
/-! DL7: equality of data, truth, built-in calls. -/
namespace DL
open PySem PySem.Spec PyProof.Rows L2
variable [TabC]
/-! ### equality -/
mutual
def toPy : D → PyData
  | .non => .none
  | .bl b => .bool b
  | .int i => .int i
  | .str x => .str x
  | .tup ds => .tuple (toPys ds)
  | .lst ds => .list (toPys ds)
  | .ins _ _ _ => .none
  | .dic _ _ => .none
  | .exc _ _ _ => .none
  | .town => .none
  | .scr _ => .none
  | .ptp _ => .none
def toPys : List D → List PyData
  | [] => []
  | d :: ds => toPy d :: toPys ds
end
mutual
def pln : Nat → D → Bool
  | _, .non => true
  | _, .bl _ => true
  | _, .int _ => true
  | _, .str _ => true
  | n, .tup ds => match n with | 0 => false | n + 1 => plns n ds
  | n, .lst ds => match n with | 0 => false | n + 1 => plns n ds
  | _, .ins _ _ _ => false
  | _, .dic _ _ => false
  | _, .exc _ _ _ => false
  | _, .town => false
  | _, .scr _ => false
  | _, .ptp _ => false
def plns : Nat → List D → Bool
  | _, [] => true
  | n, d :: ds => pln n d && plns n ds
end
section
variable {K : PySem.W.Frag} {mg : Str → Option Value} {W : Wd} {H : Hp}
mutual
theorem DV.dp (g : Same W.G H) : ∀ (d : D) (n : Nat) (v : V), DV K mg W d v → pln n d = true → Dp K H v (toPy d) ∧ PyData.canLay0 (toPy d) = true ∧ PyData.depth (toPy d) ≤ n
  | .non, n, v, x, _ => by simp only [DV] at x; subst x; simp only [toPy, PyData.canLay0, PyData.depth]; exact ⟨.non, trivial, Nat.zero_le _⟩
  | .bl b, n, v, x, _ => by simp only [DV] at x; subst x; simp only [toPy, PyData.canLay0, PyData.depth]; exact ⟨.bl b, trivial, Nat.zero_le _⟩
  | .int b, n, v, x, _ => by simp only [DV] at x; subst x; simp only [toPy, PyData.canLay0, PyData.depth]; exact ⟨.int b, trivial, Nat.zero_le _⟩
  | .str b, n, v, x, _ => by
    simp only [DV] at x
    obtain ⟨e, h1, h2⟩ := x
    subst e
    simp only [toPy, PyData.canLay0, PyData.depth]
    exact ⟨.str b, h2, Nat.zero_le _⟩
  | .tup ds, n, v, x, p => by
    simp only [DV] at x
    obtain ⟨a, vs, e, s, l, r⟩ := x
    subst e
    cases n with
    | zero => simp [pln] at p
    | succ n =>
      simp only [pln] at p
      obtain ⟨h1, h2, h3⟩ := DVs.dp g ds n vs r p
      simp only [toPy, PyData.canLay0, PyData.depth]
      exact ⟨.tup (seqT_mono g s) h1, h2, Nat.succ_le_succ h3⟩
  | .lst ds, n, v, x, p => by
    simp only [DV] at x
    obtain ⟨a, vs, e, s, l, r⟩ := x
    subst e
    cases n with
    | zero => simp [pln] at p
    | succ n =>
      simp only [pln] at p
      obtain ⟨h1, h2, h3⟩ := DVs.dp g ds n vs r p
      simp only [toPy, PyData.canLay0, PyData.depth]
      exact ⟨.lst (.inl (.inl (g _ _ s))) h1, h2, Nat.succ_le_succ h3⟩
  | .ins _ _ _, n, v, x, p => by simp [pln] at p
  | .dic _ _, n, v, x, p => by simp [pln] at p
  | .exc _ _ _, n, v, x, p => by simp [pln] at p
  | .ptp _, n, v, x, p => by simp [pln] at p
  | .town, n, v, x, p => by simp [pln] at p
  | .scr _, n, v, x, p => by simp [pln] at p
theorem DVs.dp (g : Same W.G H) : ∀ (ds : List D) (n : Nat) (vs : List V), DVs K mg W ds vs → plns n ds = true → DpAll K H vs (toPys ds) ∧ PyData.canLayAll0 (toPys ds) = true ∧ PyData.depthAll (toPys ds) ≤ n
  | [], n, vs, x, _ => by
    simp only [DVs] at x
    subst x
    simp only [toPys, PyData.canLayAll0, PyData.depthAll]
    exact ⟨.nil, trivial, Nat.zero_le _⟩
  | d :: ds, n, vs, x, p => by
    simp only [DVs] at x
    obtain ⟨v, vr, e, r, t⟩ := x
    subst e
    simp only [plns, Bool.and_eq_true] at p
    obtain ⟨h1, h2, h3⟩ := DV.dp g d n v r p.1
    obtain ⟨k1, k2, k3⟩ := DVs.dp g ds n vr t p.2
    simp only [toPys, PyData.canLayAll0, PyData.depthAll, Bool.and_eq_true]
    exact ⟨.cons h1 k1, ⟨h2, k2⟩, Nat.max_le.mpr ⟨h3, k3⟩⟩
end
end
def deq (d e : D) : Bool := PyData.eqv (toPy d) (toPy e)
theorem shaped_of {d : D} {n : Nat} (hn : n ≤ 64) (h1 : PyData.canLay0 (toPy d) = true) (h2 : PyData.depth (toPy d) ≤ n) : SeqAt.shaped (toPy d) = true := by
  unfold SeqAt.shaped
  rw [h1, Bool.true_and]
  exact decide_eq_true (Nat.le_trans h2 hn)
section
variable {X : Cx} {a b e : Expr} {τ τa τb : TD} {τs : TDa} {pos : Pos}
def gEq : G2 := fun x y k => pln 9 x = true ∧ pln 9 y = true ∧ k (.bl (deq x y))
def gNe : G2 := fun x y k => pln 9 x = true ∧ pln 9 y = true ∧ k (.bl (!deq x y))
theorem od_eq : OpD X (rEqD X.K) gEq := by
  intro W F H σ ρ x y dx dy k Q R hx hy ⟨p1, p2, hk⟩ hQ
  obtain ⟨h1, h2, h3⟩ := hx.dp R.w.g dx 9 x p1
  obtain ⟨k1, k2, k3⟩ := hy.dp R.w.g dy 9 y p2
  exact ⟨_, _, h1, k1, shaped_of (by decide) h2 h3, shaped_of (by decide) k2 k3, hQ _ _ H W hk (Wd.le.refl W) R (by simp only [DV, deq])⟩
theorem od_ne : OpD X (rNeD X.K) gNe := by
  intro W F H σ ρ x y dx dy k Q R hx hy ⟨p1, p2, hk⟩ hQ
  obtain ⟨h1, h2, h3⟩ := hx.dp R.w.g dx 9 x p1
  obtain ⟨k1, k2, k3⟩ := hy.dp R.w.g dy 9 y p2
  exact ⟨_, _, h1, k1, shaped_of (by decide) h2 h3, shaped_of (by decide) k2 k3, hQ _ _ H W hk (Wd.le.refl W) R (by simp only [DV, deq])⟩
theorem pd_eq {k : Nat} (hr : Room k X.A) (ha : PEd X a τa) (hb : PEd X b τb) : PEd X (.Compare a [.Eq] [b] pos) (dOp gEq τa τb) := pd_cmp (op_eqD hr.units) od_eq ha hb (nomark _)
theorem td_eq {k : Nat} (hr : Room k X.A) (ha : PEd X a τa) (hb : PEd X b τb) : PTd X (.Compare a [.Eq] [b] pos) (dTest (dOp gEq τa τb)) := td_cmp (op_eqD hr.units) od_eq ha hb (nomark _)
theorem td_ne {k : Nat} (hr : Room k X.A) (ha : PEd X a τa) (hb : PEd X b τb) : PTd X (.Compare a [.NotEq] [b] pos) (dTest (dOp gNe τa τb)) := td_cmp (op_neD hr.units) od_ne ha hb (nomark _)
/-! ### truth -/
def truD : D → Option Bool
  | .non => some false
  | .bl b => some b
  | .int i => some (i != 0)
  | .str x => some ((x.length : Int) != 0)
  | .tup ds => some (!ds.isEmpty)
  | .lst ds => some (!ds.isEmpty)
  | .scr ns => some (!ns.isEmpty)
  | .dic ks _ => some (!ks.isEmpty)
  | _ => none
def dTru (τ : TD) : TDt := fun ρ kx k => τ ρ kx fun d ρ' => ∃ b, truD d = some b ∧ k b ρ'
/-! ### built-in calls -/
abbrev GC := List D → (D → Prop) → Prop
def CallD (X : Cx) (r : List V → Hp → VK → Prop) (g : GC) : Prop := ∀ (W : Wd) (F H : Hp) (σ : L2.St) (ρ : Rho) (vs : List V) (ds : List D) (k : D → Prop) (Q : VK), Rep X.K X.mg W F H σ ρ → DVs X.K X.mg W ds vs → g ds k →
  (∀ d v H' W', k d → W.le W' → Rep X.K X.mg W' F H' σ ρ → DV X.K X.mg W' d v → Q v H') → r vs H Q
def dBC (g : GC) (τs : TDa) : TD := fun ρ kx k => τs ρ kx fun ds ρ' => g ds fun d => k d ρ'
theorem lE.bc {r : List V → Hp → VK → Prop} {g : GC} (cd : CallD X r g) : ∀ σ H Q, lE X (dBC g τs) σ H Q → tCB r (lA X τs) σ H Q := by
  rintro σ H Q ⟨W, F, ρ, kx, k, tk, R, h, hQ⟩
  refine ⟨W, F, ρ, kx, _, tk, R, h, fun ds ρ1 vs H1 W1 h1 le1 R1 d1 => ?_⟩
  exact cd W1 F H1 σ ρ1 vs ds _ Q R1 d1 h1 fun d v H' W' hk le R' dv => hQ d ρ1 v H' W' hk (le1.trans le) R' dv
variable {x : Str} {p : Pos} {es : List Expr} {id : String} {T : String} {r : List V → Hp → VK → Prop} {g : GC}
theorem pd_bc (hc : CallR X (.builtin id) r) (cd : CallD X r g) (hg : Gl X x) (hm : X.mg x = none) (hv : bootBuiltins x = some (.builtin id)) (ha : PAd X (e :: es) τs) (hn : x ≠ "__name__" := by decide) (hdb : (x == ("__debug__" : Str)) = false := by decide)
    (he : starEach (e :: es) X.env = (false, eval e X.env) :: starEach es X.env := by rfl) (hpl : (backTo pos (starEach es X.env)).any (·.1) = false := by rfl) : PEd X (.Call (.Name x p) (e :: es) [] pos) (dBC g τs) :=
  ⟨PE.imp (pe_callB hc hg hm hv ha.p hn hdb he hpl) (lE.bc cd)⟩
theorem pd_tc (hc : CallR X (.type T) r) (cd : CallD X r g) (hg : Gl X x) (hm : X.mg x = none) (hv : bootBuiltins x = some (.type T)) (ha : PAd X (e :: es) τs) (hn : x ≠ "__name__" := by decide) (hdb : (x == ("__debug__" : Str)) = false := by decide)
    (he : starEach (e :: es) X.env = (false, eval e X.env) :: starEach es X.env := by rfl) (hpl : (backTo pos (starEach es X.env)).any (·.1) = false := by rfl) : PEd X (.Call (.Name x p) (e :: es) [] pos) (dBC g τs) :=
  ⟨PE.imp (pe_callTy hc hg hm hv ha.p hn hdb he hpl) (lE.bc cd)⟩
def cMin2 : GC := fun ds k => match ds with | [.int i, .int j] => k (.int (min i j)) | _ => False
def cMax2 : GC := fun ds k => match ds with | [.int i, .int j] => k (.int (max i j)) | _ => False
def cLen : GC := fun ds k => match ds with
  | [.tup xs] => k (.int (xs.length : Nat))
  | [.lst xs] => k (.int (xs.length : Nat))
  | [.str x] => k (.int (x.length : Nat))
  | [.scr ns] => k (.int (ns.length : Nat))
  | _ => False
theorem cd_len : CallD X (fun xs H Q => ∃ x n, xs = [x] ∧ LenV X.K x H n ∧ Q (.int n) H) cLen := by
  intro W F H σ ρ vs ds k Q R dv hg hQ
  have fin : ∀ n : Nat, k (.int (n : Nat)) → Q (.int (n : Nat)) H := fun n h => hQ _ _ H W h (Wd.le.refl W) R (by simp only [DV])
  match ds, hg, dv with
  | [.tup xs], hg, dv =>
    obtain ⟨v, e, r⟩ := dvs1 dv
    simp only [DV] at r
    obtain ⟨a, us, ea, s, l, r⟩ := r
    subst ea
    exact ⟨_, xs.length, e, .inr ⟨us, seqT_mono R.w.g s, dvs_len r⟩, fin _ hg⟩
  | [.lst xs], hg, dv =>
    obtain ⟨v, e, r⟩ := dvs1 dv
    simp only [DV] at r
    obtain ⟨a, us, ea, s, l, r⟩ := r
    subst ea
    exact ⟨_, xs.length, e, .inl ⟨us, .inl (.inl (R.w.g _ _ s)), dvs_len r⟩, fin _ hg⟩
  | [.str x], hg, dv =>
    obtain ⟨v, e, r⟩ := dvs1 dv
    simp only [DV] at r
    obtain ⟨ea, l, _⟩ := r
    subst ea
    exact ⟨_, x.length, e, ⟨l, rfl⟩, fin _ hg⟩
  | [.scr ns], hg, dv =>
    obtain ⟨v, e, r⟩ := dvs1 dv
    simp only [DV] at r
    obtain ⟨a, ea, s, l⟩ := r
    subst ea
    exact ⟨_, ns.length, e, .inl ⟨_, seqL_mono R.w.g s, by simp⟩, fin _ hg⟩
end
/-! ### the town's deeds -/
def drawM : FD := fun ds _ k => match ds with
  | [.scr _, .town, .int n] => (0 < n ∧ n < 100000) ∧ ∀ v : Int, 0 ≤ v → v < n → k (.int v)
  | _ => False
theorem nodup_le : ∀ (m : Nat) (l : List Key), l.Nodup → (∀ p ∈ l, ∃ k : Int, p = Sum.inl k ∧ 0 ≤ k ∧ k < (m : Int)) → l.length ≤ m
  | 0, l, _, h => by
    cases l with
    | nil => exact Nat.le_refl _
    | cons p r => obtain ⟨k, _, h1, h2⟩ := h p List.mem_cons_self; omega
  | m + 1, l, nd, h => by
    have h1 : (l.filter fun p => decide (p ≠ Sum.inl (m : Int))).length ≤ m := nodup_le m _ (nd.filter _) fun p hp => by
      obtain ⟨h2, h3⟩ := List.mem_filter.mp hp
      obtain ⟨k, e, k1, k2⟩ := h p h2
      refine ⟨k, e, k1, ?_⟩
      have : k ≠ (m : Int) := fun z => by subst z; rw [e] at h3; simp at h3
      omega
    have h2 : l.length ≤ (l.filter fun p => decide (p ≠ Sum.inl (m : Int))).length + 1 := by
      have aux : ∀ l : List Key, l.Nodup → l.length ≤ (l.filter fun p => decide (p ≠ Sum.inl (m : Int))).length + 1 := by
        intro l
        induction l with
        | nil => intro _; simp
        | cons p r ih =>
          intro nd
          obtain ⟨n1, n2⟩ := List.nodup_cons.mp nd
          by_cases e : p = Sum.inl (m : Int)
          · have : r.filter (fun p => decide (p ≠ Sum.inl (m : Int))) = r := List.filter_eq_self.mpr fun q hq => decide_eq_true fun z => n1 (by rw [e, ← z]; exact hq)
            rw [List.filter_cons, if_neg (by simp [e]), this]
            simp
          · rw [List.filter_cons, if_pos (by simpa using e)]
            have := ih n2
            simp only [List.length_cons]
            omega
      exact aux l nd
    omega
end DL
set_option maxHeartbeats 4000000
/-! DL8: the town's two dicts. -/
namespace DL
open PySem PySem.Spec PyProof.Rows L2
variable [TabC]
abbrev kCount : Key := Sum.inr "count"
abbrev kRests : Key := Sum.inr "rests"
theorem cr_ne : ¬ (kCount = kRests) := by decide +kernel
def tk (c : Int) (r : Addr) : List (Key × V) := [(kCount, .int c), (kRests, .ref r)]
theorem tk_count (c : Int) (r : Addr) : valV (tk c r) kCount = some (.int c) := valV_pos rfl
theorem tk_rests (c : Int) (r : Addr) : valV (tk c r) kRests = some (.ref r) := by
  unfold tk
  rw [valV_neg cr_ne, valV_pos rfl]
theorem tk_put (c c' : Int) (r : Addr) : putK (tk c r) kCount (.int c') = tk c' r := by
  unfold putK tk
  rw [if_pos (by simp)]
  simp [Ne.symm cr_ne]
theorem townAt_of {H : Hp} {a r : Addr} {c : Int} {kvs : List (Key × V)} (n : a ≠ r) (h1 : H a = some (.dK (tk c r))) (h2 : H r = some (.dK kvs)) (h3 : ∀ p ∈ kvs, ∃ k n : Int, p = (Sum.inl k, V.int n) ∧ 0 ≤ k ∧ k < 64) (h4 : (kvs.map (·.1)).Nodup) : TownAt H a r := by
  refine ⟨n, c, kvs, h1, h2, ?_, h3, h4⟩
  have := nodup_le 64 (kvs.map (·.1)) h4 fun p hp => by
    obtain ⟨q, hq, e⟩ := List.mem_map.mp hp
    obtain ⟨k, m, e2, k1, k2⟩ := h3 q hq
    exact ⟨k, by rw [← e, e2], k1, k2⟩
  rwa [List.length_map] at this
theorem WOk.town {W : Wd} {F H H' : Hp} {a r : Addr} (w : WOk W F H) (ht : W.tw ⟨a, r, none⟩) (h : ∀ b, b ≠ a → b ≠ r → H' b = H b) (t : TownAt H' a r) : WOk W F H' := by
  obtain ⟨t0, g1, g2, f1, f2⟩ := w.t _ ht
  have ne : ∀ {H0 : Hp} {b : Addr} {o : HO}, H0 a = none → H0 r = none → H0 b = some o → b ≠ a ∧ b ≠ r := fun {H0 b o} n1 n2 e =>
    ⟨(fun z => by rw [z, n1] at e; cases e), (fun z => by rw [z, n2] at e; cases e)⟩
  refine ⟨fun b o e => ?_, fun b o e => ?_, w.gf, fun p hp => ?_⟩
  · obtain ⟨q1, q2⟩ := ne g1 g2 e
    exact (h b q1 q2).trans (w.g b o e)
  · obtain ⟨q1, q2⟩ := ne f1 f2 e
    exact (h b q1 q2).trans (w.f b o e)
  · obtain ⟨t1, k1, k2, k3, k4⟩ := w.t p hp
    obtain ⟨pa, pr, pq⟩ := p
    have htT : W.T = some (a, r) := by
      rcases ht with ⟨e, _⟩ | ⟨_, q, e, _⟩
      · exact e
      · cases e
    rcases hp with ⟨e, e2⟩ | ⟨e1, q, e2, _⟩
    · have e : W.T = some (pa, pr) := e
      have e2 : pq = none := e2
      rw [htT] at e
      cases e
      subst e2
      exact ⟨t, g1, g2, f1, f2⟩
    · have e1 : pa = pr := e1
      have e2 : pq = some q := e2
      subst e1
      subst e2
      obtain ⟨_, c, kvs, h1, h2, _⟩ := (show TownAt H a r from t0)
      obtain ⟨ps, h3, _⟩ := (show TabAt W.G H pa q from t1)
      have n1 : pa ≠ a := ne_of h3 h1 (fun z => by cases z)
      have n2 : pa ≠ r := ne_of h3 h2 (fun z => by cases z)
      exact ⟨t1.keep (h pa n1 n2) (h pa n1 n2), k1, k2, k3, k4⟩
def Rests (kvs : List (Key × V)) : Prop := (∀ p ∈ kvs, ∃ k n : Int, p = (Sum.inl k, V.int n) ∧ 0 ≤ k ∧ k < 64) ∧ (kvs.map (·.1)).Nodup
theorem Rests.len {kvs : List (Key × V)} (h : Rests kvs) : kvs.length ≤ 64 := by
  have := nodup_le 64 (kvs.map (·.1)) h.2 fun p hp => by
    obtain ⟨q, hq, e⟩ := List.mem_map.mp hp
    obtain ⟨k, m, e2, k1, k2⟩ := h.1 q hq
    exact ⟨k, by rw [← e, e2], k1, k2⟩
  rwa [List.length_map] at this
theorem Rests.get {kvs : List (Key × V)} (h : Rests kvs) (i d : Int) : ∃ m : Int, (valV kvs (Sum.inl i)).getD (.int d) = .int m := by
  unfold valV
  cases q : kvs.find? fun kv => decide (kv.1 = Sum.inl i) with
  | none => exact ⟨d, rfl⟩
  | some p =>
    obtain ⟨k, n, e, _⟩ := h.1 p (List.mem_of_find?_eq_some q)
    exact ⟨n, by rw [e]; rfl⟩
theorem Rests.put {kvs : List (Key × V)} (h : Rests kvs) {i m : Int} (h0 : 0 ≤ i) (h1 : i < 64) : Rests (putK kvs (Sum.inl i) (.int m)) := by
  unfold putK
  split
  · refine ⟨fun p hp => ?_, ?_⟩
    · obtain ⟨q, hq, e⟩ := List.mem_map.mp hp
      obtain ⟨k, n, e2, k1, k2⟩ := h.1 q hq
      subst e2
      by_cases z : (Sum.inl k : Key) = Sum.inl i
      · have e' : p = (Sum.inl k, V.int m) := by rw [← e]; simp [z]
        exact ⟨k, m, e', k1, k2⟩
      · have e' : p = (Sum.inl k, V.int n) := by rw [← e]; simp only [if_neg z]
        exact ⟨k, n, e', k1, k2⟩
    · have : (kvs.map fun kv => if kv.1 = Sum.inl i then (kv.1, V.int m) else kv).map (·.1) = kvs.map (·.1) := by
        rw [List.map_map]
        refine List.map_congr_left fun q _ => ?_
        by_cases z : q.1 = Sum.inl i
        · simp [z]
        · simp [z]
      rw [this]; exact h.2
  · rename_i hn
    have hn' : ∀ x ∈ kvs, ¬ x.1 = Sum.inl i := fun x hx z => hn (by rw [List.any_eq_true]; exact ⟨x, hx, by simpa using z⟩)
    refine ⟨fun p hp => ?_, ?_⟩
    · rcases List.mem_append.mp hp with q | q
      · exact h.1 p q
      · have : p = (Sum.inl i, V.int m) := by simpa using q
        exact ⟨i, m, this, h0, h1⟩
    · rw [List.map_append, List.nodup_append]
      refine ⟨h.2, by simp, fun x hx y hy => ?_⟩
      have ey : y = Sum.inl i := by simpa using hy
      obtain ⟨q, hq, e⟩ := List.mem_map.mp hx
      rw [ey, ← e]
      exact hn' q hq
theorem emod_lt' (i : Int) {n : Int} (h : 0 < n) : 0 ≤ i % n ∧ i % n < n := ⟨Int.emod_nonneg _ (by omega), Int.emod_lt_of_pos _ h⟩
end DL
set_option maxHeartbeats 4000000
/-! DL9: the law itself. -/
namespace DL
open PySem PySem.Spec PyProof.Rows L2
variable [TabC]
def SpB : Sp := fun vs H Q _ => vs = [] ∧ ∀ (a r : Addr) (H' : Hp), a ≠ r → H a = none → H r = none → H' a = some (.dK (tk 0 r)) → H' r = some (.dK []) → (∀ b, b ≠ a → b ≠ r → H' b = H b) → Q (.ref a) H'
theorem begun_read {H : Hp} {Q : VK} {σ : L2.St} (h : ∀ (a r : Addr) (H' : Hp), a ≠ r → H a = none → H r = none → H' a = some (.dK (tk 0 r)) → H' r = some (.dK []) → (∀ b, b ≠ a → b ≠ r → H' b = H b) → Q (.ref a) H') :
    tDisp [(tC (.str "count"), tC (.int 0)), (tC (.str "rests"), tDNewK)] σ H Q := by
  intro p hp r hr
  have npr : p ≠ r := fun z => by rw [z, upd_same] at hr; cases hr
  have hr0 : H r = none := by rw [upd_ne (Ne.symm npr)] at hr; exact hr
  refine ⟨(upd_ne npr).trans upd_same, [(kCount, .int 0), (kRests, .ref r)], rfl, by simp, ?_⟩
  refine h p r _ npr hp hr0 (upd_same.trans ?_) ((upd_ne (Ne.symm npr)).trans upd_same) fun b b1 b2 => (upd_ne b1).trans ((upd_ne b2).trans (upd_ne b1))
  have : mergeK [] [(kCount, V.int 0), (kRests, V.ref r)] = tk 0 r := by
    unfold mergeK
    rw [List.foldl_cons, List.foldl_cons, List.foldl_nil, putK_new _ rfl]
    show putK [(kCount, V.int 0)] kRests (V.ref r) = _
    rw [putK_new _ (by rw [valV_neg cr_ne]; rfl)]
    rfl
  rw [this]
def spLaw (K : PySem.W.Frag) : Sp := fun vs H Q _ => ∃ (a : Addr) (ns : List Int), vs = [.ref a] ∧ SqL K H a (ns.map V.int) ∧ ns.length ≤ 63 ∧ (∀ P q, TabC.tb P = some q → H P = some (.tbl #[])) ∧ ∀ H', Q (.bl true) H'
def KL : KS := { nx := fun _ => False, rt := fun d _ => d = .bl true }
def rhoL (n : Nat) (ns : List Int) : Rho := .val (.scr ns) :: .val .town :: List.replicate (n - 2) .un
section
variable {P : Program} {w : World} {K : PySem.W.Frag} {mg : Str → Option Value} {base : Heap}
theorem okc {CX : CXT} {x qual : Str} {params : Arguments} {body : List Stmt} {scope : Scope} {dvs : List V} {kws : List (Str × V)} {f : Addr} {fd : FuncData} {N ps : List Str} {k : Nat} {sp : Sp} (F : FunD K x qual params body scope dvs kws f fd) (S : FnScope N ps scope) (len : ∀ vs H Q E, sp vs H Q E → vs.length = ps.length)
    (hb : ∀ (cdv : Value) (A : Around) (outer : List PySem.Env) (s : Shared) (H : Hp) (vs : List V) (Q : VK) (E : XK), fd.code = cdv → Room k (A.deeper (envOfC qual scope s.heap.objs.size f cdv)) → sp vs H Q E →
      ∃ t, PSs (cxOf CX P w K mg base N qual scope f cdv A outer s H E) body t ∧ t { nx := fun _ H' => Q .non H', rt := Q } (L2.start N vs) H) : FnOk P w K mg base CX (k + 1) f fd ps sp := by
  obtain ⟨oc, od, dV, kV, doc, pm, an, cdv, ct, osl, rfl, lk, hcd, _, _⟩ := F.ex
  exact fn_of lk hcd S len fun A outer s H vs Q E hr hsp => hb cdv A outer s H vs Q E rfl hr hsp
theorem fn_law {params : Arguments} {s0 : Stmt} {rest : List Stmt} {scope : Scope} {f : Addr} {fd : FuncData} {N : List Str} {k : Nat} {τ : TDS} (F : FunD K "law" "law" params (s0 :: rest) scope [] [] f fd) (S : FnScope N ["_law_script"] scope) (hN : 2 ≤ N.length)
    (hτ : ∀ ns : List Int, ns.length ≤ 63 → τ (rhoL N.length ns) nokx KL)
    (hb : ∀ (cdv : Value) (A : Around) (outer : List PySem.Env) (s : Shared) (H : Hp) (E : XK), fd.code = cdv → Room k (A.deeper (envOfC "law" scope s.heap.objs.size f cdv)) →
      PS (cxOf (L2.CX P w) P w K mg base N "law" scope f cdv A outer s H E) s0 (tAsg (tCall SpB [] E0 tNil) (L2.gName 1)) ∧ PBd (cxOf (L2.CX P w) P w K mg base N "law" scope f cdv A outer s H E) rest τ) :
    FnOk P w K mg base (L2.CX P w) (k + 1) f fd ["_law_script"] (spLaw K) := by
  refine okc F S (fun vs H Q E h => by obtain ⟨a, ns, e, _⟩ := h; rw [e]; rfl) fun cdv A outer s H vs Q E hcd hr h => ?_
  obtain ⟨a, ns, rfl, hS, hl, hT, hQ⟩ := h
  obtain ⟨h0, hrest⟩ := hb cdv A outer s H E hcd hr
  refine ⟨_, pss_cons h0 hrest.p, ⟨rfl, fun ta tr H' ne na nr h1 h2 h3 => ?_⟩⟩
  have sm : Same H H' := fun b o e => (h3 b (ne_of_none e na) (ne_of_none e nr)).trans e
  have gs : ∀ b o, (if (TabC.tb b).isSome then none else H b) = some o → H b = some o := fun b o e => by
    split at e
    · cases e
    · exact e
  have notb : ∀ {b : Addr} {o : HO}, H b = some o → (∀ ps, o ≠ .tbl ps) → (if (TabC.tb b).isSome then none else H b) = some o := fun {b o} e n => by
    split
    · rename_i z
      obtain ⟨q, eq⟩ := Option.isSome_iff_exists.mp z
      rw [hT b q eq] at e
      cases e
      exact (n _ rfl).elim
    · exact e
  have hS2 : SqL K (fun b => if (TabC.tb b).isSome then none else H b) a (ns.map V.int) := by
    rcases hS with (z | ⟨o, z⟩) | z
    · exact .inl (.inl (notb z fun _ e => by cases e))
    · exact .inl (.inr ⟨o, notb z fun _ e => by cases e⟩)
    · exact .inr z
  have wok : WOk { G := fun b => if (TabC.tb b).isSome then none else H b, T := some (ta, tr) } (fun _ => none) H' := ⟨fun b o e => sm b o (gs b o e), (fun _ _ e => by cases e), (fun _ e => (e rfl).elim), fun p hp => by
    obtain ⟨pa, pr, pq⟩ := p
    rcases hp with ⟨e, e2⟩ | ⟨e1, q, e2, e3⟩
    · cases e
      have e2 : pq = none := e2
      subst e2
      have gn : ∀ {b : Addr}, H b = none → (fun b => if (TabC.tb b).isSome then none else H b) b = none := fun {b} e => by
        show (if (TabC.tb b).isSome then none else H b) = none
        split
        · rfl
        · exact e
      exact ⟨townAt_of ne h1 h2 (fun p hp => by simp at hp) (by simp), gn na, gn nr, rfl, rfl⟩
    · have e1 : pa = pr := e1
      have e2 : pq = some q := e2
      have e3 : TabC.tb pa = some q := e3
      subst e1
      subst e2
      have gn : (fun b => if (TabC.tb b).isSome then none else H b) pa = none := by
        show (if (TabC.tb pa).isSome then none else H pa) = none
        rw [e3]
        rfl
      exact ⟨⟨#[], sm _ _ (hT pa q e3), True.intro, fun pos cv hc => by
        have z : codeAmong pos [] = some cv := hc
        simp [codeAmong] at z⟩, gn, gn, rfl, rfl⟩⟩
  refine ⟨{ G := fun b => if (TabC.tb b).isSome then none else H b, T := some (ta, tr) }, fun _ => none, rhoL N.length ns, nokx, KL, takesNo, ?_, hτ ns hl, ⟨fun _ _ _ _ z => z.elim, fun d ρ' v σ' H2 W2 hk _ _ dv => ?_, fun _ _ _ _ z => z.elim, fun _ _ _ _ z => z.elim⟩⟩
  · refine ⟨wok, ?_, fun i s hs => ?_, fun i j b _ ⟨t, t1, t2, _⟩ => ?_⟩
    · unfold rhoL L2.start
      simp
      omega
    · have eσ : L2.start N [V.ref a] = some (V.ref a) :: List.replicate (N.length - 1) none := rfl
      rw [eσ]
      match i, hs with
      | 0, hs =>
        have : s = .val (.scr ns) := by unfold rhoL at hs; simpa using hs.symm
        subst this
        refine .inr ⟨.ref a, ?_, ?_⟩
        · rw [List.getElem?_set_ne (by decide)]; rfl
        · show DV K mg _ (.scr ns) (.ref a)
          simp only [DV]
          exact ⟨a, rfl, hS2, hl⟩
      | 1, hs =>
        have : s = .val .town := by unfold rhoL at hs; simpa using hs.symm
        subst this
        refine .inr ⟨.ref ta, ?_, ?_⟩
        · rw [List.getElem?_set_self (by simp; omega)]
        · show DV K mg _ .town (.ref ta)
          simp only [DV]
          exact ⟨ta, tr, rfl, .inl ⟨rfl, rfl⟩⟩
      | i + 2, hs =>
        refine .inl ?_
        unfold rhoL at hs
        have : (List.replicate (N.length - 2) DL.S.un)[i]? = some s := by simpa using hs
        exact List.eq_of_mem_replicate (List.mem_of_getElem? this)
    · have hh : t = .val (.scr ns) ∨ t = .val .town ∨ t = .un := by
        have hm := List.mem_of_getElem? t1
        unfold rhoL at hm
        rcases List.mem_cons.mp hm with e | hm
        · exact .inl e
        · rcases List.mem_cons.mp hm with e | hm
          · exact .inr (.inl e)
          · exact .inr (.inr (List.eq_of_mem_replicate hm))
      rcases hh with e | e | e <;> (subst e; cases t2)
  · have hk : d = .bl true := hk
    subst hk
    simp only [DV] at dv
    subst dv
    exact hQ H2
end
theorem law_nox {P : Program} {w : World} {H : Hp} {s : Shared} {e : Value} {s' : Shared} (h : L2.CX P w [] H s (fun _ _ _ => False) e s') : False := by
  obtain ⟨_, _, _, _, _, _, _, _, _, _, _, _, z⟩ := h
  exact z
end DL
namespace DL
open PySem PySem.Spec PyProof.Rows L2
end DL
set_option maxHeartbeats 4000000
namespace DL
open PySem PySem.Spec PyProof.Rows L2
variable [TabC]
theorem Fun_binds0 {K : PySem.W.Frag} {x qual : Str} {params : Arguments} {body : List Stmt} {scope : Scope} {kws : List (Str × V)} {f : Addr} {fd : FuncData} (F : FunD K x qual params body scope [] kws f fd)
    (h : ∀ {kV doc pm : Value} {an : Option Addr} {cdv ct : Value}, bindArgs (PySem.W.fnOf x qual params body scope .none kV doc pm an cdv ct) ⟨[], []⟩ = pure []) : Binds K fd [] [] := by
  obtain ⟨oc, od, dV, kV, doc, pm, an, cdv, ct, osl, rfl, lk, hcd, hD, _⟩ := F.ex
  rcases hD with ⟨_, rfl⟩ | ⟨z, _⟩
  · exact .all fun us hl => by
      cases us with
      | nil => exact h
      | cons a b => cases hl
  · exact absurd rfl z
section
variable {X : Cx} {a b : Expr} {τa τb : TD} {pos : Pos}
def gAdd : G2 := gAddI
def gMult : G2 := gMul
theorem pd_mult (ha : PEd X a τa) (hb : PEd X b τb) : PEd X (.BinOp a .Mult b pos) (dOp gMult τa τb) := pd_mul ha hb
def gLt : G2 := gLtI
theorem td_lt {k : Nat} (hr : Room k X.A) (ha : PEd X a τa) (hb : PEd X b τb) : PTd X (.Compare a [.Lt] [b] pos) (dTest (dOp gLt τa τb)) := td_cmp op_lt od_ltI ha hb (nomark _)
end
end DL
set_option maxHeartbeats 4000000
namespace DL
open PySem PySem.Spec PyProof.Rows L2
variable [TabC]
/-! ### the steps of a reading -/
section
variable {ρ ρ' : Rho} {kx : KX} {k : KE} {kv : KV} {kt : Bool → Rho → Prop} {ka : List D → Rho → Prop} {km : List S → Rho → Prop} {kd : D → Prop}
variable {τ τa τb τc : TD} {τs : TDs} {τl τk τr : TDa} {τi : TDi} {ta tb : TDt} {t u : TDS} {τm : TDm} {γ : TGd} {γs : TGsd}
variable {n r0 b0 : Rho → Prop} {r : D → Rho → Prop} {b c : Rho → Prop} {g : G2} {x y : D} {i : Nat} {d : D} {ds : List D} {s : S} {m : FD} {A B : Prop}
theorem x_var (e : ρ[i]? = some (.val d)) (h : k d ρ) : dVar i ρ kx k := ⟨d, d, e, .same d, h⟩
theorem x_varP (e : ρ[i]? = some (.val (.ptp ds))) (h : k (.tup ds) ρ) : dVar i ρ kx k := ⟨.ptp ds, .tup ds, e, .tup ds, h⟩
theorem x_C (h : k d ρ) : dC d ρ kx k := h
theorem x_op (h : τa ρ kx fun x ρ1 => τb ρ1 kx fun y ρ2 => g x y fun d => k d ρ2) : dOp g τa τb ρ kx k := h
theorem x_un {g : D → (D → Prop) → Prop} (h : τ ρ kx fun d ρ' => g d fun d' => k d' ρ') : dUn g τ ρ kx k := h
theorem x_sub {i j : Int} (h : kd (.int (i - j))) : gSub (.int i) (.int j) kd := ⟨trivial, h⟩
theorem x_mul {i j : Int} (c : CMul i j) (h : kd (.int (i * j))) : gMul (.int i) (.int j) kd := ⟨c, h⟩
theorem x_mult {i j : Int} (c : CMul i j) (h : kd (.int (i * j))) : gMult (.int i) (.int j) kd := ⟨c, h⟩
theorem x_div {i j : Int} (c : CDivN i j) (h : kd (.int (i.fdiv j))) : gDiv (.int i) (.int j) kd := ⟨c, h⟩
theorem x_mod {i j : Int} (c : j ≠ 0) (h : kd (.int (i.fmod j))) : gMod (.int i) (.int j) kd := ⟨c, h⟩
theorem x_add {i j : Int} (h : kd (.int (i + j))) : gAdd (.int i) (.int j) kd := ⟨trivial, h⟩
theorem x_lt {i j : Int} (h : kd (.bl (decide (i < j)))) : gLt (.int i) (.int j) kd := ⟨trivial, h⟩
theorem x_ltI {i j : Int} (h : kd (.bl (decide (i < j)))) : gLtI (.int i) (.int j) kd := ⟨trivial, h⟩
theorem x_leI {i j : Int} (h : kd (.bl (decide (i ≤ j)))) : gLeI (.int i) (.int j) kd := ⟨trivial, h⟩
theorem x_gtI {i j : Int} (h : kd (.bl (decide (j < i)))) : gGtI (.int i) (.int j) kd := ⟨trivial, h⟩
theorem x_geI {i j : Int} (h : kd (.bl (decide (j ≤ i)))) : gGeI (.int i) (.int j) kd := ⟨trivial, h⟩
theorem x_is (h : kd (.bl (gIsN d))) : gIs d kd := h
theorem x_notis (h : kd (.bl (!gIsN d))) : gNotIs d kd := h
theorem x_neg {i : Int} (h : kd (.int (-i))) : gNeg (.int i) kd := h
theorem x_eqI {i j : Int} (h : kd (.bl (decide (i = j)))) : gEq (.int i) (.int j) kd := ⟨rfl, rfl, h⟩
theorem x_neI {i j : Int} (h : kd (.bl (!decide (i = j)))) : gNe (.int i) (.int j) kd := ⟨rfl, rfl, h⟩
theorem x_and (h : ta ρ kx fun c ρ' => if c = true then tb ρ' kx kt else kt false ρ') : dAnd ta tb ρ kx kt := h
theorem x_or (h : ta ρ kx fun c ρ' => if c = true then kt true ρ' else tb ρ' kx kt) : dOr ta tb ρ kx kt := h
theorem x_not (h : ta ρ kx fun c ρ' => kt (!c) ρ') : dNot ta ρ kx kt := h
theorem x_dif (h : ta ρ kx fun c ρ' => if c = true then τa ρ' kx k else τb ρ' kx k) : dIf ta τa τb ρ kx k := h
theorem x_iteD {p : Prop} [Decidable p] (h1 : p → A) (h2 : ¬p → B) : if decide p = true then A else B := by by_cases h : p <;> simp_all
theorem x_iteN {p : Prop} [Decidable p] (h1 : p → B) (h2 : ¬p → A) : if (!decide p) = true then A else B := by by_cases h : p <;> simp_all
theorem x_no {p : Prop} [Decidable p] (e : ¬p) (h : B) : if decide p = true then A else B := by rw [decide_eq_false e]; exact h
theorem x_yes {p : Prop} [Decidable p] (e : p) (h : A) : if decide p = true then A else B := by rw [decide_eq_true e]; exact h
theorem x_noN {p : Prop} [Decidable p] (e : p) (h : B) : if (!decide p) = true then A else B := by rw [decide_eq_true e]; exact h
theorem x_yesN {p : Prop} [Decidable p] (e : ¬p) (h : A) : if (!decide p) = true then A else B := by rw [decide_eq_false e]; exact h
theorem x_T (h : A) : if true = true then A else B := by simpa using h
theorem x_F (h : B) : if false = true then A else B := by simpa using h
theorem x_nT (h : B) : if (!true) = true then A else B := by simpa using h
theorem x_nF (h : A) : if (!false) = true then A else B := by simpa using h
theorem x_nil (h : ka [] ρ) : dNil ρ kx ka := h
theorem x_cons (h : τ ρ kx fun d ρ1 => τr ρ1 kx fun ds ρ2 => ka (d :: ds) ρ2) : dCons τ τr ρ kx ka := h
theorem x_dct (h : kv (.dct []) ρ) : vDct ρ kx kv := h
theorem x_val (h : τ ρ kx fun d ρ' => kv (.val d) ρ') : vVal τ ρ kx kv := h
theorem x_bc {g : GC} (h : τl ρ kx fun ds ρ' => g ds fun d => k d ρ') : dBC g τl ρ kx k := h
theorem x_min2 {i j : Int} (h : kd (.int (min i j))) : cMin2 [.int i, .int j] kd := h
theorem x_max2 {i j : Int} (h : kd (.int (max i j))) : cMax2 [.int i, .int j] kd := h
theorem x_next (h : n ρ) : sNext ρ kx ⟨n, r, b, c⟩ := h
theorem x_brk (h : b ρ) : sBrk ρ kx ⟨n, r, b, c⟩ := h
theorem x_cont (h : c ρ) : sCnt ρ kx ⟨n, r, b, c⟩ := h
theorem x_seq (h : t ρ kx ⟨fun ρ' => u ρ' kx ⟨n, r, b, c⟩, r, b, c⟩) : sSeq t u ρ kx ⟨n, r, b, c⟩ := h
theorem x_drop (h : τ ρ kx fun _ ρ' => n ρ') : sDrop τ ρ kx ⟨n, r, b, c⟩ := h
theorem x_ret (h : τ ρ kx r) : sRet τ ρ kx ⟨n, r, b, c⟩ := h
theorem x_retN (h : r .non ρ) : sRetN ρ kx ⟨n, r, b, c⟩ := h
theorem x_if (h : ta ρ kx fun b' ρ' => if b' = true then t ρ' kx ⟨n, r, b, c⟩ else u ρ' kx ⟨n, r, b, c⟩) : sIf ta t u ρ kx ⟨n, r, b, c⟩ := h
theorem x_asgT (h : τ ρ kx fun d ρ' => γ d ρ' n) : sAsgT γ τ ρ kx ⟨n, r, b, c⟩ := h
theorem x_gN (e : ρ.set i (.val d) = ρ') (h : n ρ') : gN i d ρ n := by unfold gN; rw [e]; exact h
theorem x_gsN (h : n ρ) : gsN [] ρ n := ⟨rfl, h⟩
theorem x_gsC (h : γ d ρ fun ρ1 => γs ds ρ1 n) : gsC γ γs (d :: ds) ρ n := h
theorem x_gT {m : Nat} (e : ds.length = m) (h : γs ds ρ n) : gT m γs (.tup ds) ρ n := ⟨e, h⟩
theorem x_mNil (h : km [] ρ) : mNil ρ kx km := h
theorem x_mCons (h : τs ρ kx fun s ρ1 => τm ρ1 kx fun ss ρ2 => km (s :: ss) ρ2) : mCons τs τm ρ kx km := h
theorem x_for (h : τi ρ kx fun ds ρ' => forD γ t ds ρ' kx ⟨n, r, b, c⟩) : sFor τi γ t ρ kx ⟨n, r, b, c⟩ := h
theorem x_draw {ns : List Int} {N : Int} {kx : XD → Prop} (h0 : 0 < N ∧ N < 100000) (h : ∀ v : Int, 0 ≤ v → v < N → kd (.int v)) : drawM [.scr ns, .town, .int N] kx kd := ⟨h0, h⟩
theorem x_for_rng (I : Nat → Rho → Prop) {lo : Int} {N : Nat} (h0 : I 0 ρ) (hn : ∀ ρ, I N ρ → n ρ) (hs : ∀ (i : Nat) ρ (P : Rho → Prop), i < N → I i ρ → (∀ ρ', I (i + 1) ρ' → P ρ') → γ (.int (lo + i)) ρ fun ρ1 => t ρ1 kx ⟨P, r, n, P⟩) : forD γ t (rng lo N) ρ kx ⟨n, r, b, c⟩ := by
  have key : ∀ (m j : Nat) (ρ : Rho), j + m = N → I j ρ → forD γ t ((List.range' j m).map fun i => D.int (lo + (i : Nat))) ρ kx ⟨n, r, b, c⟩ := by
    intro m
    induction m with
    | zero => intro j ρ e h; exact hn ρ (by rw [← e]; exact h)
    | succ m ih => intro j ρ e h; exact hs j ρ _ (by omega) h fun ρ' q => ih (j + 1) ρ' (by omega) q
  unfold rng
  rw [List.range_eq_range']
  exact key N 0 ρ (by omega) h0
def testK (kt : Bool → Rho → Prop) : KE := fun d ρ' => match d with | .bl b => kt b ρ' | _ => False
theorem x_dtestK (h : τ ρ kx (testK kt)) : dTest τ ρ kx kt := h
theorem x_testK {b : Bool} (h : kt b ρ) : testK kt (.bl b) ρ := h
def rg1K (ka : List D → Rho → Prop) : List D → Rho → Prop := fun ds ρ' => match ds with
  | [.int j] => (-1000000 ≤ j ∧ j ≤ 1000000) ∧ ka (rng 0 j.toNat) ρ'
  | _ => False
def rg2K (ka : List D → Rho → Prop) : List D → Rho → Prop := fun ds ρ' => match ds with
  | [.int i, .int j] => (-1000000 ≤ i ∧ i ≤ 1000000 ∧ -1000000 ≤ j ∧ j ≤ 1000000 ∧ j - i ≤ 1000000) ∧ ka (rng i (j - i).toNat) ρ'
  | _ => False
theorem x_rg1 (h : τl ρ kx (rg1K ka)) : iRg1 τl ρ kx ka := h
theorem x_rg2 (h : τl ρ kx (rg2K ka)) : iRg2 τl ρ kx ka := h
theorem x_rg1K {j : Int} (e : -1000000 ≤ j ∧ j ≤ 1000000) (h : ka (rng 0 j.toNat) ρ) : rg1K ka [.int j] ρ := ⟨e, h⟩
theorem x_rg2K {i j : Int} (e : -1000000 ≤ i ∧ i ≤ 1000000 ∧ -1000000 ≤ j ∧ j ≤ 1000000 ∧ j - i ≤ 1000000) (h : ka (rng i (j - i).toNat) ρ) : rg2K ka [.int i, .int j] ρ := ⟨e, h⟩
def andK (f : Rho → Prop) (k : KE) : KE := fun d ρ' => match d with | .bl c => (if c = true then f ρ' else k (.bl false) ρ') | _ => False
def orK (f : Rho → Prop) (k : KE) : KE := fun d ρ' => match d with | .bl c => (if c = true then k (.bl true) ρ' else f ρ') | _ => False
def notK (k : KE) : KE := fun d ρ' => match d with | .bl c => k (.bl (!c)) ρ' | _ => False
theorem x_andV (h : τa ρ kx (andK (fun ρ' => τb ρ' kx k) k)) : dAndV τa τb ρ kx k := h
theorem x_orV (h : τa ρ kx (orK (fun ρ' => τb ρ' kx k) k)) : dOrV τa τb ρ kx k := h
theorem x_notV (h : τa ρ kx (notK k)) : dNotV τa ρ kx k := h
theorem x_andK {c : Bool} {f : Rho → Prop} (h : if c = true then f ρ else k (.bl false) ρ) : andK f k (.bl c) ρ := h
theorem x_orK {c : Bool} {f : Rho → Prop} (h : if c = true then k (.bl true) ρ else f ρ) : orK f k (.bl c) ρ := h
theorem x_notK {c : Bool} (h : k (.bl (!c)) ρ) : notK k (.bl c) ρ := h
def lens (n : Nat) (ka : List D → Rho → Prop) : List D → Rho → Prop := fun ds ρ' => ds.length = n ∧ ka ds ρ'
theorem x_cntK {n : Nat} (h : τl ρ kx (lens n ka)) : DL.cnt n τl ρ kx ka := h
theorem x_lens (e : ds.length = i) (h : ka ds ρ) : lens i ka ds ρ := ⟨e, h⟩
def tupK (k : KE) : List D → Rho → Prop := fun ds ρ' => ds.length ≤ BIG ∧ ∃ d, Wk (.ptp ds) d ∧ k d ρ'
theorem x_tupK (h : τl ρ kx (tupK k)) : dTup τl ρ kx k := h
theorem x_tupD (e : ds.length ≤ BIG) (h : k (.tup ds) ρ) : tupK k ds ρ := ⟨e, _, .tup ds, h⟩
def lstK (k : KV) : List D → Rho → Prop := fun ds ρ' => ds.length ≤ BIG ∧ k (.own ds) ρ'
theorem x_lstK (h : τl ρ kx (lstK kv)) : vLst τl ρ kx kv := h
theorem x_lstD (e : ds.length ≤ BIG) (h : kv (.own ds) ρ) : lstK kv ds ρ := ⟨e, h⟩
def parK (is : List Nat) (n : Rho → Prop) : List S → Rho → Prop := fun ss ρ' => ss.length = is.length ∧ n (setS ρ' is ss)
theorem x_parK {is : List Nat} (h : τm ρ kx (parK is n)) : sPar is τm ρ kx ⟨n, r, b, c⟩ := h
theorem x_parD {is : List Nat} {ss : List S} (e1 : ss.length = is.length) (e : setS ρ is ss = ρ') (h : n ρ') : parK is n ss ρ := ⟨e1, e ▸ h⟩
def setK (i : Nat) (n : Rho → Prop) : KV := fun s ρ' => n (ρ'.set i s)
theorem x_asgK (h : τs ρ kx (setK i n)) : sAsg i τs ρ kx ⟨n, r, b, c⟩ := h
theorem x_setK (e : ρ.set i s = ρ') (h : n ρ') : setK i n s ρ := by unfold setK; rw [e]; exact h
def callK (m : FD) (idx : List Nat) (dds ds : List D) (kx : KX) (k : KE) : List D → Rho → Prop := fun ks ρ2 => m (pickD idx (ds ++ dds ++ ks)) (fun x => kx x ρ2) fun d => k d ρ2
theorem x_callK {idx : List Nat} {dds : List D} (h : τl ρ kx fun ds ρ1 => τk ρ1 kx (callK m idx dds ds kx k)) : dCall m idx dds τl τk ρ kx k := h
theorem x_callD {idx : List Nat} {dds ks as : List D} (e : pickD idx (ds ++ dds ++ ks) = as) (h : m as (fun x => kx x ρ) fun d => k d ρ) : callK m idx dds ds kx k ks ρ := by unfold callK; rw [e]; exact h
end
end DL
set_option maxHeartbeats 4000000
/-! DL12: sequences: index, slices, sums of sequences, calls. -/
namespace DL
open PySem PySem.Spec PyProof.Rows L2
variable [TabC]
section
variable {X : Cx} {a b e : Expr} {τ τa τb : TD} {pos : Pos} {τs : TDa}
theorem atI_dv {K : PySem.W.Frag} {mg : Str → Option Value} {W : Wd} {ds : List D} {vs : List V} {i : Int} {d : D} (h : DVs K mg W ds vs) (e : atI ds i = some d) : ∃ v, atI vs i = some v ∧ DV K mg W d v := by
  unfold atI at e ⊢
  rw [← dvs_len h]
  cases hj : ixN ds.length i with
  | none => rw [hj] at e; cases e
  | some j =>
    rw [hj] at e
    obtain ⟨v, h1, h2⟩ := dvs_get h e
    exact ⟨v, h1, h2⟩
theorem sok_sign {z : Str} (h : SOk z) {c : Nat} (m : c ∈ z.cps.toList) : SOk ⟨#[c]⟩ := by
  refine ⟨by show 1 ≤ sizeLine; rw [sizeLine_eq]; decide, ?_⟩
  have := h.2
  rw [Array.all_eq_true] at this
  have hc : c < 0x110000 := by
    obtain ⟨i, hi, e⟩ := List.mem_iff_getElem.mp m
    have q := this i (by simpa using hi)
    simp only [Array.getElem_toList] at e
    rw [e] at q
    simpa using q
  simp [hc]
def gIdx : G2 := fun x y k => match x, y with
  | .tup ds, .int i => ∃ d, atI ds i = some d ∧ k d
  | .lst ds, .int i => ∃ d, atI ds i = some d ∧ k d
  | .str z, .int i => ∃ c, atI z.cps.toList i = some c ∧ k (.str ⟨#[c]⟩)
  | _, _ => False
theorem od_ix : OpD X (rIx X.K) gIdx := by
  intro W F H σ ρ x y dx dy k Q R hx hy hg hQ
  cases dx <;> try exact hg.elim
  · rename_i z
    cases dy <;> try exact hg.elim
    rename_i i
    obtain ⟨c, e, hk⟩ := hg
    simp only [DV] at hx hy
    obtain ⟨rfl, ok⟩ := hx
    subst hy
    refine .inr (.inr ⟨z, i, c, rfl, rfl, ok.1, e, hQ _ _ H W hk (Wd.le.refl W) R ?_⟩)
    simp only [DV]
    refine ⟨trivial, sok_sign ok ?_⟩
    unfold atI at e
    cases hj : ixN z.cps.toList.length i with
    | none => rw [hj] at e; cases e
    | some j => rw [hj] at e; exact List.mem_of_getElem? e
  · rename_i ds
    cases dy <;> try exact hg.elim
    rename_i i
    obtain ⟨d, e, hk⟩ := hg
    simp only [DV] at hx hy
    obtain ⟨p, vs, rfl, g, l, dv⟩ := hx
    subst hy
    obtain ⟨v, e2, dv2⟩ := atI_dv dv e
    exact .inr (.inl ⟨p, vs, i, v, rfl, rfl, seqT_mono R.w.g g, e2, hQ _ _ H W hk (Wd.le.refl W) R dv2⟩)
  · rename_i ds
    cases dy <;> try exact hg.elim
    rename_i i
    obtain ⟨d, e, hk⟩ := hg
    simp only [DV] at hx hy
    obtain ⟨p, vs, rfl, g, l, dv⟩ := hx
    subst hy
    obtain ⟨v, e2, dv2⟩ := atI_dv dv e
    exact .inl ⟨p, vs, i, v, rfl, rfl, .inl (.inl (R.w.g _ _ g)), e2, hQ _ _ H W hk (Wd.le.refl W) R dv2⟩
theorem pd_ix (ha : PEd X a τa) (hb : PEd X b τb) (hs : PlainIx b := by exact fun _ _ => rfl) : PEd X (.Subscript a b pos) (dOp gIdx τa τb) := ⟨PE.imp (pe_ix ix_seq ha.p hb.p hs) (lE.op od_ix)⟩
/-! a + b -/
def gAddA : G2 := fun x y k => match x, y with
  | .int i, .int j => k (.int (i + j))
  | .str s, .str t => s.length + t.length ≤ BIG ∧ k (.str (s ++ t))
  | .tup ds, .tup es => ds.length + es.length ≤ BIG ∧ k (.tup (ds ++ es))
  | _, _ => False
def rAddA (K : PySem.W.Frag) : R2 := fun x y H Q => rI0 (fun i j => V.int (i + j)) x y H Q ∨ ((∃ i j, x = .str i ∧ y = .str j ∧ i.length + j.length ≤ sizeLine ∧ Q (.str (i ++ j)) H) ∨ rCatA K x y H Q)
theorem op_addA : OpR X (binaryOp .Add) (rAddA X.K) := OpR.or2 op_add (OpR.or2 op_add_str op_catA)
theorem sok_app {s t : Str} (h : SOk s) (k : SOk t) (l : s.length + t.length ≤ BIG) : SOk (s ++ t) := by
  have e : (s ++ t).cps = s.cps ++ t.cps := rfl
  refine ⟨?_, ?_⟩
  · show (s ++ t).cps.size ≤ sizeLine
    rw [e, Array.size_append]; exact big_le l
  · rw [e, Array.all_append, h.2, k.2]; rfl
theorem od_addA : OpD X (rAddA X.K) gAddA := by
  intro W F H σ ρ x y dx dy k Q R hx hy hg hQ
  cases dx <;> try exact hg.elim
  · rename_i i
    cases dy <;> try exact hg.elim
    rename_i j
    simp only [DV] at hx hy
    exact .inl ⟨i, j, hx, hy, hQ _ _ H W hg (Wd.le.refl W) R (by simp only [DV])⟩
  · rename_i s
    cases dy <;> try exact hg.elim
    rename_i t
    simp only [DV] at hx hy
    exact .inr (.inl ⟨s, t, hx.1, hy.1, big_le hg.1, hQ _ _ H W hg.2 (Wd.le.refl W) R (by simp only [DV]; exact ⟨trivial, sok_app hx.2 hy.2 hg.1⟩)⟩)
  · rename_i ds
    cases dy <;> try exact hg.elim
    rename_i es
    have hx' := hx
    have hy' := hy
    simp only [DV] at hx hy
    obtain ⟨p, vs, rfl, g, l, dv⟩ := hx
    obtain ⟨q, ws, rfl, g2, l2, dv2⟩ := hy
    refine .inr (.inr ⟨p, q, vs, ws, rfl, rfl, seqT_mono R.w.g g, seqT_mono R.w.g g2, by rw [← dvs_len dv, ← dvs_len dv2]; exact big_le hg.1, fun z => ?_, fun _ z => ?_, fun _ _ a ha => ?_⟩)
    · subst z
      cases ds with
      | nil => exact hQ _ _ H W hg.2 (Wd.le.refl W) R hy'
      | cons d ds => have := dvs_len dv; cases this
    · subst z
      cases es with
      | nil => refine hQ _ _ H W hg.2 (Wd.le.refl W) R ?_; rw [List.append_nil]; exact hx'
      | cons d ds => have := dvs_len dv2; cases this
    · obtain ⟨R2, le2, d2⟩ := newTup R (ds := ds ++ es) (vs := vs ++ ws) (by rw [List.length_append]; exact hg.1) (dvs_app dv dv2) ha
      exact hQ _ _ _ _ hg.2 le2 R2 d2
theorem pd_addA (ha : PEd X a τa) (hb : PEd X b τb) : PEd X (.BinOp a .Add b pos) (dOp gAddA τa τb) := pd_op op_addA od_addA ha hb
def vCat (τa τb : TD) : TDs := fun ρ kx k => τa ρ kx fun x ρ1 => τb ρ1 kx fun y ρ2 => match x, y with
  | .lst ds, .lst es => ds.length + es.length ≤ BIG ∧ k (.own (ds ++ es)) ρ2
  | _, _ => False
theorem vd_cat (ha : PEd X a τa) (hb : PEd X b τb) : PEv X (.BinOp a .Add b pos) (vCat τa τb) :=
  ⟨PE.imp (pe_op op_cat ha.p hb.p) fun σ H Q ⟨W, F, ρ, kx, k, tk, R, h, hQ⟩ => ⟨W, F, ρ, kx, _, tk, R, h, fun dx ρ1 v1 H1 W1 h1 le1 R1 d1 =>
    ⟨W1, F, ρ1, kx, _, tk.mono le1, R1, h1, fun dy ρ2 v2 H2 W2 h2 le2 R2 d2 => by
      cases dx <;> try exact h2.elim
      rename_i ds
      cases dy <;> try exact h2.elim
      rename_i es
      have d1' := d1.mono le2
      simp only [DV] at d1' d2
      obtain ⟨p, vs, rfl, g, l, dv⟩ := d1'
      obtain ⟨q, ws, rfl, g2, l2, dv2⟩ := d2
      refine ⟨p, q, vs, ws, rfl, rfl, R2.w.g _ _ g, R2.w.g _ _ g2, by rw [← dvs_len dv, ← dvs_len dv2]; exact big_le h2.1, fun a ha => ?_⟩
      obtain ⟨R3, s3, no⟩ := newLst R2 (ds := ds ++ es) (vs := vs ++ ws) (by rw [List.length_append]; exact h2.1) (dvs_app dv dv2) ha
      exact hQ (.own (ds ++ es)) ρ2 _ _ W2 h2.2 (le1.trans le2) R3 s3 (fun a i _ ea => by cases ea; exact no i) (by intro z; cases z)⟩⟩⟩
def vRep (τa τb : TD) : TDs := fun ρ kx k => τa ρ kx fun x ρ1 => τb ρ1 kx fun y ρ2 => match x, y with
  | .lst ds, .int n => -1000000 ≤ n ∧ n ≤ 1000000 ∧ ds.length * n.toNat ≤ BIG ∧ k (.own (List.replicate n.toNat ds).flatten) ρ2
  | _, _ => False
/-! ### slices -/
abbrev TDo := Rho → KX → (Option Int → Rho → Prop) → Prop
def oNo : TDo := fun ρ _ k => k none ρ
def oInt (τ : TD) : TDo := fun ρ kx k => τ ρ kx fun d ρ' => match d with | .int i => k (some i) ρ' | _ => False
theorem PO.imp {e : Option Expr} {t u : TO} (h : PO X e t) (f : ∀ σ H Q, u σ H Q → t σ H Q) : PO X e u := ⟨fun pins s σ H Q I q => h.run pins s σ H Q I (f _ _ _ q)⟩
def cutD (xs : List D) (lo hi : Option Int) : List D := (xs.drop (HT.sIx xs.length 0 lo)).take (HT.sIx xs.length xs.length hi - HT.sIx xs.length 0 lo)
def dSlT (τ : TD) (tl th : TDo) : TD := fun ρ kx k => τ ρ kx fun d ρ1 => tl ρ1 kx fun lo ρ2 => th ρ2 kx fun hi ρ3 => match d with
  | .tup ds => ds.length ≤ BIG ∧ k (.tup (cutD ds lo hi)) ρ3
  | .str z => k (.str (cutS z lo hi)) ρ3
  | _ => False
/-! ### calls that make a list -/
abbrev GV := List D → (S → Prop) → Prop
def CallV (X : Cx) (r : List V → Hp → VK → Prop) (g : GV) : Prop := ∀ (W : Wd) (F H : Hp) (σ : L2.St) (ρ : Rho) (vs : List V) (ds : List D) (k : S → Prop) (Q : VK), Rep X.K X.mg W F H σ ρ → DVs X.K X.mg W ds vs → g ds k →
  (∀ ys p ws H', k (.own ys) → H p = none → H' = upd H p (.lst ws) → DVs X.K X.mg W ys ws → ys.length ≤ BIG → Q (.ref p) H') → r vs H Q
def vBC (g : GV) (τs : TDa) : TDs := fun ρ kx k => τs ρ kx fun ds ρ' => g ds fun s => k s ρ'
theorem lV.bc {r : List V → Hp → VK → Prop} {g : GV} (cd : CallV X r g) : ∀ σ H Q, lV X (vBC g τs) σ H Q → tCB r (lA X τs) σ H Q := by
  rintro σ H Q ⟨W, F, ρ, kx, k, tk, R, h, hQ⟩
  refine ⟨W, F, ρ, kx, _, tk, R, h, fun ds ρ1 vs H1 W1 h1 le1 R1 d1 => ?_⟩
  refine cd W1 F H1 σ ρ1 vs ds _ Q R1 d1 h1 fun ys p ws H' hk hp e dv l => ?_
  subst e
  obtain ⟨R2, s2, no⟩ := newLst R1 l dv hp
  exact hQ (.own ys) ρ1 _ _ W1 hk le1 R2 s2 (fun a i _ ea => by cases ea; exact no i) (by intro z; cases z)
variable {x : Str} {p : Pos} {es : List Expr} {id : String} {T : String} {r : List V → Hp → VK → Prop} {g : GV}
theorem vd_bc (hc : CallR X (.builtin id) r) (cd : CallV X r g) (hg : Gl X x) (hm : X.mg x = none) (hv : bootBuiltins x = some (.builtin id)) (ha : PAd X (e :: es) τs) (hn : x ≠ "__name__" := by decide) (hdb : (x == ("__debug__" : Str)) = false := by decide)
    (he : starEach (e :: es) X.env = (false, eval e X.env) :: starEach es X.env := by rfl) (hpl : (backTo pos (starEach es X.env)).any (·.1) = false := by rfl) : PEv X (.Call (.Name x p) (e :: es) [] pos) (vBC g τs) :=
  ⟨PE.imp (pe_callB hc hg hm hv ha.p hn hdb he hpl) (lV.bc cd)⟩
def cTuple : GC := fun ds k => match ds with
  | [.lst xs] => xs.length ≤ BIG ∧ ∃ d, Wk (.ptp xs) d ∧ k d
  | [.tup xs] => k (.tup xs)
  | _ => False
theorem call_tuple_ofF : CallR X (.type "tuple") (fun xs H Q => ∃ p ys, xs = [.ref p] ∧ ((SqL X.K H p ys ∧ ∀ l o, plainT o → H l = none → Q (.ref l) (upd H l (.frz o (.tup ys)))) ∨ (SqT X.K H p ys ∧ Q (.ref p) H))) := by
  intro pins s σ H xs us Q I r h
  obtain ⟨p, ys, rfl, h⟩ := h
  obtain ⟨u, rfl, rx⟩ := vals1 r
  cases rx
  rcases h with ⟨hq, q⟩ | ⟨hq, q⟩
  · obtain ⟨its, r', pl, hz⟩ := I.list hq
    have hlen := r'.length
    refine call_tuple_list pl.isList (fun h' kp => ?_) (by simp only [List.size_toArray] <;> omega)
    have I1 : Inv X pins σ H { s with heap := h' } := I.kept (t' := s.toks) kp
    have e := Heap.get?_push_size h' (o := { cls := .type "tuple", data := .seq its.toArray }) rfl
    have I2 : Inv X pins σ (upd H h'.objs.size (.frz { cls := .type "tuple", data := .seq its.toArray } (.tup ys))) { s with heap := h'.push { cls := .type "tuple", data := .seq its.toArray } } :=
      I1.laid (t' := s.toks) (fun b o e => Heap.get?_push_of_some _ e) (Nat.le_refl _) (show ObjOk X.prog X.w _ _ _ (.frz _ (.tup ys)) from ⟨e, hz, its, r', IsTup.new _ _⟩)
    exact ⟨.ref h'.objs.size, _, I2, rfl, q _ _ ⟨rfl, rfl⟩ (I1.hok.fresh (Nat.le_refl _))⟩
  · obtain ⟨its, r', pl, hz⟩ := I.tuple hq
    exact call_tuple_same pl ⟨.ref p, H, I, rfl, q⟩
theorem cd_tuple : CallD X (fun xs H Q => ∃ p ys, xs = [.ref p] ∧ ((SqL X.K H p ys ∧ ∀ l o, plainT o → H l = none → Q (.ref l) (upd H l (.frz o (.tup ys)))) ∨ (SqT X.K H p ys ∧ Q (.ref p) H))) cTuple := by
  intro W F H σ ρ vs ds k Q R dv hg hQ
  match ds, hg, dv with
  | [.lst xs], hg, dv =>
    obtain ⟨v, e, r⟩ := dvs1 dv
    simp only [DV] at r
    obtain ⟨a, us, ea, s, l, r⟩ := r
    subst ea
    obtain ⟨hg, d', wk, hk⟩ := hg
    refine ⟨a, us, e, .inl ⟨.inl (.inl (R.w.g _ _ s)), fun p o ho hp => ?_⟩⟩
    obtain ⟨R2, le2, d2⟩ := newTupF R hg r ho hp
    exact hQ _ _ _ _ hk le2 R2 (DV.wk wk d2)
  | [.tup xs], hg, dv =>
    obtain ⟨v, e, r⟩ := dvs1 dv
    have r' := r
    simp only [DV] at r
    obtain ⟨a, us, ea, s, l, r⟩ := r
    subst ea
    exact ⟨a, us, e, .inr ⟨seqT_mono R.w.g s, hQ _ _ _ W hg (Wd.le.refl W) R r'⟩⟩
end
end DL
set_option maxHeartbeats 4000000
/-! DL13: sum, sorted, min, max and the like over lists and tuples. -/
namespace DL
open PySem PySem.Spec PyProof.Rows L2 SrtO
variable [TabC]
section
variable {prog : Program} {w : World} {A : Around} {E : Value → Shared → Prop} {s : Shared}
theorem collectT {l : Addr} {vs : List Value} {Q : List Value → Shared → Prop} (hl : IsTup s.heap l vs.toArray) (hsz : vs.length ≤ sizeLine)
    (h : Q vs { s with heap := (s.heap.push (seqObj "list" #[] 0)).update s.heap.objs.size (Obj.mapSeq (· ++ vs.toArray)) }) :
    wpAny (model prog w) A (collect (.ref l)) Q E s := by
  obtain ⟨o, ho, hc, n, hd⟩ := id hl; unfold collect
  refine wpAny_bind (wpAny_runValue (codeAny_builtin entry_proto_collect' ?_)); show wpAny _ _ (do again (.builtin "list.__iadd__" ⟨[← newList [], .ref l], []⟩)) _ _ s
  refine wpAny_bind (wpAny_newList (wpAny_pure ⟨Code.quiet_builtin _ (by decide +kernel), codeAny_builtin entry_list_iadd' ?_⟩)); show wpAny _ _ (Builtin.List.listExtendWith (.ref s.heap.objs.size) (.ref l) (.ref s.heap.objs.size)) _ _ { s with heap := s.heap.push (seqObj "list" #[] 0) }
  unfold Builtin.List.listExtendWith; have ho' : (s.heap.push (seqObj "list" #[] 0)).get? l = some o := Heap.get?_push_of_some _ ho
  refine wpAny_bind (wpAny_typeOf (T := "tuple") ⟨o, ho', hc⟩ ?_); have ht : (Value.type "tuple" == Value.type "tuple") = true := by rfl
  rw [if_pos (by rw [ht]; simp)]; refine wpAny_bind (listItems_at ho' hd ?_); refine wpAny_bind (listItems_at (xs := #[]) (n := 0) (Heap.get?_push_size _ rfl) rfl ?_)
  rw [if_neg (by simp)]; refine wpAny_bind (listUpdate_at (xs := #[]) (n := 0) (Heap.get?_push_size _ rfl) rfl ?_ (Nat.zero_le _) (by show (#[] ++ vs.toArray).size ≤ sizeLine + 1; simp only [Array.size_append, List.size_toArray, List.length_nil]; omega))
  refine wpAny_pure ?_; show wpAny (model prog w) A (do
      let ob ← load s.heap.objs.size
      match ob.data with
      | .seq ys _ => pure ys.toList
      | _ => unsupported "internal:collect") Q E { s with heap := (s.heap.push (seqObj "list" #[] 0)).update s.heap.objs.size (Obj.mapSeq (· ++ vs.toArray)) }
  refine wpAny_bind (wpAny_load (get?_update_seq (Heap.get?_push_size _ rfl) _) ?_); show wpAny _ _ (pure ((#[] : Array Value) ++ vs.toArray).toList) Q E _
  rw [show ((#[] : Array Value) ++ vs.toArray).toList = vs by simp]; exact wpAny_pure h
theorem sorted_ordT {l : Addr} {vs : List Value} {ltv : Value → Value → Bool} {Q : Value → Shared → Prop} (O : Swo ltv) (hl : IsTup s.heap l vs.toArray) (hz : vs.length ≤ sizeLine)
    (hS : 2 ≤ vs.length → ∀ (h₁ : Heap) (a : Addr), h₁.get? a = some (seqObj "list" vs.toArray 0) → (∀ b o, s.heap.get? b = some o → b ≠ a ∧ h₁.get? b = some o) → SortableO prog w A.in1.in1 { s with heap := h₁ } a vs ltv)
    (h : ∀ out : List Value, Srtd ltv out → Stb ltv out vs → Q (.ref (s.heap.objs.size + 1)) { s with heap := sortedAll s.heap vs out.toArray }) : wpAny (model prog w) A (call (.builtin "sorted") [.ref l]) Q E s := by
  refine Calls.call_function_entry kind_sorted plain_sorted entry_sorted (args_sorted1 _) ?_; unfold Builtin.«sorted»
  refine wpAny_bind (m := checkCount "sorted" 1 1 _) (wpAny_pure ?_); refine wpAny_bind (collectT hl hz ?_); refine wpAny_bind (wpAny_newList ?_ hz)
  have e1 : ((s.heap.push (seqObj "list" #[] 0)).update s.heap.objs.size (Obj.mapSeq (· ++ vs.toArray))).objs.size = s.heap.objs.size + 1 := by rw [Heap.size_update, size_push']
  have e2 : (((s.heap.push (seqObj "list" #[] 0)).update s.heap.objs.size (Obj.mapSeq (· ++ vs.toArray))).push (seqObj "list" vs.toArray 0)).get? (s.heap.objs.size + 1) = some (seqObj "list" vs.toArray 0) := by rw [← e1]; exact Heap.get?_push_size _ rfl
  have kp : ∀ b o, s.heap.get? b = some o → b ≠ s.heap.objs.size + 1 ∧ (((s.heap.push (seqObj "list" #[] 0)).update s.heap.objs.size (Obj.mapSeq (· ++ vs.toArray))).push (seqObj "list" vs.toArray 0)).get? b = some o := fun b o q => by
    have z : b < s.heap.objs.size := Heap.lt_size q
    refine ⟨Nat.ne_of_lt (Nat.lt_succ_of_lt z), Heap.get?_push_of_some _ ?_⟩; rw [Heap.get?_update_ne _ _ _ _ (Nat.ne_of_lt z)]; exact Heap.get?_push_of_some _ q
  show wpAny _ _ _ _ _ { s with heap := ((s.heap.push (seqObj "list" #[] 0)).update s.heap.objs.size (Obj.mapSeq (· ++ vs.toArray))).push (seqObj "list" vs.toArray 0) }; rw [e1]
  refine wpAny_bind (wpAny_holding (wpAny_call_entry slot_list_sort ⟨_, e2, rfl⟩ entry_list_sort (list_sort_ord O e2 hz (fun h2 => hS h2 _ _ e2 kp) fun out hs hb => ⟨_, rfl, ?_⟩) (args_list_sort _))); exact wpAny_pure ⟨_, rfl, h out hs hb⟩
end
section
variable {X : Cx}
def rSumT (K : PySem.W.Frag) : List V → Hp → VK → Prop := fun vs H Q => ∃ (a : Addr) (ns : List Int), vs = [V.ref a] ∧ SqT K H a (ns.map V.int) ∧ Q (.int ns.sum) H
theorem cr_sumT (hc : X.calm = true) : CallR X (.builtin "sum") (rSumT X.K) := by
  intro pins s σ H vs us Q I r h
  obtain ⟨a, ns, rfl, hs, q⟩ := h
  obtain ⟨its, rv, hl, _⟩ := I.tuple hs
  rw [Vals.ref1 r]
  have hi : IntsAre its ns := rv.ints
  obtain ⟨xs, e⟩ := hi.allInts.items
  have hn : numsOf (intItems xs).toList = ns := by rw [← e]; exact hi.numsOf
  rw [nums_intItems] at hn
  rw [e] at hl
  have hlT : s.heap.IsTuple a (intItems xs) := hl
  refine PySem.W.ktm_sumG (I.ok.hd hc) hlT fun h' tk t' hk => ?_
  rw [preSum_eq, List.take_of_length_le (by simp), hn]
  exact ⟨.int _, H, I.kept hk, ⟨_, rfl⟩, q⟩
def rSumA (K : PySem.W.Frag) : List V → Hp → VK → Prop := fun vs H Q => rSum K vs H Q ∨ rSumT K vs H Q
theorem CallR.or2 {f : Value} {r r' : List V → Hp → VK → Prop} (h : CallR X f r) (h' : CallR X f r') : CallR X f (fun xs H Q => r xs H Q ∨ r' xs H Q) := by
  intro pins s σ H vs us Q I rr q
  rcases q with q | q
  · exact h pins s σ H vs us Q I rr q
  · exact h' pins s σ H vs us Q I rr q
theorem cr_sumA (hc : X.calm = true) : CallR X (.builtin "sum") (rSumA X.K) := CallR.or2 (cr_sum hc) (cr_sumT hc)
def cSum : GC := fun ds k => match ds with
  | [.lst xs] => ∃ ns : List Int, xs = ns.map D.int ∧ k (.int ns.sum)
  | [.tup xs] => ∃ ns : List Int, xs = ns.map D.int ∧ k (.int ns.sum)
  | _ => False
theorem cd_sum : CallD X (rSumA X.K) cSum := by
  intro W F H σ ρ vs ds k Q R dv hg hQ
  match ds, hg, dv with
  | [.lst xs], ⟨ns, ex, hk⟩, dv =>
    subst ex
    obtain ⟨v, e, r⟩ := dvs1 dv
    simp only [DV] at r
    obtain ⟨a, us, ea, s, l, r⟩ := r
    subst ea
    rw [dvs_ints r] at s
    exact .inl ⟨a, ns, e, .inl (.inl (R.w.g _ _ s)), hQ _ _ _ W hk (Wd.le.refl W) R (by simp only [DV])⟩
  | [.tup xs], ⟨ns, ex, hk⟩, dv =>
    subst ex
    obtain ⟨v, e, r⟩ := dvs1 dv
    simp only [DV] at r
    obtain ⟨a, us, ea, s, l, r⟩ := r
    subst ea
    rw [dvs_ints r] at s
    exact .inr ⟨a, ns, e, seqT_mono R.w.g s, hQ _ _ _ W hk (Wd.le.refl W) R (by simp only [DV])⟩
def rSortedIT (K : PySem.W.Frag) : List V → Hp → VK → Prop := fun vs H Q => ∃ (a : Addr) (ns : List Int), vs = [V.ref a] ∧ SqT K H a (ns.map V.int) ∧
  ∀ (ms : List Int) (p : Addr), ms.Perm ns → ms.Pairwise (· ≤ ·) → H p = none → Q (.ref p) (upd H p (.lst (ms.map V.int)))
theorem cr_sortedIT : CallR X (.builtin "sorted") (rSortedIT X.K) := by
  intro pins s σ H vs us Q I r h
  obtain ⟨a, ns, rfl, hs, q⟩ := h
  obtain ⟨its, rv, hl, hz⟩ := I.tuple hs
  rw [Vals.ref1 r]
  have hi : IntsAre its ns := rv.ints
  refine sorted_ordT SrtO.swo_int hl (by rw [← rv.length]; exact hz) (fun h2 h₁ a' _ _ => SrtO.ints_sortable hi h2) fun out h1 h2 => ?_
  obtain ⟨k1, k2, k3⟩ := SrtO.ints_out hi h1 h2
  obtain ⟨ep, he'⟩ := PyProof.Rows.sortedAll_at s.heap its out.toArray
  have hl2 : ((out.map SrtO.iv).map V.int).length ≤ sizeLine := by rw [List.length_map, k2.length_eq]; rw [List.length_map] at hz; exact hz
  exact ⟨.ref _, upd H (s.heap.objs.size + 1) (.lst ((out.map SrtO.iv).map V.int)), I.laid (t' := s.toks) (fun _ _ => PyProof.Rows.sortedAll_old) (Nat.le_succ _) ⟨hl2, out, ep, vals_of_ints k1, he'⟩, rfl, q _ _ k2 k3 (I.hok.fresh (Nat.le_succ _))⟩
def rSortedA (K : PySem.W.Frag) : List V → Hp → VK → Prop := fun vs H Q => rSortedI K vs H Q ∨ rSortedIT K vs H Q
theorem cr_sortedA : CallR X (.builtin "sorted") (rSortedA X.K) := CallR.or2 cr_sortedI cr_sortedIT
def cSortedI : GV := fun ds k => match ds with
  | [.lst xs] => ∃ ns : List Int, xs = ns.map D.int ∧ ns.length ≤ BIG ∧ ∀ ms : List Int, ms.Perm ns → ms.Pairwise (· ≤ ·) → k (.own (ms.map D.int))
  | [.tup xs] => ∃ ns : List Int, xs = ns.map D.int ∧ ns.length ≤ BIG ∧ ∀ ms : List Int, ms.Perm ns → ms.Pairwise (· ≤ ·) → k (.own (ms.map D.int))
  | _ => False
theorem cv_sortedI : CallV X (rSortedA X.K) cSortedI := by
  intro W F H σ ρ vs ds k Q R dv hg hQ
  match ds, hg, dv with
  | [.lst xs], ⟨ns, ex, hb, hk⟩, dv =>
    subst ex
    obtain ⟨v, e, r⟩ := dvs1 dv
    simp only [DV] at r
    obtain ⟨a, us, ea, s, l, r⟩ := r
    subst ea
    rw [dvs_ints r] at s
    exact .inl ⟨a, ns, e, .inl (.inl (R.w.g _ _ s)), fun ms p h1 h2 hp => hQ _ p _ _ (hk ms h1 h2) hp rfl (dvs_ofInts ms) (by rw [List.length_map, h1.length_eq]; exact hb)⟩
  | [.tup xs], ⟨ns, ex, hb, hk⟩, dv =>
    subst ex
    obtain ⟨v, e, r⟩ := dvs1 dv
    simp only [DV] at r
    obtain ⟨a, us, ea, s, l, r⟩ := r
    subst ea
    rw [dvs_ints r] at s
    exact .inr ⟨a, ns, e, seqT_mono R.w.g s, fun ms p h1 h2 hp => hQ _ p _ _ (hk ms h1 h2) hp rfl (dvs_ofInts ms) (by rw [List.length_map, h1.length_eq]; exact hb)⟩
end
end DL
set_option maxHeartbeats 4000000
/-! DL14: what a slot owns is changed in place. -/
namespace DL
open PySem PySem.Spec PyProof.Rows L2
variable [TabC]
section
variable {K : PySem.W.Frag} {mg : Str → Option Value} {W : Wd} {F H : Hp} {σ : L2.St} {ρ : Rho}
theorem holdS.isOwn {s : S} {a : Addr} (h : holdS K mg W H a s) : s.isOwn = true := h.own
theorem Rep.mutS (R : Rep K mg W F H σ ρ) {i : Nat} {a : Addr} {s s' : S} {o : HO} (hs : ρ[i]? = some s) (ow : s.isOwn = true) (hv : σ[i]? = some (some (.ref a))) (h : holdS K mg W (upd H a o) a s') :
    Rep K mg W F (upd H a o) σ (ρ.set i s') := by
  have oi : OwnsAt σ ρ i a := ⟨s, hs, ow, hv⟩
  obtain ⟨_, _, _, _, _, fr⟩ := R.owned oi
  have ne : ∀ {b : Addr}, W.G b ≠ none → b ≠ a := fun q z => q (z ▸ fr.1)
  have neF : ∀ {b : Addr}, F b ≠ none → b ≠ a := fun q z => q (z ▸ fr.2.1)
  have hi : i < ρ.length := (List.getElem?_eq_some_iff.mp hs).1
  have back : ∀ {j : Nat} {b : Addr}, OwnsAt σ (ρ.set i s') j b → OwnsAt σ ρ j b := fun {j b} ⟨t, t1, t2, t3⟩ => by
    by_cases e : i = j
    · subst e
      exact ⟨s, hs, ow, t3⟩
    · rw [List.getElem?_set_ne e] at t1
      exact ⟨t, t1, t2, t3⟩
  refine ⟨⟨fun b u e => ?_, fun b u e => ?_, R.w.gf, fun q hq => ?_⟩, by rw [List.length_set]; exact R.len, fun j t hj => ?_, fun j k b hjk h1 h2 => R.sep j k b hjk (back h1) (back h2)⟩
  · rw [upd_ne (ne (by rw [e]; exact fun z => by cases z))]; exact R.w.g b u e
  · rw [upd_ne (neF (by rw [e]; exact fun z => by cases z))]; exact R.w.f b u e
  · obtain ⟨t, g1, g2, f1, f2⟩ := R.w.t q hq
    obtain ⟨n1, n2⟩ := fr.2.2 q hq
    exact ⟨t.keep (upd_ne n1) (upd_ne n2), g1, g2, f1, f2⟩
  · by_cases e : i = j
    · subst e
      rw [List.getElem?_set_self hi] at hj
      cases hj
      exact .inr ⟨_, hv, SV.toOwn h fr⟩
    · rw [List.getElem?_set_ne e] at hj
      rcases R.sl j t hj with z | ⟨v, e1, r⟩
      · exact .inl z
      · refine .inr ⟨v, e1, r.mono (Wd.le.refl W) fun b eb ob => ?_⟩
        have oj : OwnsAt σ ρ j b := ⟨t, hj, ob, by rw [e1, eb]⟩
        obtain ⟨_, _, _, _, _, fr2⟩ := R.owned oj
        exact ⟨upd_ne fun z => R.sep i j a e oi (z ▸ oj), fr2⟩
end
section
variable {X : Cx} {e : Expr} {es : List Expr} {τ τa τb : TD} {pos : Pos} {τs : TDa} {apos cpos p : Pos} {x : Str} {i : Nat}
abbrev GM := List D → List D → (List D → D → Prop) → Prop
def MtD (X : Cx) (r : V → List V → Hp → VK → Prop) (g : GM) : Prop := ∀ (W : Wd) (H : Hp) (a : Addr) (ds as : List D) (ws vs : List V) (k : List D → D → Prop) (Q : VK), Same W.G H → H a = some (.lst ws) → ws.length ≤ sizeLine → DVs X.K X.mg W ds ws → DVs X.K X.mg W as vs → g ds as k →
  (∀ es d ws' v, k es d → ws'.length ≤ sizeLine → DVs X.K X.mg W es ws' → DV X.K X.mg W d v → Q v (upd H a (.lst ws'))) → r (.ref a) vs H Q
def dMt (g : GM) (i : Nat) (τs : TDa) : TD := fun ρ kx k => (∃ ds, ρ[i]? = some (.own ds)) ∧ τs ρ kx fun as ρ1 => ∃ ds, ρ1[i]? = some (.own ds) ∧ g ds as fun es d => k d (ρ1.set i (.own es))
theorem lE.mt {x : Str} {r : V → List V → Hp → VK → Prop} {g : GM} (cd : MtD X r g) : ∀ σ H Q, lE X (dMt g i τs) σ H Q → tBM X.K "list" r (tVar i) (lA X τs) σ H Q := by
  rintro σ H Q ⟨W, F, ρ, kx, k, tk, R, ⟨⟨ds0, hi⟩, h⟩, hQ⟩
  obtain ⟨v, hv, sv⟩ := R.slot hi (by intro z; cases z)
  obtain ⟨a, ev, ⟨vs0, ha, hz, dv⟩, fr⟩ := sv
  subst ev
  refine ⟨.ref a, hv, .inl ⟨rfl, vs0, .inl (.inl ha)⟩, W, F, ρ, kx, _, tk, R, h, fun as ρ1 vs H1 W1 h1 le1 R1 d1 => ?_⟩
  obtain ⟨ds, hj, hg⟩ := h1
  obtain ⟨v1, hv1, sv1⟩ := R1.slot hj (by intro z; cases z)
  rw [hv] at hv1
  cases hv1
  obtain ⟨b, eb, ⟨ws, hb, hz1, dw⟩, fr1⟩ := sv1
  cases eb
  exact cd W1 H1 a ds as ws vs _ Q R1.w.g hb hz1 dw d1 hg fun es d ws' v' hk hl dv' dd =>
    hQ d _ v' _ W1 hk le1 (R1.mutS hj rfl hv ⟨ws', upd_same, hl, dv'⟩) dd
theorem pd_mt {name : Str} {id : String} {r : V → List V → Hp → VK → Prop} {g : GM} (i : Nat) (slot : Slot "list" name id) (hty : typeOf (.builtin id) = pure (.type "method_descriptor")) (hm : MtR X id r) (cd : MtD X r g) (ha : PAd X (e :: es) τs)
    (hN : X.N[i]? = some x := by rfl) (hv : Vis X.env.scope x := by first | exact Or.inl rfl | exact Or.inr (Or.inl rfl) | exact Or.inr (Or.inr rfl))
    (hd : (x == ("__debug__" : Str)) = false := by decide) (hcd : (x == ("__classdict__" : Str)) = false := by decide)
    (hbase : attributeBase (.Name x p) name X.env (eval (.Name x p) X.env) = eval (.Name x p) X.env := by rfl)
    (hfew : ((backTo cpos (starEach (e :: es) X.env)).all (fun x => !x.1) && (backToKw cpos (keywordEach [] X.env)).all (fun x => x.1.isSome) && decide ((e :: es).length + ([] : List Keyword).length + (if ([] : List Keyword).isEmpty then 0 else 1) < 30)) = true := by rfl)
    (hline : (apos.endLine == cpos.line) = true := by rfl) (hs : starEach (e :: es) X.env = (false, eval e X.env) :: starEach es X.env := by rfl) (hplain : (backTo cpos (starEach es X.env)).any (·.1) = false := by rfl) :
    PEd X (.Call (.Attribute (.Name x p) name apos) (e :: es) [] cpos) (dMt g i τs) :=
  ⟨PE.imp (pe_bm PySem.F.plainAttrs_list slot hty hm (pe_var hN hv hd hcd) ha.p hbase hfew hline hs hplain) (lE.mt (x := x) cd)⟩
def mAppend : GM := fun ds as k => match as with
  | [d] => ds.length < BIG ∧ k (ds ++ [d]) .non
  | _ => False
theorem md_append : MtD X rAppend mAppend := by
  intro W H a ds as ws vs k Q _ ha hz dw dv hg hQ
  match as, hg, dv with
  | [d], ⟨hb, hk⟩, dv =>
    obtain ⟨v, ev, dd⟩ := dvs1 dv
    have l : ws.length < BIG := by rw [← dvs_len dw]; exact hb
    exact ⟨a, ws, v, rfl, ev, ha, big_lt l, hQ _ _ _ _ hk (by rw [List.length_append]; exact big_le l) (dvs_app dw (dvs_cons dd dvs_nil)) (by simp only [DV])⟩
def mExtend : GM := fun ds as k => match as with
  | [.lst es] => ds.length + es.length ≤ BIG ∧ k (ds ++ es) .non
  | _ => False
theorem md_extend : MtD X rExtend mExtend := by
  intro W H a ds as ws vs k Q sg ha hz dw dv hg hQ
  match as, hg, dv with
  | [.lst es], ⟨hb, hk⟩, dv =>
    obtain ⟨v, ev, dd⟩ := dvs1 dv
    simp only [DV] at dd
    obtain ⟨b, zs, rfl, g, l, dz⟩ := dd
    have hl : ws.length + zs.length ≤ BIG := by rw [← dvs_len dw, ← dvs_len dz]; exact hb
    exact ⟨a, b, ws, zs, rfl, ev, ha, sg _ _ g, big_le hl, hQ _ _ _ _ hk (by rw [List.length_append]; exact big_le hl) (dvs_app dw dz) (by simp only [DV])⟩
/-! ### a look at what is owned -/
def dLenO (i : Nat) : TD := fun ρ _ k => ∃ ds, ρ[i]? = some (.own ds) ∧ k (.int (ds.length : Nat)) ρ
theorem pd_lenO {pn : Pos} (i : Nat) (hg : Gl X "len") (hm : X.mg "len" = none) (hN : X.N[i]? = some x := by rfl) (hv : Vis X.env.scope x := by first | exact Or.inl rfl | exact Or.inr (Or.inl rfl) | exact Or.inr (Or.inr rfl))
    (hd : (x == ("__debug__" : Str)) = false := by decide) (hcd : (x == ("__classdict__" : Str)) = false := by decide)
    (he : starEach [.Name x p] X.env = (false, eval (.Name x p) X.env) :: starEach [] X.env := by rfl) : PEd X (.Call (.Name "len" pn) [.Name x p] [] pos) (dLenO i) :=
  ⟨PE.imp (pe_callB call_len hg hm rfl (pa_cons (pe_var hN hv hd hcd) pa_nil) (by decide) (by decide) he rfl) fun σ H Q ⟨W, F, ρ, kx, k, tk, R, h, hQ⟩ => by
    obtain ⟨ds, hi, hk⟩ := h
    obtain ⟨v, hv, sv⟩ := R.slot hi (by intro z; cases z)
    obtain ⟨a, ev, ⟨vs0, ha, hz, dv⟩, fr⟩ := sv
    subst ev
    exact ⟨.ref a, hv, .ref a, ds.length, rfl, .inl ⟨vs0, .inl (.inl ha), dvs_len dv⟩, hQ _ ρ _ H W hk (Wd.le.refl W) R (by simp only [DV])⟩⟩
def dIxO (i : Nat) (τ : TD) : TD := fun ρ kx k => (∃ ds, ρ[i]? = some (.own ds)) ∧ τ ρ kx fun y ρ1 => ∃ ds j d, ρ1[i]? = some (.own ds) ∧ y = .int j ∧ atI ds j = some d ∧ k d ρ1
theorem pd_ixO {b : Expr} (i : Nat) (hb : PEd X b τ) (hN : X.N[i]? = some x := by rfl) (hv : Vis X.env.scope x := by first | exact Or.inl rfl | exact Or.inr (Or.inl rfl) | exact Or.inr (Or.inr rfl))
    (hd : (x == ("__debug__" : Str)) = false := by decide) (hcd : (x == ("__classdict__" : Str)) = false := by decide) (hs : PlainIx b := by exact fun _ _ => rfl) : PEd X (.Subscript (.Name x p) b pos) (dIxO i τ) :=
  ⟨PE.imp (pe_ix ix_list (pe_var hN hv hd hcd) hb.p hs) fun σ H Q ⟨W, F, ρ, kx, k, tk, R, ⟨⟨ds0, hi⟩, h⟩, hQ⟩ => by
    obtain ⟨v, hv, sv⟩ := R.slot hi (by intro z; cases z)
    obtain ⟨a, ev, ⟨vs0, ha, hz, dv⟩, fr⟩ := sv
    subst ev
    refine ⟨.ref a, hv, W, F, ρ, kx, _, tk, R, h, fun y ρ1 v1 H1 W1 h1 le1 R1 d1 => ?_⟩
    obtain ⟨ds, j, d, hj, ey, e, hk⟩ := h1
    subst ey
    simp only [DV] at d1
    subst d1
    obtain ⟨v2, hv2, sv2⟩ := R1.slot hj (by intro z; cases z)
    rw [hv] at hv2
    cases hv2
    obtain ⟨b2, eb, ⟨ws, hb2, hz1, dw⟩, fr1⟩ := sv2
    cases eb
    obtain ⟨v3, e3, dd⟩ := atI_dv dw e
    exact ⟨a, ws, j, v3, rfl, rfl, .inl (.inl hb2), e3, hQ _ ρ1 _ H1 W1 hk le1 R1 dd⟩⟩
end
end DL
set_option maxHeartbeats 4000000
/-! DL15: classes. -/
namespace DL
open PySem PySem.Spec PyProof.Rows L2
variable [TabC]
theorem PE.or {X : Cx} {e : Expr} {t u : TE} (h : PE X e t) (k : PE X e u) : PE X e (fun σ H Q => t σ H Q ∨ u σ H Q) := ⟨fun pins s σ H Q I q => by
  rcases q with q | q
  · exact h.run pins s σ H Q I q
  · exact k.run pins s σ H Q I q⟩
def dAlt (τ τ' : TD) : TD := fun ρ kx k => τ ρ kx k ∨ τ' ρ kx k
section
variable {X : Cx} {a b e o : Expr} {es : List Expr} {kws : List Keyword} {τ τa τb : TD} {pos pos' : Pos} {τs τk : TDa} {c f m x : Str} {C : Addr}
theorem PEd.alt {τ' : TD} (h : PEd X e τ) (k : PEd X e τ') : PEd X e (dAlt τ τ') := ⟨PE.imp (PE.or h.p k.p) fun σ H Q ⟨W, F, ρ, kx, kk, tk, R, h, hQ⟩ => by
  rcases h with h | h
  · exact .inl ⟨W, F, ρ, kx, kk, tk, R, h, hQ⟩
  · exact .inr ⟨W, F, ρ, kx, kk, tk, R, h, hQ⟩⟩
theorem lookup_dv {K : PySem.W.Frag} {mg : Str → Option Value} {W : Wd} : ∀ {fs : List Str} {ds : List D} {vs : List V} {f : Str} {d : D}, fs.length = vs.length → DVs K mg W ds vs → (fs.zip ds).lookup f = some d → ∃ v, (fs.zip vs).lookup f = some v ∧ DV K mg W d v
  | [], ds, vs, f, d, _, _, e => by simp at e
  | g :: fs, [], vs, f, d, l, h, e => by simp at e
  | g :: fs, d0 :: ds, vs, f, d, l, h, e => by
    simp only [DVs] at h
    obtain ⟨v, vr, rfl, r, t⟩ := h
    rw [List.zip_cons_cons, List.lookup_cons] at e ⊢
    by_cases q : f == g
    · rw [q] at e ⊢
      cases e
      exact ⟨v, rfl, r⟩
    · rw [Bool.not_eq_true] at q
      rw [q] at e ⊢
      exact lookup_dv (by simpa using l) t e
def fldK (c f : Str) (k : KE) : KE := fun d ρ => match d with | .ins c' fs ds => c' = c ∧ ∃ d' d'', (fs.zip ds).lookup f = some d' ∧ Wk d' d'' ∧ k d'' ρ | _ => False
def dFld (c f : Str) (τ : TD) : TD := fun ρ kx k => τ ρ kx (fldK c f k)
/-! ### __init__ -/
def endI (x : Addr) (c : Str) (k : D → Prop) : Rho → Prop := fun ρ => ∃ fs xs, ρ[0]? = some (.slf x c fs xs) ∧ k (.ins c fs xs)
def selfK (c : Str) (i : Nat) (f : Str) (n : Rho → Prop) : KE := fun d ρ => ∃ a fs xs, ρ[i]? = some (.slf a c fs xs) ∧ fs.contains f = false ∧ fs.length < 1000 ∧ n (ρ.set i (.slf a c (fs ++ [f]) (xs ++ [d])))
def sSelf (c : Str) (i : Nat) (f : Str) (τ : TD) : TDS := fun ρ kx k => τ ρ kx (selfK c i f k.nx)
/-! ### a new instance -/
section
variable {k n nk : Nat} {fi : Addr} {fd : FuncData} {ps ks : List Str} {p : Pos} {mI : FD} {idx : List Nat} {dvs : List V} {dds : List D}
/-! ### methods -/
variable {apos : Pos} {mM : FD} {fm : Addr}
def lenK (c : Str) (m : FD) (kx : KX) (k : KE) : KE := fun d ρ => match d with
  | .ins c' fs ds => c' = c ∧ m [.ins c' fs ds] (fun x => kx x ρ) (fun r => ∃ n : Int, r = .int n ∧ (0 ≤ n ∧ n ≤ 1000000) ∧ k (.int n) ρ)
  | _ => False
def dLenI (c : Str) (m : FD) (τ : TD) : TD := fun ρ kx k => τ ρ kx (lenK c m kx k)
end
end
end DL
set_option maxHeartbeats 4000000
/-! DL16: more calls, walks. -/
namespace DL
open PySem PySem.Spec PyProof.Rows L2
variable [TabC]
section
variable {X : Cx} {a b e e2 : Expr} {es : List Expr} {τ τa τb : TD} {pos p : Pos} {τs : TDa} {x : Str}
def cDivmod : GC := fun ds k => match ds with
  | [.int i, .int j] => (0 < j ∧ j < 1073741824) ∧ k (.tup [.int (i / j), .int (i % j)])
  | _ => False
def cAbs : GC := fun ds k => match ds with
  | [.int i] => k (.int (if i < 0 then -i else i))
  | _ => False
def cInt : GC := fun ds k => match ds with
  | [.int i] => k (.int i)
  | [.bl c] => k (.int (if c then 1 else 0))
  | _ => False
def cStr : GC := fun ds k => match ds with
  | [.int i] => i.natAbs.log2 < 1920 ∧ SOk (Str.ofString (toString i)) ∧ k (.str (Str.ofString (toString i)))
  | [.str z] => k (.str z)
  | _ => False
theorem cd_str : CallD X (fun xs H Q => (∃ i, xs = [.int i] ∧ i.natAbs.log2 < 1920 ∧ Q (.str (toString i)) H) ∨ (∃ z, xs = [V.str z] ∧ Q (.str z) H)) cStr := by
  intro W F H σ ρ vs ds k Q R dv hg hQ
  match ds, hg, dv with
  | [.int i], hg, dv =>
    obtain ⟨v, e, r⟩ := dvs1 dv
    simp only [DV] at r
    subst r
    exact .inl ⟨i, e, hg.1, hQ _ _ H W hg.2.2 (Wd.le.refl W) R (by simp only [DV]; exact ⟨trivial, hg.2.1⟩)⟩
  | [.str z], hg, dv =>
    obtain ⟨v, e, r⟩ := dvs1 dv
    simp only [DV] at r
    obtain ⟨rfl, ok⟩ := r
    exact .inr ⟨z, e, hQ _ _ H W hg (Wd.le.refl W) R (by simp only [DV]; exact ⟨trivial, ok⟩)⟩
def cAll : GC := fun ds k => match ds with
  | [.lst xs] => ∃ bs : List Bool, xs = bs.map D.bl ∧ k (.bl (bs.all id))
  | _ => False
def cMinL : GC := fun ds k => match ds with
  | [.lst xs] => ∃ ns : List Int, xs = ns.map D.int ∧ 0 < ns.length ∧ ∀ m, m ∈ ns → (∀ y, y ∈ ns → m ≤ y) → k (.int m)
  | _ => False
theorem cd_minL : CallD X (rMin X.K) cMinL := by
  intro W F H σ ρ vs ds k Q R dv hg hQ
  match ds, hg, dv with
  | [.lst xs], ⟨ns, ex, h0, hk⟩, dv =>
    subst ex
    obtain ⟨v, e, r⟩ := dvs1 dv
    simp only [DV] at r
    obtain ⟨a, us, ea, s, l, r⟩ := r
    subst ea
    rw [dvs_ints r] at s
    exact ⟨a, ns, e, .inl (.inl (R.w.g _ _ s)), h0, fun m h1 h2 => hQ _ _ _ W (hk m h1 h2) (Wd.le.refl W) R (by simp only [DV])⟩
/-! ### list(range(..)) -/
def rgL1 (τ : TD) : TDs := fun ρ kx k => τ ρ kx fun d ρ' => match d with | .int j => (-1000000 ≤ j ∧ j ≤ 1000000) ∧ k (.own (rng 0 j.toNat)) ρ' | _ => False
def rgL2 (τa τb : TD) : TDs := fun ρ kx k => τa ρ kx fun d ρ1 => τb ρ1 kx fun d2 ρ2 => match d, d2 with
  | .int i, .int j => (-1000000 ≤ i ∧ i ≤ 1000000 ∧ -1000000 ≤ j ∧ j ≤ 1000000 ∧ j - i ≤ 1000000) ∧ k (.own (rng i (j - i).toNat)) ρ2
  | _, _ => False
theorem dvs_rng {K : PySem.W.Frag} {mg : Str → Option Value} {W : Wd} (i j : Int) : DVs K mg W (rng i (j - i).toNat) (rgV i j) := by
  have key : ∀ l : List Nat, DVs K mg W (l.map fun (n : Nat) => D.int (i + (n : Nat))) (l.map fun (n : Nat) => V.int (i + (n : Nat))) := by
    intro l
    induction l with
    | nil => exact dvs_nil
    | cons a l ih => exact dvs_cons (by simp only [DV]) ih
  exact key _
theorem vd_rg1 {pn p2 : Pos} (hg : Gl X "list") (hm : X.mg "list" = none) (hg2 : Gl X "range") (hm2 : X.mg "range" = none) (hc : X.calm = true) (ha : PEd X a τa)
    (na : starEach [a] X.env = (false, eval a X.env) :: starEach [] X.env := by rfl) (na2 : starEach [.Call (.Name "range" pn) [a] [] p2] X.env = (false, eval (.Call (.Name "range" pn) [a] [] p2) X.env) :: starEach [] X.env := by rfl) :
    PEv X (.Call (.Name "list" p) [.Call (.Name "range" pn) [a] [] p2] [] pos) (rgL1 τa) :=
  ⟨PE.imp (pe_listRg hc hg hm (prg_1 hg2 hm2 ha.p na) na2) fun σ H Q ⟨W, F, ρ, kx, k, tk, R, h, hQ⟩ => ⟨W, F, ρ, kx, _, tk, R, h, fun d ρ1 v1 H1 W1 h1 le1 R1 d1 => by
    cases d <;> try exact h1.elim
    rename_i j
    obtain ⟨hb, hk⟩ := h1
    simp only [DV] at d1
    subst d1
    refine ⟨j, rfl, ⟨by omega, by omega, by omega, by omega, by omega⟩, fun q hq => ?_⟩
    have dv : DVs X.K X.mg W1 (rng 0 j.toNat) (rgV 0 j) := by have := dvs_rng (K := X.K) (mg := X.mg) (W := W1) 0 j; rwa [Int.sub_zero] at this
    obtain ⟨R2, s2, no⟩ := newLst R1 (ds := rng 0 j.toNat) (by rw [rng_len]; unfold BIG; omega) dv hq
    exact hQ (.own _) ρ1 _ _ W1 hk le1 R2 s2 (fun a i _ ea => by cases ea; exact no i) (by intro z; cases z)⟩⟩
/-! ### isinstance, a built-in type -/
def isTyN : D → Option String
  | .non => some "NoneType"
  | .bl _ => some "bool"
  | .int _ => some "int"
  | .str _ => some "str"
  | .tup _ => some "tuple"
  | .lst _ => some "list"
  | _ => none
def gIsi (T : String) (d : D) (k : D → Prop) : Prop := ∃ t b, isTyN d = some t ∧ (∀ K : PySem.W.Frag, PySem.W.kitOne K (.type t) (.type T) = some b) ∧ k (.bl b)
end
end DL
set_option maxHeartbeats 4000000
/-! DL17: enumerate, zip, index, reversed copies, in. -/
namespace DL
open PySem PySem.Spec PyProof.Rows L2
variable [TabC]
section
variable {X : Cx} {tg e e2 : Expr} {τ τa τb : TD} {pos p tpos : Pos} {elts : List Expr} {kk : Nat} {x : Str}
def pairD (a b : D) : D := .tup [a, b]
theorem yPairD {W2 : Wd} {F2 H2 H3 : Hp} {σ2 : L2.St} {ρ2 : Rho} {f g : Nat → Option V} {i : Nat} {v : V} {da db : D} (R : Rep X.K X.mg W2 F2 H2 σ2 ρ2) (y : YPair f g i H2 v H3) (ha : ∀ w, f i = some w → DV X.K X.mg W2 da w) (hb : ∀ w, g i = some w → DV X.K X.mg W2 db w) :
    ∃ W3, W2.le W3 ∧ Rep X.K X.mg W3 F2 H3 σ2 ρ2 ∧ DV X.K X.mg W3 (pairD da db) v := by
  obtain ⟨T, u, w, rfl, hT, rfl, e1, e2⟩ := y
  obtain ⟨R2, le2, d2⟩ := newTup R (ds := [da, db]) (vs := [u, w]) (by show 2 ≤ BIG; unfold BIG; omega) (dvs_cons (ha _ e1) (dvs_cons (hb _ e2) dvs_nil)) hT
  exact ⟨_, le2, R2, d2⟩
def enumD (ds : List D) : List D := ds.mapIdx fun i d => pairD (.int (i : Nat)) d
def iEnm (τ : TD) : TDi := fun ρ kx k => τ ρ kx fun d ρ' => match d with
  | .lst ds => k (enumD ds) ρ'
  | _ => False
def zipD (ds es : List D) : List D := List.zipWith pairD ds es
def iZp (τa τb : TD) : TDi := fun ρ kx k => τa ρ kx fun d ρ1 => τb ρ1 kx fun d2 ρ2 => match d, d2 with
  | .lst ds, .lst es => k (zipD ds es) ρ2
  | .tup ds, .tup es => k (zipD ds es) ρ2
  | _, _ => False
theorem zipD_walk {W1 : Wd} {Gc : Hp → Prop} {J : It} {ds es : List D} {vs ws : List V} (dv : DVs X.K X.mg W1 ds vs) (dw : DVs X.K X.mg W1 es ws) (hv : vs.length ≤ sizeLine) (hw : Walk J (min vs.length ws.length) Gc (YPair (fun i => vs[i]?) (fun i => ws[i]?))) (hG : ∀ H2 : Hp, Same W1.G H2 → Gc H2) : WalkD X W1 (zipD ds es) J := by
  have l1 := dvs_len dv
  have l2 := dvs_len dw
  have el : (zipD ds es).length = min vs.length ws.length := by unfold zipD; rw [List.length_zipWith, l1, l2]
  refine ⟨by rw [el]; omega, Gc, _, by rw [el]; exact hw, hG, fun i H2 H3 x W2 F2 σ2 ρ2 hi le2 R2 y => ?_⟩
  obtain ⟨d, hd⟩ : ∃ d, ds[i]? = some d := ⟨ds[i]'(by omega), by simp⟩
  obtain ⟨d', hd'⟩ : ∃ d, es[i]? = some d := ⟨es[i]'(by omega), by simp⟩
  obtain ⟨W3, le3, R3, d3⟩ := yPairD R2 y (da := d) (db := d') (fun w e => by
    obtain ⟨q, hq, dd⟩ := dvs_getV dv e
    rw [hd] at hq
    cases hq
    exact dd.mono le2) (fun w e => by
    obtain ⟨q, hq, dd⟩ := dvs_getV dw e
    rw [hd'] at hq
    cases hq
    exact dd.mono le2)
  exact ⟨_, W3, by unfold zipD; rw [List.getElem?_zipWith, hd, hd'], le3, R3, d3⟩
/-! ### index, of ints -/
end
end DL
set_option maxHeartbeats 4000000
/-! DL18: x op= e; steps of the readings of DL12 to DL17. -/
namespace DL
open PySem PySem.Spec PyProof.Rows L2
variable [TabC]
section
variable {X : Cx} {e : Expr} {τ : TD} {pos pos' : Pos} {x : Str}
def sAug (i : Nat) (g : G2) (τ : TD) : TDS := fun ρ kx k => ∃ d, ρ[i]? = some (.val d) ∧ τ ρ kx fun y ρ1 => ρ1[i]? = some (.val d) ∧ g d y fun z => k.nx (ρ1.set i (.val z))
theorem td_isN {a : Expr} {τa : TD} {j : Nat} {pos' : Pos} (ha : PEd X a τa) : PTd X (.Compare a [.Is] [.Constant .none j pos'] pos) (dTest (dUn gIs τa)) :=
  ⟨PT.imp (pt_cmp (pc_isN ha.p) rfl) fun σ H Q ⟨W, F, ρ, kx, k, tk, R, h, hQ⟩ => ⟨W, F, ρ, kx, _, tk, R, h, fun d ρ1 v1 H1 W1 h1 le1 R1 d1 =>
    ⟨_, rfl, by rw [d1.isN]; exact hQ _ ρ1 H1 W1 h1 le1 R1⟩⟩⟩
theorem td_notN {a : Expr} {τa : TD} {j : Nat} {pos' : Pos} (ha : PEd X a τa) : PTd X (.Compare a [.IsNot] [.Constant .none j pos'] pos) (dTest (dUn gNotIs τa)) :=
  ⟨PT.imp (pt_cmp (pc_notN ha.p) rfl) fun σ H Q ⟨W, F, ρ, kx, k, tk, R, h, hQ⟩ => ⟨W, F, ρ, kx, _, tk, R, h, fun d ρ1 v1 H1 W1 h1 le1 R1 d1 =>
    ⟨_, rfl, by rw [d1.isN]; exact hQ _ ρ1 H1 W1 h1 le1 R1⟩⟩⟩
end
section
variable {ρ ρ' : Rho} {kx : KX} {k : KE} {kv : KV} {kt : Bool → Rho → Prop} {ka : List D → Rho → Prop} {kd : D → Prop} {ks : S → Prop} {ko : Option Int → Rho → Prop}
variable {τ τa τb τ' : TD} {τs : TDs} {τl τk : TDa} {τi : TDi} {tl th : TDo} {t : TDS}
variable {n b c : Rho → Prop} {r : D → Rho → Prop} {x y d : D} {ds es as : List D} {i : Nat} {s : S} {f : Str} {cn : Str} {m : FD}
theorem x_addI {i j : Int} (h : kd (.int (i + j))) : gAddA (.int i) (.int j) kd := h
theorem x_addS {s t : Str} (l : s.length + t.length ≤ BIG) (h : kd (.str (s ++ t))) : gAddA (.str s) (.str t) kd := ⟨l, h⟩
theorem x_addT (l : ds.length + es.length ≤ BIG) (h : kd (.tup (ds ++ es))) : gAddA (.tup ds) (.tup es) kd := ⟨l, h⟩
theorem x_ixT {i : Int} (e : atI ds i = some d) (h : kd d) : gIdx (.tup ds) (.int i) kd := ⟨d, e, h⟩
theorem x_ixL {i : Int} (e : atI ds i = some d) (h : kd d) : gIdx (.lst ds) (.int i) kd := ⟨d, e, h⟩
def slTK (lo hi : Option Int) (d : D) (k : KE) (ρ : Rho) : Prop := match d with | .tup ds => ds.length ≤ BIG ∧ k (.tup (cutD ds lo hi)) ρ | .str z => k (.str (cutS z lo hi)) ρ | _ => False
theorem x_slT (h : τ ρ kx fun d ρ1 => tl ρ1 kx fun lo ρ2 => th ρ2 kx fun hi ρ3 => slTK lo hi d k ρ3) : dSlT τ tl th ρ kx k := by
  have e : dSlT τ tl th ρ kx k = τ ρ kx fun d ρ1 => tl ρ1 kx fun lo ρ2 => th ρ2 kx fun hi ρ3 => slTK lo hi d k ρ3 := by
    unfold dSlT slTK
    rfl
  rw [e]; exact h
theorem x_oNo (h : ko none ρ) : oNo ρ kx ko := h
def oIntK (ko : Option Int → Rho → Prop) : KE := fun d ρ => match d with | .int i => ko (some i) ρ | _ => False
theorem x_oInt (h : τ ρ kx (oIntK ko)) : oInt τ ρ kx ko := h
theorem x_oIntK {i : Int} (h : ko (some i) ρ) : oIntK ko (.int i) ρ := h
theorem x_vbc {g : GV} (h : τl ρ kx fun ds ρ' => g ds fun s => kv s ρ') : vBC g τl ρ kx kv := h
theorem x_tupleL (l : ds.length ≤ BIG) (h : kd (.tup ds)) : cTuple [.lst ds] kd := ⟨l, _, .tup ds, h⟩
theorem x_tupleLP (l : ds.length ≤ BIG) (h : kd (.ptp ds)) : cTuple [.lst ds] kd := ⟨l, _, .same _, h⟩
theorem x_tupleT (h : kd (.tup ds)) : cTuple [.tup ds] kd := h
theorem x_lenT (h : kd (.int (ds.length : Nat))) : cLen [.tup ds] kd := h
theorem x_lenL (h : kd (.int (ds.length : Nat))) : cLen [.lst ds] kd := h
theorem x_lenO1 (e : ρ[i]? = some (.own ds)) (h : k (.int (ds.length : Nat)) ρ) : dAlt (dLenO i) τ' ρ kx k := .inl ⟨ds, e, h⟩
theorem x_lenO2 (h : τ' ρ kx k) : dAlt (dLenO i) τ' ρ kx k := .inr h
theorem x_ixO1 (e : ρ[i]? = some (.own ds)) (h : τ ρ kx fun y ρ1 => ∃ ds j d, ρ1[i]? = some (.own ds) ∧ y = .int j ∧ atI ds j = some d ∧ k d ρ1) : dAlt (dIxO i τ) τ' ρ kx k := .inl ⟨⟨ds, e⟩, h⟩
theorem x_ixO2 (h : τ' ρ kx k) : dAlt (dIxO i τ) τ' ρ kx k := .inr h
def mtK (g : GM) (i : Nat) (k : KE) : List D → Rho → Prop := fun as ρ1 => ∃ ds, ρ1[i]? = some (.own ds) ∧ g ds as fun es d => k d (ρ1.set i (.own es))
theorem x_mt {g : GM} (e : ρ[i]? = some (.own ds)) (h : τl ρ kx (mtK g i k)) : dMt g i τl ρ kx k := ⟨⟨ds, e⟩, h⟩
theorem x_append (e : ρ[i]? = some (.own ds)) (l : ds.length < BIG) (e2 : ρ.set i (.own (ds ++ [d])) = ρ') (h : k .non ρ') : mtK mAppend i k [d] ρ := ⟨ds, e, l, by subst e2; exact h⟩
theorem x_extend (e : ρ[i]? = some (.own ds)) (l : ds.length + es.length ≤ BIG) (e2 : ρ.set i (.own (ds ++ es)) = ρ') (h : k .non ρ') : mtK mExtend i k [.lst es] ρ := ⟨ds, e, l, by subst e2; exact h⟩
theorem x_sfz {t : TDS} {kk : KS} (e : fzR i ρ = ρ') (h : t ρ' kx kk) : sFz i t ρ kx kk := by unfold sFz; rw [e]; exact h
theorem x_fld (h : τ ρ kx (fldK cn f k)) : dFld cn f τ ρ kx k := h
theorem x_fldK {fs : List Str} {d' : D} (e : (fs.zip ds).lookup f = some d') (h : k d' ρ) : fldK cn f k (.ins cn fs ds) ρ := ⟨rfl, d', d', e, .same d', h⟩
theorem x_fldP {fs : List Str} {es : List D} (e : (fs.zip ds).lookup f = some (.ptp es)) (h : k (.tup es) ρ) : fldK cn f k (.ins cn fs ds) ρ := ⟨rfl, _, _, e, .tup es, h⟩
theorem x_selfS (h : τ ρ kx (selfK cn i f n)) : sSelf cn i f τ ρ kx ⟨n, r, b, c⟩ := h
theorem x_selfK {a : Addr} {fs : List Str} {xs : List D} (e : ρ[i]? = some (.slf a cn fs xs)) (hf : fs.contains f = false ∧ fs.length < 1000) (e2 : ρ.set i (.slf a cn (fs ++ [f]) (xs ++ [d])) = ρ') (h : n ρ') : selfK cn i f n d ρ := ⟨a, fs, xs, e, hf.1, hf.2, by rw [e2]; exact h⟩
theorem x_endI {a : Addr} {fs : List Str} {xs : List D} (e : ρ[0]? = some (.slf a cn fs xs)) (h : kd (.ins cn fs xs)) : endI a cn kd ρ := ⟨fs, xs, e, h⟩
theorem x_lenI (h : τ ρ kx (lenK cn m kx k)) : dLenI cn m τ ρ kx k := h
theorem x_lenK {fs : List Str} (h : m [.ins cn fs ds] (fun x => kx x ρ) (fun r => ∃ n : Int, r = .int n ∧ (0 ≤ n ∧ n ≤ 1000000) ∧ k (.int n) ρ)) : lenK cn m kx k (.ins cn fs ds) ρ := ⟨rfl, h⟩
theorem x_isi {T t : String} {b : Bool} (e : isTyN d = some t) (hk : ∀ K : PySem.W.Frag, PySem.W.kitOne K (.type t) (.type T) = some b) (h : kd (.bl b)) : gIsi T d kd := ⟨t, b, e, hk, h⟩
theorem x_sumT {ns : List Int} (h : kd (.int ns.sum)) : cSum [.tup (ns.map D.int)] kd := ⟨ns, rfl, h⟩
theorem x_sumL {ns : List Int} (h : kd (.int ns.sum)) : cSum [.lst (ns.map D.int)] kd := ⟨ns, rfl, h⟩
theorem x_allL {bs : List Bool} (h : kd (.bl (bs.all id))) : cAll [.lst (bs.map D.bl)] kd := ⟨bs, rfl, h⟩
theorem x_intI {i : Int} (h : kd (.int i)) : cInt [.int i] kd := h
theorem x_intB {b : Bool} (h : kd (.int (if b then 1 else 0))) : cInt [.bl b] kd := h
theorem x_abs {i : Int} (h : kd (.int (if i < 0 then -i else i))) : cAbs [.int i] kd := h
theorem x_divmod {i j : Int} (hb : 0 < j ∧ j < 1073741824) (h : kd (.tup [.int (i / j), .int (i % j)])) : cDivmod [.int i, .int j] kd := ⟨hb, h⟩
def iseqK (ka : List D → Rho → Prop) : KE := fun d ρ' => match d with | .lst ds => ka ds ρ' | _ => False
def itupK (ka : List D → Rho → Prop) : KE := fun d ρ' => match d with | .tup ds => ka ds ρ' | _ => False
theorem x_iseqS (h : τ ρ kx (iseqK ka)) : iSeq τ ρ kx ka := h
theorem x_iseqD (h : ka ds ρ) : iseqK ka (.lst ds) ρ := h
theorem x_itupS (h : τ ρ kx (itupK ka)) : iTupD τ ρ kx ka := h
theorem x_itupD (h : ka ds ρ) : itupK ka (.tup ds) ρ := h
def chK (g g' : G2) (x y : D) (ρ2 : Rho) (kx : KX) (τc : TD) (k : KE) (z : D) : Prop := match z with | .bl c => (if c = true then τc ρ2 kx fun w ρ3 => g' y w fun d => k d ρ3 else k (.bl false) ρ2) | _ => False
theorem x_chain {g g' : G2} {τc : TD} (h : τa ρ kx fun x ρ1 => τb ρ1 kx fun y ρ2 => g x y (chK g g' x y ρ2 kx τc k)) : dChain g g' τa τb τc ρ kx k := h
theorem x_chK {g g' : G2} {τc : TD} {q : Bool} (h : if q = true then τc ρ kx fun w ρ3 => g' y w fun d => k d ρ3 else k (.bl false) ρ) : chK g g' x y ρ kx τc k (.bl q) := h
def rg1LK (kv : KV) : KE := fun d ρ' => match d with | .int j => (-1000000 ≤ j ∧ j ≤ 1000000) ∧ kv (.own (rng 0 j.toNat)) ρ' | _ => False
def rg2LK (kv : KV) (d : D) : KE := fun d2 ρ2 => match d, d2 with | .int i, .int j => (-1000000 ≤ i ∧ i ≤ 1000000 ∧ -1000000 ≤ j ∧ j ≤ 1000000 ∧ j - i ≤ 1000000) ∧ kv (.own (rng i (j - i).toNat)) ρ2 | _, _ => False
theorem x_rgL1 (h : τ ρ kx (rg1LK kv)) : rgL1 τ ρ kx kv := h
theorem x_rgL2 (h : τa ρ kx fun d ρ1 => τb ρ1 kx (rg2LK kv d)) : rgL2 τa τb ρ kx kv := h
theorem x_rg1LK {j : Int} (e : -1000000 ≤ j ∧ j ≤ 1000000) (h : kv (.own (rng 0 j.toNat)) ρ) : rg1LK kv (.int j) ρ := ⟨e, h⟩
theorem x_rg2LK {i j : Int} (e : -1000000 ≤ i ∧ i ≤ 1000000 ∧ -1000000 ≤ j ∧ j ≤ 1000000 ∧ j - i ≤ 1000000) (h : kv (.own (rng i (j - i).toNat)) ρ) : rg2LK kv (.int i) (.int j) ρ := ⟨e, h⟩
end
end DL
set_option maxHeartbeats 4000000
/-! DL19: comprehensions and loops, by what is kept. -/
namespace DL
open PySem PySem.Spec PyProof.Rows L2
variable [TabC]
inductive All2 {α β : Type} (R : α → β → Prop) : List α → List β → Prop
  | nil : All2 R [] []
  | cons {a : α} {b : β} {as : List α} {bs : List β} (h : R a b) (t : All2 R as bs) : All2 R (a :: as) (b :: bs)
theorem All2.len {α β : Type} {R : α → β → Prop} {as : List α} {bs : List β} (h : All2 R as bs) : as.length = bs.length := by
  induction h with
  | nil => rfl
  | cons _ _ ih => simp [ih]
theorem All2.map {α β : Type} {g : α → β} {as : List α} {bs : List β} (h : All2 (fun a b => b = g a) as bs) : bs = as.map g := by
  induction h with
  | nil => rfl
  | cons e _ ih => rw [List.map_cons, e, ih]
theorem All2.ints {α : Type} {P : Int → Prop} {as : List α} {bs : List D} (h : All2 (fun _ b => ∃ n : Int, b = D.int n ∧ P n) as bs) : ∃ ns : List Int, bs = ns.map D.int ∧ ns.length = as.length ∧ ∀ n ∈ ns, P n := by
  induction h with
  | nil => exact ⟨[], rfl, rfl, fun n hn => by cases hn⟩
  | cons e _ ih =>
    obtain ⟨n, rfl, hn⟩ := e
    obtain ⟨ns, rfl, hl, hp⟩ := ih
    exact ⟨n :: ns, rfl, by simp [hl], fun m hm => by
      rcases List.mem_cons.mp hm with z | z
      · rw [z]; exact hn
      · exact hp m z⟩
inductive LcR (R : D → Option D → Prop) : List D → List D → Prop
  | nil : LcR R [] []
  | yes {d y : D} {ds ys : List D} (h : R d (some y)) (t : LcR R ds ys) : LcR R (d :: ds) (y :: ys)
  | no {d : D} {ds ys : List D} (h : R d none) (t : LcR R ds ys) : LcR R (d :: ds) ys
theorem pickD_cons (i : Nat) (idx : List Nat) (l : List D) : pickD (i :: idx) l = l.getD i .non :: pickD idx l := rfl
theorem gD0 (a : D) (l : List D) (d : D) : (a :: l).getD 0 d = a := rfl
theorem gDs (a : D) (l : List D) (d : D) (n : Nat) : (a :: l).getD (n + 1) d = l.getD n d := rfl
theorem pickD_nil (l : List D) : pickD [] l = [] := rfl
section
variable {γ : TGd} {tt : TDt} {te : TD} {ρ0 : Rho} {kl : List D → Prop} {ds : List D}
theorem LcR.map {p : D → Bool} {g : D → D} {ds ys : List D} (h : LcR (fun d o => o = if p d = true then some (g d) else none) ds ys) : ys = (ds.filter p).map g := by
  induction h with
  | nil => rfl
  | yes h _ ih =>
    rename_i d y ds ys t
    by_cases q : p d = true
    · rw [if_pos q] at h
      cases h
      rw [List.filter_cons_of_pos q, List.map_cons, ih]
    · rw [if_neg q] at h; cases h
  | no h _ ih =>
    rename_i d ds ys t
    by_cases q : p d = true
    · rw [if_pos q] at h; cases h
    · rw [List.filter_cons_of_neg q, ih]
def fzK (k : KE) : KV := fun s ρ => k s.toD ρ
theorem x_fzS {τs : TDs} {ρ : Rho} {kx : KX} {k : KE} (h : τs ρ kx (fzK k)) : dFz τs ρ kx k := h
theorem x_fzOwn {ρ : Rho} {k : KE} (h : k (.lst ds) ρ) : fzK k (.own ds) ρ := h
def lcK (γ : TGd) (tt : TDt) (te : TD) (vs : List Nat) (kv : KV) : List D → Rho → Prop := fun ds ρ' => nown ρ' vs = true ∧ lcD γ tt te (wipeR ρ' vs) ds fun ys => kv (.own ys) ρ'
theorem x_lcS {τi : TDi} {vs : List Nat} {ρ : Rho} {kx : KX} {kv : KV} (h : τi ρ kx (lcK γ tt te vs kv)) : vLc τi γ tt te vs ρ kx kv := h
theorem x_lcK {vs : List Nat} {ρ ρ' : Rho} {kv : KV} (e : nown ρ vs = true) (e2 : wipeR ρ vs = ρ') (h : lcD γ tt te ρ' ds fun ys => kv (.own ys) ρ) : lcK γ tt te vs kv ds ρ := ⟨e, by rw [e2]; exact h⟩
theorem x_isi_NoneType_int {kd : D → Prop} (h : kd (.bl false)) : gIsi "int" .non kd := x_isi rfl (fun _ => rfl) h
theorem x_isi_NoneType_bool {kd : D → Prop} (h : kd (.bl false)) : gIsi "bool" .non kd := x_isi rfl (fun _ => rfl) h
theorem x_isi_NoneType_str {kd : D → Prop} (h : kd (.bl false)) : gIsi "str" .non kd := x_isi rfl (fun _ => rfl) h
theorem x_isi_NoneType_tuple {kd : D → Prop} (h : kd (.bl false)) : gIsi "tuple" .non kd := x_isi rfl (fun _ => rfl) h
theorem x_isi_NoneType_list {kd : D → Prop} (h : kd (.bl false)) : gIsi "list" .non kd := x_isi rfl (fun _ => rfl) h
theorem x_isi_bool_int {b : Bool} {kd : D → Prop} (h : kd (.bl true)) : gIsi "int" (.bl b) kd := x_isi rfl (fun _ => rfl) h
theorem x_isi_bool_bool {b : Bool} {kd : D → Prop} (h : kd (.bl true)) : gIsi "bool" (.bl b) kd := x_isi rfl (fun _ => rfl) h
theorem x_isi_bool_str {b : Bool} {kd : D → Prop} (h : kd (.bl false)) : gIsi "str" (.bl b) kd := x_isi rfl (fun _ => rfl) h
theorem x_isi_bool_tuple {b : Bool} {kd : D → Prop} (h : kd (.bl false)) : gIsi "tuple" (.bl b) kd := x_isi rfl (fun _ => rfl) h
theorem x_isi_bool_list {b : Bool} {kd : D → Prop} (h : kd (.bl false)) : gIsi "list" (.bl b) kd := x_isi rfl (fun _ => rfl) h
theorem x_isi_int_int {i : Int} {kd : D → Prop} (h : kd (.bl true)) : gIsi "int" (.int i) kd := x_isi rfl (fun _ => rfl) h
theorem x_isi_int_bool {i : Int} {kd : D → Prop} (h : kd (.bl false)) : gIsi "bool" (.int i) kd := x_isi rfl (fun _ => rfl) h
theorem x_isi_int_str {i : Int} {kd : D → Prop} (h : kd (.bl false)) : gIsi "str" (.int i) kd := x_isi rfl (fun _ => rfl) h
theorem x_isi_int_tuple {i : Int} {kd : D → Prop} (h : kd (.bl false)) : gIsi "tuple" (.int i) kd := x_isi rfl (fun _ => rfl) h
theorem x_isi_int_list {i : Int} {kd : D → Prop} (h : kd (.bl false)) : gIsi "list" (.int i) kd := x_isi rfl (fun _ => rfl) h
theorem x_isi_str_int {z : Str} {kd : D → Prop} (h : kd (.bl false)) : gIsi "int" (.str z) kd := x_isi rfl (fun _ => rfl) h
theorem x_isi_str_bool {z : Str} {kd : D → Prop} (h : kd (.bl false)) : gIsi "bool" (.str z) kd := x_isi rfl (fun _ => rfl) h
theorem x_isi_str_str {z : Str} {kd : D → Prop} (h : kd (.bl true)) : gIsi "str" (.str z) kd := x_isi rfl (fun _ => rfl) h
theorem x_isi_str_tuple {z : Str} {kd : D → Prop} (h : kd (.bl false)) : gIsi "tuple" (.str z) kd := x_isi rfl (fun _ => rfl) h
theorem x_isi_str_list {z : Str} {kd : D → Prop} (h : kd (.bl false)) : gIsi "list" (.str z) kd := x_isi rfl (fun _ => rfl) h
theorem x_isi_tuple_int {kd : D → Prop} (h : kd (.bl false)) : gIsi "int" (.tup ds) kd := x_isi rfl (fun _ => rfl) h
theorem x_isi_tuple_bool {kd : D → Prop} (h : kd (.bl false)) : gIsi "bool" (.tup ds) kd := x_isi rfl (fun _ => rfl) h
theorem x_isi_tuple_str {kd : D → Prop} (h : kd (.bl false)) : gIsi "str" (.tup ds) kd := x_isi rfl (fun _ => rfl) h
theorem x_isi_tuple_tuple {kd : D → Prop} (h : kd (.bl true)) : gIsi "tuple" (.tup ds) kd := x_isi rfl (fun _ => rfl) h
theorem x_isi_tuple_list {kd : D → Prop} (h : kd (.bl false)) : gIsi "list" (.tup ds) kd := x_isi rfl (fun _ => rfl) h
theorem x_isi_list_int {kd : D → Prop} (h : kd (.bl false)) : gIsi "int" (.lst ds) kd := x_isi rfl (fun _ => rfl) h
theorem x_isi_list_bool {kd : D → Prop} (h : kd (.bl false)) : gIsi "bool" (.lst ds) kd := x_isi rfl (fun _ => rfl) h
theorem x_isi_list_str {kd : D → Prop} (h : kd (.bl false)) : gIsi "str" (.lst ds) kd := x_isi rfl (fun _ => rfl) h
theorem x_isi_list_tuple {kd : D → Prop} (h : kd (.bl false)) : gIsi "tuple" (.lst ds) kd := x_isi rfl (fun _ => rfl) h
theorem x_isi_list_list {kd : D → Prop} (h : kd (.bl true)) : gIsi "list" (.lst ds) kd := x_isi rfl (fun _ => rfl) h
end
/-! strong reads: a tuple with a known object stays one -/
def dVarS (i : Nat) : TD := fun ρ _ k => ∃ d, ρ[i]? = some (.val d) ∧ k d ρ
theorem pd_varS {X : Cx} {pos : Pos} (i : Nat) {x : Str} (hN : X.N[i]? = some x := by rfl) (hv : Vis X.env.scope x := by first | exact Or.inl rfl | exact Or.inr (Or.inl rfl) | exact Or.inr (Or.inr rfl))
    (hd : (x == ("__debug__" : Str)) = false := by decide) (hcd : (x == ("__classdict__" : Str)) = false := by decide) : PEd X (.Name x pos) (dVarS i) :=
  ⟨PE.imp (pd_var i hN hv hd hcd).p fun σ H Q ⟨W, F, ρ, kx, k, tk, R, ⟨d, e, h⟩, hQ⟩ => ⟨W, F, ρ, kx, k, tk, R, ⟨d, d, e, .same d, h⟩, hQ⟩⟩
theorem x_varS {ρ : Rho} {kx : KX} {k : KE} {i : Nat} {d : D} (e : ρ[i]? = some (.val d)) (h : k d ρ) : dVarS i ρ kx k := ⟨d, e, h⟩
def fldSK (c f : Str) (k : KE) : KE := fun d ρ => match d with | .ins c' fs ds => c' = c ∧ ∃ d', (fs.zip ds).lookup f = some d' ∧ k d' ρ | _ => False
def dFldS (c f : Str) (τ : TD) : TD := fun ρ kx k => τ ρ kx (fldSK c f k)
theorem x_fldS {ρ : Rho} {kx : KX} {k : KE} {cn f : Str} {τ : TD} (h : τ ρ kx (fldSK cn f k)) : dFldS cn f τ ρ kx k := h
theorem x_fldSK {ρ : Rho} {k : KE} {cn f : Str} {ds : List D} {fs : List Str} {d' : D} (e : (fs.zip ds).lookup f = some d') (h : k d' ρ) : fldSK cn f k (.ins cn fs ds) ρ := ⟨rfl, d', e, h⟩
/-! a display of which the prover says whether its object is known -/
def tupKP (k : KE) : List D → Rho → Prop := fun ds ρ' => ds.length ≤ BIG ∧ k (.ptp ds) ρ'
theorem x_tupPD {ρ : Rho} {k : KE} {ds : List D} (e : ds.length ≤ BIG) (h : k (.ptp ds) ρ) : tupKP k ds ρ := ⟨e, h⟩
end DL
set_option maxHeartbeats 4000000
/-! DL20: the course: its making, by data. -/
namespace CS
open PySem PySem.Spec PyProof.Rows L2 DL
local macro_rules | `(tactic| sizeOf_list_dec) => `(tactic| with_reducible first
  | (refine x_varP (by with_unfolding_all rfl) ?_) | (refine x_var (by with_unfolding_all rfl) ?_) | (refine x_varS (by with_unfolding_all rfl) ?_)
  | (refine x_C ?_) | (refine x_op ?_) | (refine x_un ?_) | (refine x_sub ?_)
  | (refine x_mul (by first | with_unfolding_all decide | (unfold CMul; omega)) ?_) | (refine x_mult (by first | with_unfolding_all decide | (unfold CMul; omega)) ?_)
  | (refine x_div (by unfold CDivN; omega) ?_) | (refine x_mod (by omega) ?_) | (refine x_add ?_) | (refine x_lt ?_) | (refine x_ltI ?_) | (refine x_leI ?_) | (refine x_gtI ?_) | (refine x_geI ?_)
  | (refine x_is ?_) | (refine x_notis ?_) | (refine x_neg ?_) | (refine x_eqI ?_) | (refine x_neI ?_)
  | (refine x_dtestK ?_) | (refine x_testK ?_) | (refine x_and ?_) | (refine x_or ?_) | (refine x_not ?_) | (refine x_dif ?_)
  | (refine x_T ?_) | (refine x_F ?_) | (refine x_nT ?_) | (refine x_nF ?_)
  | (refine x_nil ?_) | (refine x_cons ?_) | (refine x_cntK ?_) | (refine x_lens (by with_unfolding_all rfl) ?_)
  | (refine x_tupK ?_) | (refine x_tupD (by first | with_unfolding_all decide | (simp only [BIG, List.length_cons, List.length_nil]; omega)) ?_) | (refine x_tupPD (by first | with_unfolding_all decide | (simp only [BIG, List.length_cons, List.length_nil]; omega)) ?_) | (refine x_lstK ?_) | (refine x_lstD (by first | with_unfolding_all decide | (simp only [BIG, List.length_cons, List.length_nil]; omega)) ?_)
  | (refine x_dct ?_) | (refine x_fzS ?_) | (refine x_fzOwn ?_) | (refine x_val ?_)
  | (refine x_callK ?_) | (refine x_callD (by first | (dsimp only [pickD_cons, pickD_nil, List.cons_append, List.nil_append, List.append_nil, gD0, gDs]; done) | (dsimp only [pickD_cons, pickD_nil, List.cons_append, List.nil_append, List.append_nil, gD0, gDs]; exact rfl)) ?_)
  | (refine x_bc ?_) | (refine x_min2 ?_) | (refine x_max2 ?_)
  | (refine x_seq ?_) | (refine x_next ?_) | (refine x_brk ?_) | (refine x_cont ?_) | (refine x_drop ?_) | (refine x_ret ?_) | (refine x_retN ?_) | (refine x_if ?_)
  | (refine x_asgK ?_) | (refine x_setK (by first | (dsimp only [List.set_cons_zero, List.set_cons_succ]; done) | (dsimp only [List.set_cons_zero, List.set_cons_succ]; exact rfl)) ?_)
  | (refine x_asgT ?_) | (refine x_gN (by first | (dsimp only [List.set_cons_zero, List.set_cons_succ]; done) | (dsimp only [List.set_cons_zero, List.set_cons_succ]; exact rfl)) ?_) | (refine x_gsN ?_) | (refine x_gsC ?_) | (refine x_gT (by with_unfolding_all rfl) ?_)
  | (refine x_mNil ?_) | (refine x_mCons ?_) | (refine x_parK ?_) | (refine x_parD (by with_unfolding_all rfl) (by first | (dsimp only [setS, List.set_cons_zero, List.set_cons_succ]; done) | (dsimp only [setS, List.set_cons_zero, List.set_cons_succ]; exact rfl)) ?_)
  | (refine x_for ?_) | (refine x_rg1 ?_) | (refine x_rg2 ?_) | (refine x_rg1K (by omega) ?_) | (refine x_rg2K (by omega) ?_)
  | (refine x_andV ?_) | (refine x_orV ?_) | (refine x_notV ?_) | (refine x_andK ?_) | (refine x_orK ?_) | (refine x_notK ?_)
  | (refine x_addI ?_) | (refine x_ixL (by with_unfolding_all rfl) ?_) | (refine x_ixT (by with_unfolding_all rfl) ?_) | (refine x_slT ?_) | (refine x_oNo ?_) | (refine x_oInt ?_) | (refine x_oIntK ?_)
  | (refine x_vbc ?_) | (refine x_lenT ?_) | (refine x_lenL ?_) | (refine x_lenO1 (by with_unfolding_all rfl) ?_) | (refine x_lenO2 ?_) | (refine x_ixO1 (by with_unfolding_all rfl) ?_) | (refine x_ixO2 ?_)
  | (refine x_mt (by with_unfolding_all rfl) ?_) | (refine x_fld ?_) | (refine x_fldS ?_) | (refine x_fldP (by with_unfolding_all rfl) ?_) | (refine x_fldSK (by with_unfolding_all rfl) ?_) | (refine x_fldK (by with_unfolding_all rfl) ?_) | (refine x_selfS ?_)
  | (refine x_selfK (by with_unfolding_all rfl) (by with_unfolding_all decide) (by first | (dsimp only [List.set_cons_zero, List.set_cons_succ, List.cons_append, List.nil_append]; done) | (dsimp only [List.set_cons_zero, List.set_cons_succ, List.cons_append, List.nil_append]; exact rfl)) ?_)
  | (refine x_endI (by with_unfolding_all rfl) ?_) | (refine x_lenI ?_) | (refine x_lenK ?_) | (refine x_isi_NoneType_int ?_) | (refine x_isi_NoneType_bool ?_) | (refine x_isi_NoneType_str ?_) | (refine x_isi_NoneType_tuple ?_) | (refine x_isi_NoneType_list ?_) | (refine x_isi_bool_int ?_) | (refine x_isi_bool_bool ?_) | (refine x_isi_bool_str ?_) | (refine x_isi_bool_tuple ?_) | (refine x_isi_bool_list ?_) | (refine x_isi_int_int ?_) | (refine x_isi_int_bool ?_) | (refine x_isi_int_str ?_) | (refine x_isi_int_tuple ?_) | (refine x_isi_int_list ?_) | (refine x_isi_str_int ?_) | (refine x_isi_str_bool ?_) | (refine x_isi_str_str ?_) | (refine x_isi_str_tuple ?_) | (refine x_isi_str_list ?_) | (refine x_isi_tuple_int ?_) | (refine x_isi_tuple_bool ?_) | (refine x_isi_tuple_str ?_) | (refine x_isi_tuple_tuple ?_) | (refine x_isi_tuple_list ?_) | (refine x_isi_list_int ?_) | (refine x_isi_list_bool ?_) | (refine x_isi_list_str ?_) | (refine x_isi_list_tuple ?_) | (refine x_isi_list_list ?_)
  | (refine x_tupleT ?_) | (refine x_sumT ?_) | (refine x_sumL ?_) | (refine x_allL ?_) | (refine x_intI ?_) | (refine x_intB ?_) | (refine x_abs ?_) | (refine x_divmod (by omega) ?_)
  | (refine x_lcS ?_) | (refine x_lcK (by with_unfolding_all rfl) (by first | (dsimp only [wipeR, List.set_cons_zero, List.set_cons_succ]; done) | (dsimp only [wipeR, List.set_cons_zero, List.set_cons_succ]; exact rfl)) ?_) | (refine x_iseqS ?_) | (refine x_iseqD ?_) | (refine x_itupS ?_) | (refine x_itupD ?_) | (refine x_chain ?_) | (refine x_chK ?_)
  | (refine x_rgL1 ?_) | (refine x_rgL2 ?_) | (refine x_rg1LK (by omega) ?_) | (refine x_rg2LK (by omega) ?_)
  | (refine x_sfz (by first | (simp only [fzR, S.toD, List.getElem?_cons_zero, List.getElem?_cons_succ, List.set_cons_zero, List.set_cons_succ]; done) | (simp only [fzR, S.toD, List.getElem?_cons_zero, List.getElem?_cons_succ, List.set_cons_zero, List.set_cons_succ]; exact rfl)) ?_))
mutual
theorem eqv_refl : ∀ (d : D), (∃ n, pln n d = true) → PyData.eqv (toPy d) (toPy d) = true
  | .non, _ => rfl
  | .bl b, _ => by simp [toPy, PyData.eqv]
  | .int i, _ => by simp [toPy, PyData.eqv]
  | .str x, _ => by simp [toPy, PyData.eqv]
  | .tup ds, h => by
    simp only [toPy, PyData.eqv]
    exact eqvs_refl ds (by
      obtain ⟨n, h⟩ := h
      cases n with
      | zero => simp [pln] at h
      | succ n => exact ⟨n, by simpa [pln] using h⟩)
  | .lst ds, h => by
    simp only [toPy, PyData.eqv]
    exact eqvs_refl ds (by
      obtain ⟨n, h⟩ := h
      cases n with
      | zero => simp [pln] at h
      | succ n => exact ⟨n, by simpa [pln] using h⟩)
  | .ins _ _ _, ⟨n, h⟩ => by cases n <;> simp [pln] at h
  | .dic _ _, ⟨n, h⟩ => by cases n <;> simp [pln] at h
  | .exc _ _ _, ⟨n, h⟩ => by cases n <;> simp [pln] at h
  | .town, ⟨n, h⟩ => by cases n <;> simp [pln] at h
  | .scr _, ⟨n, h⟩ => by cases n <;> simp [pln] at h
theorem eqvs_refl : ∀ (ds : List D), (∃ n, plns n ds = true) → PyData.eqvAll (toPys ds) (toPys ds) = true
  | [], _ => rfl
  | d :: ds, h => by
    obtain ⟨n, h⟩ := h
    simp only [plns, Bool.and_eq_true] at h
    simp only [toPys, PyData.eqvAll, Bool.and_eq_true]
    exact ⟨eqv_refl d ⟨n, h.1⟩, eqvs_refl ds ⟨n, h.2⟩⟩
end
theorem deq_refl {d : D} (h : pln 9 d = true) : deq d d = true := eqv_refl d ⟨9, h⟩
theorem x_neRefl {x : D} {kd : D → Prop} (p : pln 9 x = true) (h : kd (.bl false)) : gNe x x kd := ⟨p, p, by rw [deq_refl p]; exact h⟩
theorem x_eqRefl {x : D} {kd : D → Prop} (p : pln 9 x = true) (h : kd (.bl true)) : gEq x x kd := ⟨p, p, by rw [deq_refl p]; exact h⟩
theorem sorted_uniq : ∀ {as bs : List Int}, as.Perm bs → as.Pairwise (· ≤ ·) → bs.Pairwise (· ≤ ·) → as = bs := fun h h1 h2 => h.eq_of_pairwise (fun a b _ _ x y => Int.le_antisymm x y) h1 h2
end CS
set_option maxHeartbeats 4000000
/-! DZ1: zip(a, b, strict=True) of lists and tuples of one length, at the library's level. -/
namespace DZ
open PySem PySem.Spec PyProof.Rows
variable [DL.TabC]
open PySem.Sem (wp)
def AtIt (h : Heap) (t : Bool) (it l : Addr) (i : Nat) : Prop := match t with | true => h.IsTupleIter it l i | false => h.IsListIter it l i
def AtSq (h : Heap) (t : Bool) (l : Addr) (xs : Array Value) : Prop := match t with | true => h.IsTuple l xs | false => h.IsList l xs
theorem AtIt.at {h h' : Heap} {t : Bool} {it l : Addr} {i : Nat} (x : AtIt h t it l i) (k : ∀ o, h.get? it = some o → h'.get? it = some o) : AtIt h' t it l i := by
  cases t
  · exact Heap.IsListIter.at x k
  · exact Heap.IsTupleIter.at x k
theorem AtIt.there {h : Heap} {t : Bool} {it l : Addr} {i : Nat} (x : AtIt h t it l i) : ∃ o, h.get? it = some o := by
  cases t
  · obtain ⟨o, e, _⟩ := x; exact ⟨o, e⟩
  · obtain ⟨o, e, _⟩ := x; exact ⟨o, e⟩
theorem AtSq.at {h h' : Heap} {t : Bool} {l : Addr} {xs : Array Value} (x : AtSq h t l xs) (k : ∀ o, h.get? l = some o → h'.get? l = some o) : AtSq h' t l xs := by
  cases t
  · exact Heap.IsList.at x k
  · exact Heap.IsTuple.at x k
section
variable {prog : Program} {w : World} {A : Around} {E : Value → Shared → Prop} {s : Shared}
theorem next_item {t : Bool} {it l : Addr} {i : Nat} {items : Array Value} {x : Value} {Q : Value → Shared → Prop} (hit : AtIt s.heap t it l i) (hl : AtSq s.heap t l items) (hx : items[i]? = some x)
    (hQ : ∀ h', AtIt h' t it l (i + 1) → Heap.SameBut it s.heap h' → Q x { s with heap := h' }) : wpAny (model prog w) A (Builtin.SmallTypes.nextOf (.ref it)) Q E s := by
  cases t
  · exact wpAny_nextOf_list_item hit hl hx hQ
  · exact RZ.nextOf_tuple_item hit hl hx hQ
theorem next_end {t : Bool} {it l : Addr} {i : Nat} {items : Array Value} {Q : Value → Shared → Prop} (hh : A.handled = none) (hit : AtIt s.heap t it l i) (hl : AtSq s.heap t l items) (hx : items[i]? = none)
    (hE : ∀ h' e, Heap.ExtBut it s.heap h' → (∃ o, h'.get? e = some o ∧ o.cls = .type "StopIteration") → E (.ref e) { s with heap := h' }) : wpAny (model prog w) A (Builtin.SmallTypes.nextOf (.ref it)) Q E s := by
  cases t
  · exact wpAny_nextOf_list_end hh hit hl hx hE
  · exact RZ.nextOf_tuple_end hh hit hl hx hE
theorem ore_item {t : Bool} {it l : Addr} {i : Nat} {items : Array Value} {x : Value} {Q : Option Value → Shared → Prop} (hit : AtIt s.heap t it l i) (hl : AtSq s.heap t l items) (hx : items[i]? = some x)
    (hQ : ∀ h', AtIt h' t it l (i + 1) → Heap.SameBut it s.heap h' → Q (some x) { s with heap := h' }) : wpAny (model prog w) A (Builtin.SmallTypes.nextOrEnd (.ref it)) Q E s := by
  unfold Builtin.SmallTypes.nextOrEnd
  exact wpAny_bind (wpAny_attempt (next_item hit hl hx fun h' a b => wpAny_pure (hQ h' a b)))
theorem ore_end {t : Bool} {it l : Addr} {i : Nat} {items : Array Value} {Q : Option Value → Shared → Prop} (hh : A.handled = none) (hit : AtIt s.heap t it l i) (hl : AtSq s.heap t l items) (hx : items[i]? = none)
    (hQ : ∀ h', Heap.ExtBut it s.heap h' → Q none { s with heap := h' }) : wpAny (model prog w) A (Builtin.SmallTypes.nextOrEnd (.ref it)) Q E s := by
  unfold Builtin.SmallTypes.nextOrEnd
  refine wpAny_bind (wpAny_attempt (next_end hh hit hl hx fun h' e x ⟨o, ho, hc⟩ => ?_))
  show wpAny _ _ (isInstance (.ref e) (.type "StopIteration") >>= _) _ _ _
  refine wpAny_bind (wpAny_isInstance (T := "StopIteration") ⟨o, ho, hc⟩ (b := true) ?_ ?_)
  · first | rfl | decide +kernel | (simp only [isSubtype]; rfl)
  · rw [if_pos rfl]
    exact wpAny_pure (hQ h' x)
abbrev IsZipS (h : Heap) (z TI TO : Addr) (f0 : Value) : Prop :=
  h.get? z = some { cls := .type "zip", dict := none, data := .fields #[f0, .bool false, .bool true, .ref TI, .ref TO], slots := #[] }
theorem zs_item {z TI TO i1 i2 l1 l2 : Addr} {t1 t2 : Bool} {k1 k2 : Nat} {xs ys : Array Value} {x y a b : Value} {Q : Value → Shared → Prop} (D : ZipApart z TI TO i1 i2 l1 l2)
    (hz : IsZipS s.heap z TI TO .none) (hTI : IsPair s.heap TI (.ref i1) (.ref i2)) (hTO : IsPair s.heap TO a b) (h1 : AtIt s.heap t1 i1 l1 k1) (h2 : AtIt s.heap t2 i2 l2 k2) (hl1 : AtSq s.heap t1 l1 xs) (hl2 : AtSq s.heap t2 l2 ys) (hx : xs[k1]? = some x) (hy : ys[k2]? = some y)
    (hQ : ∀ h', IsZipS h' z TI TO (rawInt s.heap.objs.size) → IsPair h' TO x y → AtIt h' t1 i1 l1 (k1 + 1) → AtIt h' t2 i2 l2 (k2 + 1) → IsPair h' s.heap.objs.size x y → h'.objs.size = s.heap.objs.size + 1 → (∀ c o, c ≠ z → c ≠ TO → c ≠ i1 → c ≠ i2 → s.heap.get? c = some o → h'.get? c = some o) → Q (.ref s.heap.objs.size) { s with heap := h' }) :
    wpAny (model prog w) A (Builtin.«zip.__next__» ⟨[.ref z], []⟩) (fun fin s' => ∃ v, fin = .done (.ret v) ∧ Q v s') E s := by
  show wpAny _ _ (field (.ref z) 2 >>= _) _ _ _; refine wpAny_bind (wpAny_field hz rfl (x := .bool true) rfl ?_)
  show wpAny _ _ (field (.ref z) 3 >>= _) _ _ _; refine wpAny_bind (wpAny_field hz rfl (x := .ref TI) rfl ?_); refine wpAny_bind (wpAny_seqItems hTI rfl ?_)
  show wpAny _ _ (Builtin.SmallTypes.ownedTupleIsFree (.ref z) >>= _) _ _ _; refine wpAny_bind ?_
  unfold Builtin.SmallTypes.ownedTupleIsFree; refine wpAny_bind (wpAny_field hz rfl (x := .none) rfl (wpAny_pure ?_)); simp only [if_true]
  refine wpAny_bind (wpAny_rule ?_); refine wpAny_bind (wpAny_field hz rfl (x := .ref TO) rfl ?_)
  refine wpAny_bind (wpAny_setField_rec hz (by simp) fun g1 z1 s1 => ?_); replace z1 : IsZipS g1 z TI TO .ellipsis := z1
  refine wpAny_bind ?_; simp only [List.zipIdx_cons, List.zipIdx_nil, List.forIn_cons, List.forIn_nil]
  refine wpAny_bind (wpAny_bind (wpAny_onRaise ?_)); show wpAny _ _ (Builtin.SmallTypes.nextOrEnd (.ref i1)) _ _ _
  refine ore_item (h1.at fun o e => s1.extBut _ _ D.i1z e) (hl1.at fun o e => s1.extBut _ _ D.l1z e) hx fun g2 p1 s2 => ?_
  have o2 : IsPair g2 TO a b := s2.extBut _ _ D.TOi1 (s1.extBut _ _ D.TOz hTO)
  refine wpAny_bind (wpAny_seqItems o2 rfl ?_); refine wpAny_bind (wpAny_updateSeq_pair o2 fun g3 o3 s3 => ?_); replace o3 : IsPair g3 TO x b := o3
  refine wpAny_bind (wpAny_letGo (wpAny_pure ?_))
  refine wpAny_bind (wpAny_bind (wpAny_onRaise ?_)); show wpAny _ _ (Builtin.SmallTypes.nextOrEnd (.ref i2)) _ _ _
  refine ore_item (h2.at fun o e => s3.extBut _ _ D.TOi2.symm (s2.extBut _ _ D.i12.symm (s1.extBut _ _ D.i2z e))) (hl2.at fun o e => s3.extBut _ _ D.l2TO (s2.extBut _ _ D.l2i1 (s1.extBut _ _ D.l2z e))) hy fun g4 p2 s4 => ?_
  have o4 : IsPair g4 TO x b := s4.extBut _ _ D.TOi2 o3
  refine wpAny_bind (wpAny_seqItems o4 rfl ?_); refine wpAny_bind (wpAny_updateSeq_pair o4 fun g5 o5 s5 => ?_); replace o5 : IsPair g5 TO x y := o5
  refine wpAny_bind (wpAny_letGo (wpAny_pure (wpAny_pure ?_))); refine wpAny_bind (wpAny_seqItems o5 rfl ?_); refine wpAny_bind (wpAny_newTuple ?_)
  have sz : g5.objs.size = s.heap.objs.size := by rw [s5.1, s4.1, s3.1, s2.1, s1.1]
  have z5 : IsZipS g5 z TI TO .ellipsis := s5.extBut _ _ D.TOz.symm (s4.extBut _ _ D.i2z.symm (s3.extBut _ _ D.TOz.symm (s2.extBut _ _ D.i1z.symm z1)))
  have k5 : ∀ c o, c ≠ z → c ≠ TO → c ≠ i1 → c ≠ i2 → s.heap.get? c = some o → g5.get? c = some o := fun c o c1 c2 c3 c4 e => s5.extBut _ _ c2 (s4.extBut _ _ c4 (s3.extBut _ _ c2 (s2.extBut _ _ c3 (s1.extBut _ _ c1 e))))
  have q1 : AtIt g5 t1 i1 l1 (k1 + 1) := p1.at fun o e => s5.extBut _ _ D.TOi1.symm (s4.extBut _ _ D.i12 (s3.extBut _ _ D.TOi1.symm e))
  have q2 : AtIt g5 t2 i2 l2 (k2 + 1) := p2.at fun o e => s5.extBut _ _ D.TOi2.symm e
  have zl : z < g5.objs.size := Heap.lt_size z5
  show wpAny _ _ (Builtin.SmallTypes.ownedTupleHandOut (.ref z) (.ref g5.objs.size) >>= _) _ _ _; refine wpAny_bind ?_
  unfold Builtin.SmallTypes.ownedTupleHandOut; have z6 : IsZipS (g5.push { cls := .type "tuple", data := .seq #[x, y] }) z TI TO .ellipsis := Heap.get?_push_of_some _ z5
  refine wpAny_bind (wpAny_setField_rec z6 (by simp) fun g7 z7 s7 => ?_); replace z7 : IsZipS g7 z TI TO (rawInt g5.objs.size) := z7
  refine wpAny_setField_rec z7 (by simp) fun g8 z8 s8 => ?_; replace z8 : IsZipS g8 z TI TO (rawInt g5.objs.size) := z8
  have up : ∀ c o, c ≠ z → g5.get? c = some o → g8.get? c = some o := fun c o c1 e => s8.extBut _ _ c1 (s7.extBut _ _ c1 (Heap.get?_push_of_some _ e))
  have T8 : IsPair g8 g5.objs.size x y := s8.extBut _ _ (Nat.ne_of_gt zl) (s7.extBut _ _ (Nat.ne_of_gt zl) (Heap.get?_push_size _ rfl))
  have e8 : g8.objs.size = g5.objs.size + 1 := by rw [s8.1, s7.1, Heap.size_push]
  rw [sz] at z8 T8 e8; refine wpAny_pure ⟨_, rfl, ?_⟩; show Q (.ref g5.objs.size) _; rw [sz]
  exact hQ g8 z8 (up _ _ D.TOz o5) (q1.at fun o e => up _ o D.i1z e) (q2.at fun o e => up _ o D.i2z e) T8 e8 fun c o c1 c2 c3 c4 e => up c o c1 (k5 c o c1 c2 c3 c4 e)
theorem strict_run {t : Bool} {it i1 l : Addr} {i : Nat} {items : Array Value} {Q : Fin → Shared → Prop} (hh : A.handled = none) (hit : AtIt s.heap t it l i) (hl : AtSq s.heap t l items) (hx : items[i]? = none)
    (hE : ∀ h' e, Heap.ExtBut it s.heap h' → (∃ o, h'.get? e = some o ∧ o.cls = .type "StopIteration") → E (.ref e) { s with heap := h' }) :
    wpAny (model prog w) A (do
      for (it, j) in ([Value.ref i1, Value.ref it].drop 1).zipIdx 1 do
        if (← Builtin.SmallTypes.nextOrEnd it).isSome then
          rule "zip.__next__.longer"; raiseError "ValueError" s!"zip() argument {j + 1} is longer than {if j == 1 then "argument 1" else s!"arguments 1-{j}"}"
      rule "zip.__next__.all-ended"; Builtin.SmallTypes.stopIteration) Q E s := by
  simp only [List.drop_succ_cons, List.drop_zero, List.zipIdx_cons, List.zipIdx_nil, List.forIn_cons, List.forIn_nil]
  refine wpAny_bind (wpAny_bind ?_)
  refine wpAny_bind (ore_end hh hit hl hx fun g1 s1 => ?_)
  rw [if_neg (by simp)]
  refine wpAny_pure ?_
  show wpAny _ _ (pure _) _ _ _
  refine wpAny_pure ?_
  refine wpAny_bind (wpAny_rule ?_)
  unfold Builtin.SmallTypes.stopIteration
  refine wpAny_bind ?_; simp only [newExc, newTuple]
  refine wpAny_bind (wpAny_newObj_type ?_ (by size_fits)); refine wpAny_bind (m := firstArgMember _ _) (wpAny_of_eq (a := Value.none) (by first | rfl | (simp only [firstArgMember]; rfl)) ?_)
  refine wpAny_newObj_type ?_ (by size_fits); simp only [raiseNew]
  refine wpAny_bind (wpAny_handled ?_); first | rw [show A.in1.handled = none from hh] | rw [hh]
  refine wpAny_bind (wpAny_pure (wpAny_throw ?_))
  exact hE _ _ ((s1.push _).push _) ⟨_, Heap.get?_push_size _ rfl, rfl⟩
theorem strict_end {m : Sem Fin} {t : Bool} {it i1 l : Addr} {i : Nat} {items : Array Value} {Q : Fin → Shared → Prop} (hh : A.handled = none) (hit : AtIt s.heap t it l i) (hl : AtSq s.heap t l items) (hx : items[i]? = none)
    (hE : ∀ h' e, Heap.ExtBut it s.heap h' → (∃ o, h'.get? e = some o ∧ o.cls = .type "StopIteration") → E (.ref e) { s with heap := h' })
    (hm : m = (do
      for (it, j) in ([Value.ref i1, Value.ref it].drop 1).zipIdx 1 do
        if (← Builtin.SmallTypes.nextOrEnd it).isSome then
          rule "zip.__next__.longer"; raiseError "ValueError" s!"zip() argument {j + 1} is longer than {if j == 1 then "argument 1" else s!"arguments 1-{j}"}"
      rule "zip.__next__.all-ended"; Builtin.SmallTypes.stopIteration) := by rfl) : wpAny (model prog w) A m Q E s := by
  rw [hm]
  exact strict_run hh hit hl hx hE
theorem zs_end {z TI TO i1 i2 l1 l2 : Addr} {t1 t2 : Bool} {k1 k2 : Nat} {xs ys : Array Value} {a b : Value} {Q : Fin → Shared → Prop} (hh : A.handled = none) (D : ZipApart z TI TO i1 i2 l1 l2)
    (hz : IsZipS s.heap z TI TO .none) (hTI : IsPair s.heap TI (.ref i1) (.ref i2)) (hTO : IsPair s.heap TO a b) (h1 : AtIt s.heap t1 i1 l1 k1) (h2 : AtIt s.heap t2 i2 l2 k2) (hl1 : AtSq s.heap t1 l1 xs) (hl2 : AtSq s.heap t2 l2 ys) (hx : xs[k1]? = none) (hy : ys[k2]? = none)
    (hE : ∀ h' e, (∀ c o, c ≠ z → c ≠ TO → c ≠ i1 → c ≠ i2 → s.heap.get? c = some o → h'.get? c = some o) → (∃ o, h'.get? e = some o ∧ o.cls = .type "StopIteration") → E (.ref e) { s with heap := h' }) :
    wpAny (model prog w) A (Builtin.«zip.__next__» ⟨[.ref z], []⟩) Q E s := by
  show wpAny _ _ (field (.ref z) 2 >>= _) _ _ _; refine wpAny_bind (wpAny_field hz rfl (x := .bool true) rfl ?_)
  show wpAny _ _ (field (.ref z) 3 >>= _) _ _ _; refine wpAny_bind (wpAny_field hz rfl (x := .ref TI) rfl ?_); refine wpAny_bind (wpAny_seqItems hTI rfl ?_)
  show wpAny _ _ (Builtin.SmallTypes.ownedTupleIsFree (.ref z) >>= _) _ _ _; refine wpAny_bind ?_
  unfold Builtin.SmallTypes.ownedTupleIsFree; refine wpAny_bind (wpAny_field hz rfl (x := .none) rfl (wpAny_pure ?_)); simp only [if_true]
  refine wpAny_bind (wpAny_rule ?_); refine wpAny_bind (wpAny_field hz rfl (x := .ref TO) rfl ?_)
  refine wpAny_bind (wpAny_setField_rec hz (by simp) fun g1 z1 s1 => ?_); replace z1 : IsZipS g1 z TI TO .ellipsis := z1
  refine wpAny_bind ?_; simp only [List.zipIdx_cons, List.zipIdx_nil, List.forIn_cons, List.forIn_nil]
  refine wpAny_bind (wpAny_bind (wpAny_onRaise ?_)); show wpAny _ _ (Builtin.SmallTypes.nextOrEnd (.ref i1)) _ _ _
  refine ore_end hh (h1.at fun o e => s1.extBut _ _ D.i1z e) (hl1.at fun o e => s1.extBut _ _ D.l1z e) hx fun g2 s2 => ?_
  have z2 : IsZipS g2 z TI TO .ellipsis := s2 _ _ D.i1z.symm z1
  refine wpAny_bind (wpAny_setField_rec z2 (by simp) fun g3 z3 s3 => ?_)
  refine wpAny_bind (strict_end hh (h2.at fun o e => s3.extBut _ _ D.i2z (s2 _ _ D.i12.symm (s1.extBut _ _ D.i2z e))) (hl2.at fun o e => s3.extBut _ _ D.l2z (s2 _ _ D.l2i1 (s1.extBut _ _ D.l2z e))) hy fun g4 e s4 he => ?_)
  exact hE g4 e (fun c o c1 c2 c3 c4 x => s4 _ _ c4 (s3.extBut _ _ c1 (s2 _ _ c3 (s1.extBut _ _ c1 x)))) he
theorem py_item {z TI TO i1 i2 l1 l2 : Addr} {t1 t2 : Bool} {k1 k2 : Nat} {xs ys : Array Value} {x y a b : Value} {Q : Option Value → Shared → Prop} (D : ZipApart z TI TO i1 i2 l1 l2)
    (hz : IsZipS s.heap z TI TO .none) (hTI : IsPair s.heap TI (.ref i1) (.ref i2)) (hTO : IsPair s.heap TO a b) (h1 : AtIt s.heap t1 i1 l1 k1) (h2 : AtIt s.heap t2 i2 l2 k2) (hl1 : AtSq s.heap t1 l1 xs) (hl2 : AtSq s.heap t2 l2 ys) (hx : xs[k1]? = some x) (hy : ys[k2]? = some y)
    (hQ : ∀ h', IsZipS h' z TI TO (rawInt s.heap.objs.size) → IsPair h' TO x y → AtIt h' t1 i1 l1 (k1 + 1) → AtIt h' t2 i2 l2 (k2 + 1) → IsPair h' s.heap.objs.size x y → h'.objs.size = s.heap.objs.size + 1 → (∀ c o, c ≠ z → c ≠ TO → c ≠ i1 → c ≠ i2 → s.heap.get? c = some o → h'.get? c = some o) → Q (some (.ref s.heap.objs.size)) { s with heap := h' }) :
    wpAny (model prog w) A (pyNext (.ref z)) Q E s := by
  have hT : s.TypeIs (.ref z) "zip" := ⟨_, hz, rfl⟩; unfold pyNext
  exact wpAny_bind (wpAny_attempt (wpAny_callSpecial?_slot (name := Str.ofString "__next__") hT F.slot_zip_next (wpAny_call_entry F.slot_zip_next hT F.entry_zip_next
    (zs_item D hz hTI hTO h1 h2 hl1 hl2 hx hy fun h' a1 a2 a3 a4 a5 a6 a7 => wpAny_pure (hQ h' a1 a2 a3 a4 a5 a6 a7)) (F.args_zip_next_1 _))))
theorem py_end {z TI TO i1 i2 l1 l2 : Addr} {t1 t2 : Bool} {k1 k2 : Nat} {xs ys : Array Value} {a b : Value} {Q : Option Value → Shared → Prop} (hh : A.handled = none) (D : ZipApart z TI TO i1 i2 l1 l2)
    (hz : IsZipS s.heap z TI TO .none) (hTI : IsPair s.heap TI (.ref i1) (.ref i2)) (hTO : IsPair s.heap TO a b) (h1 : AtIt s.heap t1 i1 l1 k1) (h2 : AtIt s.heap t2 i2 l2 k2) (hl1 : AtSq s.heap t1 l1 xs) (hl2 : AtSq s.heap t2 l2 ys) (hx : xs[k1]? = none) (hy : ys[k2]? = none)
    (hQ : ∀ h', (∀ c o, c ≠ z → c ≠ TO → c ≠ i1 → c ≠ i2 → s.heap.get? c = some o → h'.get? c = some o) → Q none { s with heap := h' }) : wpAny (model prog w) A (pyNext (.ref z)) Q E s := by
  have hT : s.TypeIs (.ref z) "zip" := ⟨_, hz, rfl⟩; unfold pyNext
  refine wpAny_bind (wpAny_attempt (wpAny_callSpecial?_slot (name := Str.ofString "__next__") hT F.slot_zip_next (wpAny_call_entry F.slot_zip_next hT F.entry_zip_next
    (zs_end hh D hz hTI hTO h1 h2 hl1 hl2 hx hy fun h' e k ⟨o, ho, hc⟩ => ?_) (F.args_zip_next_1 _))))
  refine wpAny_bind (wpAny_isInstance (T := "StopIteration") ⟨o, ho, hc⟩ (b := true) ?_ ?_)
  · first | rfl | decide +kernel | (simp only [isSubtype]; rfl)
  · exact wpAny_pure (hQ h' k)
end
/-! the making -/
def itObj (t : Bool) (l : Addr) : Obj := match t with | true => { cls := .type "tuple_iterator", data := .fields #[.ref l, .int 0 0] } | false => { cls := .type "list_iterator", data := .fields #[.ref l, .int 0 0] }
abbrev zH1 (t1 : Bool) (h : Heap) (l1 : Addr) : Heap := h.push (itObj t1 l1)
abbrev zH2 (t1 t2 : Bool) (h : Heap) (l1 l2 : Addr) : Heap := (zH1 t1 h l1).push (itObj t2 l2)
abbrev zH3 (t1 t2 : Bool) (h : Heap) (l1 l2 : Addr) : Heap := (zH2 t1 t2 h l1 l2).push { cls := .type "tuple", data := .seq #[.ref h.objs.size, .ref (zH1 t1 h l1).objs.size] }
abbrev zH4 (t1 t2 : Bool) (h : Heap) (l1 l2 : Addr) : Heap := (zH3 t1 t2 h l1 l2).push { cls := .type "tuple", data := .seq #[.none, .none] }
abbrev zH5 (t1 t2 : Bool) (h : Heap) (l1 l2 : Addr) : Heap := (zH4 t1 t2 h l1 l2).push { cls := .type "zip", data := .fields #[.none, .bool false, .bool true, .ref (zH2 t1 t2 h l1 l2).objs.size, .ref (zH3 t1 t2 h l1 l2).objs.size] }
section
variable {prog : Program} {w : World} {A : Around} {E : Value → Shared → Prop} {s : Shared}
theorem iter_k {t : Bool} {l : Addr} {xs : Array Value} {Q : Value → Shared → Prop} (hl : AtSq s.heap t l xs) (hQ : Q (.ref s.heap.objs.size) { s with heap := s.heap.push (itObj t l) }) : wpAny (model prog w) A (pyIter (.ref l)) Q E s := by
  cases t
  · exact wpAny_pyIter_list hl hQ
  · exact wpAny_pyIter_tuple hl hQ
theorem AtSq.push {h : Heap} {t : Bool} {l : Addr} {xs : Array Value} (x : AtSq h t l xs) (o : Obj) : AtSq (h.push o) t l xs := x.at fun o e => Heap.get?_push_of_some _ e
end
theorem meets_new (t1 t2 : Bool) (l1 l2 : Addr) (xs ys : Array Value) :
    Meets (Builtin.«zip.__new__» ⟨[.type "zip", .ref l1, .ref l2], [(Str.ofString "strict", .bool true)]⟩) (fun _ R s => AtSq s.heap t1 l1 xs ∧ AtSq s.heap t2 l2 ys ∧ R (.ok (.ret (.ref (zH4 t1 t2 s.heap l1 l2).objs.size))) { s with heap := zH5 t1 t2 s.heap l1 l2 }) :=
  .of_wp fun prog w A R s h => by
    obtain ⟨hp, g, d, tk, os⟩ := s; obtain ⟨hl1, hl2, h⟩ := h; have hsub := sub_zip
    have hL1 : AtSq (Shared.heap ⟨hp, g, d, tk, os⟩) t1 l1 xs := hl1
    have hL2 : AtSq (Shared.heap ⟨hp.push (itObj t1 l1), g, d, tk, os⟩) t2 l2 ys := AtSq.push hl2 _
    wp_walk using iter_k hL1, iter_k hL2
    exact ⟨_, rfl, h⟩
theorem tc_strict (a b c : Value) : checkTypeCall "zip" ⟨[a, b], [(Str.ofString "strict", c)]⟩ = pure () := by kernel_rfl
theorem nc_strict (a b c : Value) : checkBuiltinCall "zip.__new__" ⟨[.type "zip", a, b], [(Str.ofString "strict", c)]⟩ = pure () := by kernel_rfl
theorem oi_strict (obj a b c : Value) : argsOk "object.__init__" ⟨[obj, a, b], [(Str.ofString "strict", c)]⟩ := by unfold argsOk; kernel_rfl
end DZ
set_option maxHeartbeats 4000000
/-! DZ2: the walk over zip(a, b, strict=True). -/
namespace DZ
open PySem PySem.Spec PyProof.Rows L2
variable [DL.TabC]
section
variable {prog : Program} {w : World} {A : Around} {E : Value → Shared → Prop} {s : Shared}
theorem call_zipS {l1 l2 : Addr} {t1 t2 : Bool} {xs ys : Array Value} {Q : Value → Shared → Prop} (hl1 : AtSq s.heap t1 l1 xs) (hl2 : AtSq s.heap t2 l2 ys)
    (h : ∀ h', IsZipS h' (s.heap.objs.size + 4) (s.heap.objs.size + 2) (s.heap.objs.size + 3) .none → IsPair h' (s.heap.objs.size + 2) (.ref s.heap.objs.size) (.ref (s.heap.objs.size + 1)) → IsPair h' (s.heap.objs.size + 3) .none .none → AtIt h' t1 s.heap.objs.size l1 0 → AtIt h' t2 (s.heap.objs.size + 1) l2 0 → (∀ c o, s.heap.get? c = some o → h'.get? c = some o) → Q (.ref (s.heap.objs.size + 4)) { s with heap := h' }) :
    wpAny (model prog w) A (call (.type "zip") [.ref l1, .ref l2] [(Str.ofString "strict", .bool true)]) Q E s := by
  refine callType_newKw F.called_zip (by decide) (tc_strict _ _ _) (nc_strict _ _ _) (fun obj => oi_strict obj _ _ _) F.entry_zip_new (meets_new t1 t2 l1 l2 xs ys) ⟨hl1, hl2, ?_⟩
  have z1 : (zH1 t1 s.heap l1).objs.size = s.heap.objs.size + 1 := Heap.size_push ..
  have z2 : (zH2 t1 t2 s.heap l1 l2).objs.size = s.heap.objs.size + 2 := by rw [Heap.size_push, z1]
  have z3 : (zH3 t1 t2 s.heap l1 l2).objs.size = s.heap.objs.size + 3 := by rw [Heap.size_push, z2]
  have z4 : (zH4 t1 t2 s.heap l1 l2).objs.size = s.heap.objs.size + 4 := by rw [Heap.size_push, z3]
  have g5 : (zH5 t1 t2 s.heap l1 l2).get? (zH4 t1 t2 s.heap l1 l2).objs.size = some _ := Heap.get?_push_size _ rfl
  have g4 : (zH5 t1 t2 s.heap l1 l2).get? (zH3 t1 t2 s.heap l1 l2).objs.size = some _ := Heap.get?_push_of_some _ (Heap.get?_push_size _ rfl)
  have g3 : (zH5 t1 t2 s.heap l1 l2).get? (zH2 t1 t2 s.heap l1 l2).objs.size = some _ := Heap.get?_push_of_some _ (Heap.get?_push_of_some _ (Heap.get?_push_size _ rfl))
  have g2 : (zH5 t1 t2 s.heap l1 l2).get? (zH1 t1 s.heap l1).objs.size = some (itObj t2 l2) := Heap.get?_push_of_some _ (Heap.get?_push_of_some _ (Heap.get?_push_of_some _ (Heap.get?_push_size _ (by cases t2 <;> rfl))))
  have g1 : (zH5 t1 t2 s.heap l1 l2).get? s.heap.objs.size = some (itObj t1 l1) := Heap.get?_push_of_some _ (Heap.get?_push_of_some _ (Heap.get?_push_of_some _ (Heap.get?_push_of_some _ (Heap.get?_push_size _ (by cases t1 <;> rfl)))))
  have i1 : AtIt (zH5 t1 t2 s.heap l1 l2) t1 s.heap.objs.size l1 0 := by cases t1 <;> exact ⟨_, g1, rfl, rfl⟩
  have i2 : AtIt (zH5 t1 t2 s.heap l1 l2) t2 (s.heap.objs.size + 1) l2 0 := by rw [z1] at g2; cases t2 <;> exact ⟨_, g2, rfl, rfl⟩
  show _ ∧ _; rw [z2, z3, z4] at g5; rw [z1, z2] at g3; rw [z3] at g4; rw [z4]
  exact ⟨⟨_, g5, rfl⟩, h _ g5 g3 g4 i1 i2 fun c o x => Heap.get?_push_of_some _ (Heap.get?_push_of_some _ (Heap.get?_push_of_some _ (Heap.get?_push_of_some _ (Heap.get?_push_of_some _ x))))⟩
theorem letGo_zipS {elts : List Expr} {x1 : Nat} {pos : Pos} {z TI TO T : Addr} {Q : Unit → Shared → Prop} (hz : IsZipS s.heap z TI TO (rawInt T)) (hQ : ∀ h', IsZipS h' z TI TO .none → Heap.SameBut z s.heap h' → Q () { s with heap := h' }) :
    wpAny (model prog w) A (letOwnedTupleGo (.Tuple elts x1 pos) (.ref z) (.ref T)) Q E s := by
  unfold letOwnedTupleGo; refine wpAny_bind (wpAny_load hz ?_)
  show wpAny _ _ (if (["enumerate", "zip", "dict_itemiterator", "dict_reverseitemiterator", "odict_iterator", "itertools.zip_longest", "itertools.pairwise"].contains "zip" && (#[rawInt T, .bool false, .bool true, .ref TI, .ref TO] : Array Value)[0]? == some (rawInt T)) = true then _ else _) Q E s
  rw [if_pos (by simp)]; refine wpAny_bind (wpAny_rule ?_); show wpAny _ _ (setField (.ref z) 0 .none) Q E s
  exact wpAny_setField_rec hz (by simp) fun h' hz' hs' => hQ h' hz' hs'
theorem iter_zipS {z TI TO : Addr} {f0 : Value} {Q : Value → Shared → Prop} (hz : IsZipS s.heap z TI TO f0) (h : Q (.ref z) s) : wpAny (model prog w) A (pyIter (.ref z)) Q E s := by
  have hT : s.TypeIs (.ref z) "zip" := ⟨_, hz, rfl⟩; refine wpAny_pyIter_slot hT F.slot_zip_iter (wpAny_call_entry F.slot_zip_iter hT F.entry_zip_iter ?_ (F.args_zip_iter_1 _))
  show wpAny _ _ (ret (.ref z)) _ _ s; exact wpAny_pure ⟨_, rfl, "zip", _, hT, F.slot_zip_next.lookup, h⟩
end
def SqK (K : PySem.W.Frag) (t : Bool) (H : Hp) (a : Addr) (xs : List V) : Prop := match t with | true => SqT K H a xs | false => SqL K H a xs
theorem Inv.seqK {X : Cx} {pins : List (Addr × Obj)} {σ : L2.St} {H : Hp} {s : Shared} {t : Bool} {a : Addr} {xs : List V} (I : Inv X pins σ H s) (h : SqK X.K t H a xs) : ∃ its : List Value, Vals xs its ∧ AtSq s.heap t a its.toArray ∧ a < s.heap.objs.size := by
  cases t
  · obtain ⟨its, r, p, _⟩ := I.list h
    exact ⟨its, r, p.isList, p.lt⟩
  · obtain ⟨its, r, p, _⟩ := I.tuple h
    obtain ⟨o, e, q⟩ := id p
    exact ⟨its, r, p, Heap.lt_size e⟩
theorem Inv.seqK_inj {X : Cx} {pins : List (Addr × Obj)} {σ : L2.St} {H : Hp} {s : Shared} {t : Bool} {a : Addr} {xs ys : List V} (I : Inv X pins σ H s) (h : SqK X.K t H a xs) (k : SqK X.K t H a ys) : xs = ys := by
  cases t
  · exact I.list_inj h k
  · exact I.tuple_inj h k
def ItzS (K : PySem.W.Frag) (t1 t2 : Bool) (a b : Addr) : It :=
  ⟨fun i H => ∃ (xs ys : List V) (x y : V), SqK K t1 H a xs ∧ SqK K t2 H b ys ∧ xs[i]? = some x ∧ ys[i]? = some y, fun i H v H' => ∃ T x y, v = .ref T ∧ H T = none ∧ H' = upd H T (.tup [x, y]) ∧ (∀ xs, SqK K t1 H a xs → xs[i]? = some x) ∧ ∀ ys, SqK K t2 H b ys → ys[i]? = some y,
    fun i H => ∃ xs ys : List V, SqK K t1 H a xs ∧ SqK K t2 H b ys ∧ xs.length = i ∧ ys.length = i⟩
theorem turn_zipS {P : Program} {w : World} {K : PySem.W.Frag} {elts : List Expr} {kk : Nat} {tpos : Pos} {t1 t2 : Bool} {a b z TI TO i1 i2 : Addr} (D : ZipApart z TI TO i1 i2 a b) :
    Turn P w K (.Tuple elts kk tpos) (ItzS K t1 t2 a b) [z, TI, TO, i1, i2] z (fun i h => IsZipS h z TI TO .none ∧ IsPair h TI (.ref i1) (.ref i2) ∧ (∃ x y, IsPair h TO x y) ∧ AtIt h t1 i1 a i ∧ AtIt h t2 i2 b i) where
  mem := by simp
  obj := fun i h st c hc => by
    obtain ⟨hz, hTI, ⟨x, y, hTO⟩, h1, h2⟩ := st
    have fl : ∀ {t : Bool} {it l : Addr}, AtIt h t it l i → ∃ o, h.get? it = some o ∧ ∀ v, o.data ≠ .cell v := fun {t it l} q => by
      cases t <;> (obtain ⟨o, e, _, d⟩ := q; exact ⟨o, e, fun v z => by rw [d] at z; cases z⟩)
    rcases (by simpa using hc : c = z ∨ c = TI ∨ c = TO ∨ c = i1 ∨ c = i2) with q | q | q | q | q <;> subst q
    · exact ⟨_, hz, fun v q => nomatch q⟩
    · exact ⟨_, hTI, fun v q => nomatch q⟩
    · exact ⟨_, hTO, fun v q => nomatch q⟩
    · exact fl h1
    · exact fl h2
  keep := fun i h h' ⟨hz, hTI, ⟨x, y, hTO⟩, h1, h2⟩ k => ⟨k z (by simp) _ hz, k TI (by simp) _ hTI, ⟨x, y, k TO (by simp) _ hTO⟩, h1.at fun o q => k i1 (by simp) o q, h2.at fun o q => k i2 (by simp) o q⟩
  item := by
    intro X hP hw hK hc i pins s σ H E I hf st hg; subst hP hw hK
    obtain ⟨hz, hTI, ⟨x0, y0, hTO⟩, h1, h2⟩ := st
    obtain ⟨xs, ys, x, y, hqx, hqy, hx, hy⟩ := hg
    obtain ⟨its, rv, p, _⟩ := Inv.seqK I hqx
    obtain ⟨its2, rv2, p2, _⟩ := Inv.seqK I hqy
    obtain ⟨u, hu, ru⟩ := rv.get hx
    obtain ⟨u2, hu2, ru2⟩ := rv2.get hy
    have zl : z < s.heap.objs.size := Heap.lt_size hz
    refine py_item D hz hTI hTO h1 h2 p p2 (x := u) (y := u2) (by simpa using hu) (by simpa using hu2) fun g z' o' n1 n2 T' hsz hk => ⟨_, rfl, letGo_zipS (s := { s with heap := g }) z' fun g2 z2 sb => ?_⟩
    have T2 : g2.get? s.heap.objs.size = some { cls := .type "tuple", data := .seq #[u, u2] } := (sb.2 _ (Nat.ne_of_gt zl)).trans T'
    have new : ObjOk X.prog X.w (upd H s.heap.objs.size (.tup [x, y])) g2 s.heap.objs.size (.tup [x, y]) := ⟨by show 2 ≤ sizeLine; decide, [u, u2], .cons ru (.cons ru2 .nil), ⟨_, T2, rfl, _, rfl⟩⟩
    have I1 : Inv X pins σ (upd H s.heap.objs.size (.tup [x, y])) { s with heap := g2 } := I.turnedNew (t' := s.toks) (ch := [z, TI, TO, i1, i2]) (fun c o hb q =>
      (sb.2 c (fun q' => hb (by simp [q']))).trans (hk c o (fun q' => hb (by simp [q'])) (fun q' => hb (by simp [q'])) (fun q' => hb (by simp [q'])) (fun q' => hb (by simp [q'])) q)) hf (Nat.le_refl _) new
    refine ⟨.ref s.heap.objs.size, _, I1, rfl, ⟨_, x, y, rfl, I.hok.fresh (Nat.le_refl _), rfl, fun l hl => by rw [Inv.seqK_inj I hl hqx]; exact hx, fun l hl => by rw [Inv.seqK_inj I hl hqy]; exact hy⟩, ⟨z2, ?_, ⟨u, u2, ?_⟩, ?_, ?_⟩, fun c hcm => ?_⟩
    · exact (sb.2 _ D.TIz).trans (hk _ _ D.TIz D.TITO D.TIi1 D.TIi2 hTI)
    · exact (sb.2 _ D.TOz).trans o'
    · exact n1.at fun o q => (sb.2 _ D.i1z).trans q
    · exact n2.at fun o q => (sb.2 _ D.i2z).trans q
    · have hlt : c < s.heap.objs.size := by
        rcases (by simpa using hcm : c = z ∨ c = TI ∨ c = TO ∨ c = i1 ∨ c = i2) with q | q | q | q | q <;> subst q
        · exact zl
        · exact Heap.lt_size hTI
        · exact Heap.lt_size hTO
        · obtain ⟨_, e⟩ := h1.there; exact Heap.lt_size e
        · obtain ⟨_, e⟩ := h2.there; exact Heap.lt_size e
      rw [upd_ne (Nat.ne_of_lt hlt)]; exact (hf c hcm).1
  done := by
    intro X hP hw hK hc i pins s σ H E I hf st hg; subst hP hw hK
    obtain ⟨hz, hTI, ⟨x0, y0, hTO⟩, h1, h2⟩ := st
    obtain ⟨xs, ys, hqx, hqy, e1, e2⟩ := hg
    obtain ⟨its, rv, p, _⟩ := Inv.seqK I hqx
    obtain ⟨its2, rv2, p2, _⟩ := Inv.seqK I hqy
    have l1 := rv.length
    have l2 := rv2.length
    exact py_end (I.ok.hd hc) D hz hTI hTO h1 h2 p p2 (by simp; omega) (by simp; omega) fun g hk => ⟨rfl, I.turnedL (t' := s.toks) (ch := [z, TI, TO, i1, i2]) (fun c o hb q =>
      hk c o (fun q' => hb (by simp [q'])) (fun q' => hb (by simp [q'])) (fun q' => hb (by simp [q'])) (fun q' => hb (by simp [q'])) q) hf⟩
  self := fun A i s Q E st h => iter_zipS st.1 h
end DZ
set_option maxHeartbeats 4000000
/-! DZ3: zip(a, b, strict=True) as a thing to walk, by data. -/
namespace DZ
open PySem PySem.Spec PyProof.Rows L2 DL
variable [DL.TabC]
section
variable {M : Model} {A : Around} {E : Value → Shared → Prop} {s : Shared} {env : PySem.Env}
theorem callWith_tkw {pos : Pos} {T : String} {e : Expr} {rest : List Expr} {kws : List Keyword} {Q : Value → Shared → Prop}
    (h : wpAny M A (spliced (backTo pos (starEach (e :: rest) env))) (fun vs s₁ => wpAny M A (evalAll ((backToKw pos (keywordEach kws env)).map (·.2))) (fun kvs s₂ => wpAny M A (call (.type T) vs (((backToKw pos (keywordEach kws env)).filterMap (·.1)).zip kvs)) Q E s₂) E s₁) E s)
    (he : backTo pos (starEach (e :: rest) env) = (false, eval e env) :: backTo pos (starEach rest env) := by rfl) (hplain : (backTo pos (starEach (e :: rest) env)).any (·.1) = false := by rfl)
    (hall : (backToKw pos (keywordEach kws env)).all (·.1.isSome) = true := by rfl) (hkw : (backToKw pos (keywordEach kws env)).any (·.1.isNone) = false := by rfl) :
    wpAny M A (callWith pos (.type T) [] (backTo pos (starEach (e :: rest) env)) (backToKw pos (keywordEach kws env))) Q E s := by
  have h2 : wpAny M A (evalArgs (.type T) true (backTo pos (starEach (e :: rest) env)) (backToKw pos (keywordEach kws env))) (fun a s₁ => wpAny M A (call (.type T) ([] ++ a.pos) a.kw) Q E s₁) E s := by rw [he] at h ⊢; exact evalArgs_kwB hall h
  unfold callWith; refine wpAny_bind (wpAny_holding (wpAny_mono h2 (fun a s₁ h₁ => wpAny_bind (wpAny_standAt ?_)) fun _ _ x => x))
  simp only [hplain, hkw, Bool.or_false]; refine wpAny_bind (wpAny_pure ?_)
  exact wpAny_bind (wpAny_mono h₁ (fun r s₂ hr => wpAny_bind (wpAny_holding (wpAny_point (wpAny_pure hr)))) fun _ _ x => x)
end
section
variable {X : Cx} {e e2 : Expr} {ta : TA} {tk : TA} {p pos tpos kp cp : Pos} {elts : List Expr} {kk kj : Nat}
def iZipS (K : PySem.W.Frag) (ta : TA) : TI := fun σ H R => ta σ H fun vs H1 => ∃ a b t1 t2 xs ys, vs = [.ref a, .ref b] ∧ SqK K t1 H1 a xs ∧ SqK K t2 H1 b ys ∧ R (ItzS K t1 t2 a b) H1
theorem pi_zipS (hg : Gl X "zip") (hm : X.mg "zip" = none) (ha : PA X [e, e2] ta)
    (he : backTo pos (starEach [e, e2] X.env) = (false, eval e X.env) :: backTo pos (starEach [e2] X.env) := by rfl) (hpl : (backTo pos (starEach [e, e2] X.env)).any (·.1) = false := by rfl) :
    PI X (.Tuple elts kk tpos) (.Call (.Name "zip" p) [e, e2] [⟨some "strict", .Constant (.bool true) kj cp, kp⟩] pos) (iZipS X.K ta) := by
  refine ⟨fun pins s σ H R I h => ?_⟩
  refine wpAny_Call_Name_kw (ld_blt I hg hm PyProof.Rows.boot_zip ?_)
  refine callWith_tkw (thn (ha.run pos pins s σ H _ I h) fun us s1 ⟨vs, H1, I1, r1, q1⟩ => ?_) he hpl rfl rfl
  obtain ⟨a, b, t1, t2, xs, ys, ex, hqx, hqy, q⟩ := q1
  subst ex
  refine kws_cons (pe_bl.run pins s1 σ H1 (fun v H2 => v = .bl true ∧ H2 = H1) I1 ⟨rfl, rfl⟩ |> fun z => thn z fun u s2 ⟨v, H2, I2, rv, ev, eH⟩ => kws_nil ?_)
  subst ev eH
  cases rv
  cases r1 with
  | cons r rr =>
    cases rr with
    | cons r' rr =>
      cases rr
      cases r
      cases r'
      have fresh5 : ∀ c, c ∈ [s2.heap.objs.size + 4, s2.heap.objs.size + 2, s2.heap.objs.size + 3, s2.heap.objs.size, s2.heap.objs.size + 1] → FpOk X pins H2 c := fun c hcm => by
        have hle : s2.heap.objs.size ≤ c := by
          rcases (by simpa using hcm : c = s2.heap.objs.size + 4 ∨ c = s2.heap.objs.size + 2 ∨ c = s2.heap.objs.size + 3 ∨ c = s2.heap.objs.size ∨ c = s2.heap.objs.size + 1) with z | z | z | z | z <;> omega
        exact I2.fpOk hle (I2.hok.fresh hle)
      obtain ⟨its, rv, p1, lt1⟩ := Inv.seqK I2 hqx
      obtain ⟨its2, rv2, p2, lt2⟩ := Inv.seqK I2 hqy
      refine call_zipS p1 p2 fun h' hz hTI hTO h1 h2 hk => iter_zipS hz ?_
      have I3 : Inv X pins σ H2 { s2 with heap := h' } := I2.kept (t' := s2.toks) hk
      exact ⟨s2.heap.objs.size + 4, [s2.heap.objs.size + 4, s2.heap.objs.size + 2, s2.heap.objs.size + 3, s2.heap.objs.size, s2.heap.objs.size + 1], _, _, H2, rfl, I3, turn_zipS (PySem.W.ktu_apart s2.heap.objs.size a b lt1 lt2), ⟨hz, hTI, ⟨_, _, hTO⟩, h1, h2⟩, fresh5, q⟩
theorem walk_zipS {K : PySem.W.Frag} {t1 t2 : Bool} {a b : Addr} {xs ys : List V} (hl : xs.length = ys.length) : Walk (ItzS K t1 t2 a b) (min xs.length ys.length) (fun H => SqK K t1 H a xs ∧ SqK K t2 H b ys) (YPair (fun i => xs[i]?) (fun i => ys[i]?)) := by
  refine ⟨fun i _ hi q => ?_, fun _ q => ⟨xs, ys, q.1, q.2, by omega, by omega⟩, fun i H v H' _ q ⟨T, x, z, h1, h2, h3, h4, h5⟩ => ⟨T, x, z, h1, h2, h3, h4 xs q.1, h5 ys q.2⟩⟩
  have h1 : i < xs.length := by omega
  have h2 : i < ys.length := by omega
  exact ⟨xs, ys, xs[i], ys[i], q.1, q.2, by simp [h1], by simp [h2]⟩
variable {τa τb : TD}
def seqD : D → Option (List D)
  | .tup ds => some ds
  | .lst ds => some ds
  | _ => none
theorem seqD_v {K : PySem.W.Frag} {mg : Str → Option Value} {W : Wd} {d : D} {ds : List D} {v : V} (e : seqD d = some ds) (h : DV K mg W d v) : ∃ t a vs, v = .ref a ∧ vs.length ≤ sizeLine ∧ DVs K mg W ds vs ∧ ∀ H, Same W.G H → SqK K t H a vs := by
  cases d <;> simp only [seqD, Option.some.injEq, reduceCtorEq] at e
  · subst e
    simp only [DV] at h
    obtain ⟨a, vs, rfl, g, l, dv⟩ := h
    exact ⟨true, a, vs, rfl, l, dv, fun H s => seqT_mono s g⟩
  · subst e
    simp only [DV] at h
    obtain ⟨a, vs, rfl, g, l, dv⟩ := h
    exact ⟨false, a, vs, rfl, l, dv, fun H s => .inl (.inl (s _ _ g))⟩
def iZpS (τa τb : TD) : TDi := fun ρ kx k => τa ρ kx fun d ρ1 => τb ρ1 kx fun d2 ρ2 => ∃ ds es, seqD d = some ds ∧ seqD d2 = some es ∧ ds.length = es.length ∧ k (zipD ds es) ρ2
theorem id_zipS (hg : Gl X "zip") (hm : X.mg "zip" = none) (ha : PEd X e τa) (hb : PEd X e2 τb) (hs : starEach [e, e2] X.env = (false, eval e X.env) :: starEach [e2] X.env := by rfl) (hs2 : starEach [e2] X.env = (false, eval e2 X.env) :: starEach [] X.env := by rfl)
    (he : backTo pos (starEach [e, e2] X.env) = (false, eval e X.env) :: backTo pos (starEach [e2] X.env) := by rfl) (hpl : (backTo pos (starEach [e, e2] X.env)).any (·.1) = false := by rfl) :
    PId X (.Tuple elts kk tpos) (.Call (.Name "zip" p) [e, e2] [⟨some "strict", .Constant (.bool true) kj cp, kp⟩] pos) (iZpS τa τb) :=
  ⟨⟨_, pi_zipS hg hm (pa_cons ha.p (pa_cons hb.p pa_nil hs2) hs) he hpl, fun σ H R W F ρ kx k tk Rp hτ hR => ⟨W, F, ρ, kx, _, tk, Rp, hτ, fun d ρ1 v1 H1 W1 h1 le1 R1 d1 => ⟨W1, F, ρ1, kx, _, tk.mono le1, R1, h1, fun d2 ρ2 v2 H2 W2 h2 le2 R2 dd2 => by
    obtain ⟨ds, es, e1, e2, hl, hk⟩ := h2
    obtain ⟨t1, a, vs, rfl, l1, dv, s1⟩ := seqD_v e1 (d1.mono le2)
    obtain ⟨t2, b, ws, rfl, l2, dw, s2⟩ := seqD_v e2 dd2
    have hl2 : vs.length = ws.length := by rw [← dvs_len dv, ← dvs_len dw]; exact hl
    exact ⟨a, b, t1, t2, vs, ws, rfl, s1 _ R2.w.g, s2 _ R2.w.g, hR _ ρ2 H2 W2 _ hk (le1.trans le2) R2 (zipD_walk dv dw l1 (walk_zipS hl2) fun H3 s3 => ⟨s1 _ s3, s2 _ s3⟩)⟩⟩⟩⟩⟩
end
end DZ
namespace DL
open PySem PySem.Spec PyProof.Rows L2
variable [DL.TabC]
section
variable {ρ : Rho} {kx : KX} {k : KE} {cn : Str} {m : FD} {ds es : List D} {τa τb τ : TD} {ka : List D → Rho → Prop}
def lenR (k : KE) (ρ : Rho) : D → Prop := fun r => ∃ n : Int, r = .int n ∧ (0 ≤ n ∧ n ≤ 1000000) ∧ k (.int n) ρ
theorem x_lenK2 {fs : List Str} (h : m [.ins cn fs ds] (fun x => kx x ρ) (lenR k ρ)) : lenK cn m kx k (.ins cn fs ds) ρ := ⟨rfl, h⟩
def zpK (ka : List D → Rho → Prop) (d : D) : KE := fun d2 ρ2 => ∃ ds es, DZ.seqD d = some ds ∧ DZ.seqD d2 = some es ∧ ds.length = es.length ∧ ka (zipD ds es) ρ2
theorem x_zpS (h : τa ρ kx fun d ρ1 => τb ρ1 kx (zpK ka d)) : DZ.iZpS τa τb ρ kx ka := h
theorem x_zpTT (e : ds.length = es.length) (h : ka (zipD ds es) ρ) : zpK ka (.tup ds) (.tup es) ρ := ⟨ds, es, rfl, rfl, e, h⟩
def zpN (ka : List D → Rho → Prop) (d : D) : KE := fun d2 ρ2 => match d, d2 with | .lst ds, .lst es => ka (zipD ds es) ρ2 | .tup ds, .tup es => ka (zipD ds es) ρ2 | _, _ => False
theorem x_zp (h : τa ρ kx fun d ρ1 => τb ρ1 kx (zpN ka d)) : iZp τa τb ρ kx ka := h
theorem x_zpNT (h : ka (zipD ds es) ρ) : zpN ka (.tup ds) (.tup es) ρ := h
theorem x_zpNL (h : ka (zipD ds es) ρ) : zpN ka (.lst ds) (.lst es) ρ := h
def enmK (ka : List D → Rho → Prop) : KE := fun d ρ' => match d with | .lst ds => ka (enumD ds) ρ' | _ => False
theorem x_enm (h : τ ρ kx (enmK ka)) : iEnm τ ρ kx ka := h
theorem x_enmK (h : ka (enumD ds) ρ) : enmK ka (.lst ds) ρ := h
theorem x_gTp {n : Nat} {γs : TGsd} {a b : D} {k : Rho → Prop} (e : n = 2) (h : γs [a, b] ρ k) : gT n γs (pairD a b) ρ k := ⟨e.symm, h⟩
end
end DL
set_option maxHeartbeats 4000000
namespace CS
open PySem PySem.Spec PyProof.Rows L2 DL
local macro_rules | `(tactic| sizeOf_list_dec) => `(tactic| with_reducible first
  | (refine x_varP (by with_unfolding_all rfl) ?_) | (refine x_var (by with_unfolding_all rfl) ?_) | (refine x_varS (by with_unfolding_all rfl) ?_)
  | (refine x_C ?_) | (refine x_op ?_) | (refine x_un ?_) | (refine x_sub ?_)
  | (refine x_mul (by first | with_unfolding_all decide | (unfold CMul; omega)) ?_) | (refine x_mult (by first | with_unfolding_all decide | (unfold CMul; omega)) ?_)
  | (refine x_div (by unfold CDivN; omega) ?_) | (refine x_mod (by omega) ?_) | (refine x_add ?_) | (refine x_lt ?_) | (refine x_ltI ?_) | (refine x_leI ?_) | (refine x_gtI ?_) | (refine x_geI ?_)
  | (refine x_is ?_) | (refine x_notis ?_) | (refine x_neg ?_) | (refine x_eqI ?_) | (refine x_neI ?_)
  | (refine x_dtestK ?_) | (refine x_testK ?_) | (refine x_and ?_) | (refine x_or ?_) | (refine x_not ?_) | (refine x_dif ?_)
  | (refine x_T ?_) | (refine x_F ?_) | (refine x_nT ?_) | (refine x_nF ?_)
  | (refine x_nil ?_) | (refine x_cons ?_) | (refine x_cntK ?_) | (refine x_lens (by with_unfolding_all rfl) ?_)
  | (refine x_tupK ?_) | (refine x_tupD (by first | with_unfolding_all decide | (simp only [BIG, List.length_cons, List.length_nil]; omega)) ?_) | (refine x_tupPD (by first | with_unfolding_all decide | (simp only [BIG, List.length_cons, List.length_nil]; omega)) ?_) | (refine x_lstK ?_) | (refine x_lstD (by first | with_unfolding_all decide | (simp only [BIG, List.length_cons, List.length_nil]; omega)) ?_)
  | (refine x_dct ?_) | (refine x_fzS ?_) | (refine x_fzOwn ?_) | (refine x_val ?_)
  | (refine x_callK ?_) | (refine x_callD (by first | (dsimp only [pickD_cons, pickD_nil, List.cons_append, List.nil_append, List.append_nil, gD0, gDs]; done) | (dsimp only [pickD_cons, pickD_nil, List.cons_append, List.nil_append, List.append_nil, gD0, gDs]; exact rfl)) ?_)
  | (refine x_bc ?_) | (refine x_min2 ?_) | (refine x_max2 ?_)
  | (refine x_seq ?_) | (refine x_next ?_) | (refine x_brk ?_) | (refine x_cont ?_) | (refine x_drop ?_) | (refine x_ret ?_) | (refine x_retN ?_) | (refine x_if ?_)
  | (refine x_asgK ?_) | (refine x_setK (by first | (dsimp only [List.set_cons_zero, List.set_cons_succ]; done) | (dsimp only [List.set_cons_zero, List.set_cons_succ]; exact rfl)) ?_)
  | (refine x_asgT ?_) | (refine x_gN (by first | (dsimp only [List.set_cons_zero, List.set_cons_succ]; done) | (dsimp only [List.set_cons_zero, List.set_cons_succ]; exact rfl)) ?_) | (refine x_gsN ?_) | (refine x_gsC ?_) | (refine x_gT (by with_unfolding_all rfl) ?_)
  | (refine x_mNil ?_) | (refine x_mCons ?_) | (refine x_parK ?_) | (refine x_parD (by with_unfolding_all rfl) (by first | (dsimp only [setS, List.set_cons_zero, List.set_cons_succ]; done) | (dsimp only [setS, List.set_cons_zero, List.set_cons_succ]; exact rfl)) ?_)
  | (refine x_for ?_) | (refine x_rg1 ?_) | (refine x_rg2 ?_) | (refine x_rg1K (by omega) ?_) | (refine x_rg2K (by omega) ?_)
  | (refine x_andV ?_) | (refine x_orV ?_) | (refine x_notV ?_) | (refine x_andK ?_) | (refine x_orK ?_) | (refine x_notK ?_)
  | (refine x_addI ?_) | (refine x_ixL (by with_unfolding_all rfl) ?_) | (refine x_ixT (by with_unfolding_all rfl) ?_) | (refine x_slT ?_) | (refine x_oNo ?_) | (refine x_oInt ?_) | (refine x_oIntK ?_)
  | (refine x_vbc ?_) | (refine x_lenT ?_) | (refine x_lenL ?_) | (refine x_lenO1 (by with_unfolding_all rfl) ?_) | (refine x_lenO2 ?_) | (refine x_ixO1 (by with_unfolding_all rfl) ?_) | (refine x_ixO2 ?_)
  | (refine x_mt (by with_unfolding_all rfl) ?_) | (refine x_fld ?_) | (refine x_fldS ?_) | (refine x_fldP (by with_unfolding_all rfl) ?_) | (refine x_fldSK (by with_unfolding_all rfl) ?_) | (refine x_fldK (by with_unfolding_all rfl) ?_) | (refine x_selfS ?_)
  | (refine x_selfK (by with_unfolding_all rfl) (by with_unfolding_all decide) (by first | (dsimp only [List.set_cons_zero, List.set_cons_succ, List.cons_append, List.nil_append]; done) | (dsimp only [List.set_cons_zero, List.set_cons_succ, List.cons_append, List.nil_append]; exact rfl)) ?_)
  | (refine x_endI (by with_unfolding_all rfl) ?_) | (refine x_lenI ?_) | (refine x_lenK2 ?_) | (refine x_isi_NoneType_int ?_) | (refine x_isi_NoneType_bool ?_) | (refine x_isi_NoneType_str ?_) | (refine x_isi_NoneType_tuple ?_) | (refine x_isi_NoneType_list ?_) | (refine x_isi_bool_int ?_) | (refine x_isi_bool_bool ?_) | (refine x_isi_bool_str ?_) | (refine x_isi_bool_tuple ?_) | (refine x_isi_bool_list ?_) | (refine x_isi_int_int ?_) | (refine x_isi_int_bool ?_) | (refine x_isi_int_str ?_) | (refine x_isi_int_tuple ?_) | (refine x_isi_int_list ?_) | (refine x_isi_str_int ?_) | (refine x_isi_str_bool ?_) | (refine x_isi_str_str ?_) | (refine x_isi_str_tuple ?_) | (refine x_isi_str_list ?_) | (refine x_isi_tuple_int ?_) | (refine x_isi_tuple_bool ?_) | (refine x_isi_tuple_str ?_) | (refine x_isi_tuple_tuple ?_) | (refine x_isi_tuple_list ?_) | (refine x_isi_list_int ?_) | (refine x_isi_list_bool ?_) | (refine x_isi_list_str ?_) | (refine x_isi_list_tuple ?_) | (refine x_isi_list_list ?_)
  | (refine x_tupleT ?_) | (refine x_sumT ?_) | (refine x_sumL ?_) | (refine x_allL ?_) | (refine x_intI ?_) | (refine x_intB ?_) | (refine x_abs ?_) | (refine x_divmod (by omega) ?_)
  | (refine x_lcS ?_) | (refine x_lcK (by with_unfolding_all rfl) (by first | (dsimp only [wipeR, List.set_cons_zero, List.set_cons_succ]; done) | (dsimp only [wipeR, List.set_cons_zero, List.set_cons_succ]; exact rfl)) ?_) | (refine x_iseqS ?_) | (refine x_iseqD ?_) | (refine x_itupS ?_) | (refine x_itupD ?_) | (refine x_chain ?_) | (refine x_chK ?_)
  | (refine x_rgL1 ?_) | (refine x_rgL2 ?_) | (refine x_rg1LK (by omega) ?_) | (refine x_rg2LK (by omega) ?_)
  | (refine x_sfz (by first | (simp only [fzR, S.toD, List.getElem?_cons_zero, List.getElem?_cons_succ, List.set_cons_zero, List.set_cons_succ]; done) | (simp only [fzR, S.toD, List.getElem?_cons_zero, List.getElem?_cons_succ, List.set_cons_zero, List.set_cons_succ]; exact rfl)) ?_)
  | (refine x_zpS ?_) | (refine x_zp ?_) | (refine x_zpNT ?_) | (refine x_zpNL ?_) | (refine x_enm ?_) | (refine x_enmK ?_) | (refine x_gTp (by with_unfolding_all rfl) ?_))
/-! the strokes that are given, the cards, by data -/
def gf (n : Nat) (ranks : List Int) (strokes : Int) : List Int := ranks.map fun r => strokes / (n : Int) + if r ≤ strokes % (n : Int) then 1 else 0
theorem x_lc_mapA {α : Type} (g : α → D) {γ : TGd} {te : TD} {ρ0 : Rho} {kl : List D → Prop} {f : α → D} {l : List α} (hs : ∀ a ∈ l, ∀ A : D → Prop, A (g a) → γ (f a) ρ0 fun ρ1 => te ρ1 nokx fun y ρ3 => ρ3 = ρ1 ∧ A y) (hk : kl (l.map g)) : lcD γ tYesD te ρ0 (l.map f) kl := by
  have key : ∀ (l : List α) (kl : List D → Prop), (∀ a ∈ l, ∀ A : D → Prop, A (g a) → γ (f a) ρ0 fun ρ1 => te ρ1 nokx fun y ρ3 => ρ3 = ρ1 ∧ A y) → kl (l.map g) → lcD γ tYesD te ρ0 (l.map f) kl := by
    intro l
    induction l with
    | nil => intro kl _ hk; exact hk
    | cons a l ih =>
      intro kl hs hk
      rw [List.map_cons]
      unfold lcD tYesD
      have e : (fun ρ1 => (ρ1 = ρ1 ∧ if true = true then te ρ1 nokx fun y ρ3 => ρ3 = ρ1 ∧ lcD γ (fun ρ x k => k true ρ) te ρ0 (l.map f) fun ys => kl (y :: ys) else lcD γ (fun ρ x k => k true ρ) te ρ0 (l.map f) kl)) = fun ρ1 => te ρ1 nokx fun y ρ3 => ρ3 = ρ1 ∧ lcD γ (fun ρ x k => k true ρ) te ρ0 (l.map f) fun ys => kl (y :: ys) := by
        funext ρ1
        simp
      show γ (f a) ρ0 (fun ρ1 => (ρ1 = ρ1 ∧ if true = true then te ρ1 nokx fun y ρ3 => ρ3 = ρ1 ∧ lcD γ (fun ρ x k => k true ρ) te ρ0 (l.map f) fun ys => kl (y :: ys) else lcD γ (fun ρ x k => k true ρ) te ρ0 (l.map f) kl))
      rw [e]
      exact hs a (List.mem_cons_self ..) _ (ih _ (fun a' ha' => hs a' (List.mem_cons_of_mem _ ha')) (by rw [List.map_cons] at hk; exact hk))
  exact key l kl hs hk
theorem x_lc_filterA {α : Type} (p : α → Bool) (g : α → D) {γ : TGd} {tt : TDt} {te : TD} {ρ0 : Rho} {kl : List D → Prop} {f : α → D} {l : List α} (hs : ∀ a ∈ l, ∀ (A : D → Prop) (B : Prop), (p a = true → A (g a)) → (p a = false → B) → γ (f a) ρ0 fun ρ1 => tt ρ1 nokx fun b ρ2 => ρ2 = ρ1 ∧ if b = true then te ρ1 nokx fun y ρ3 => ρ3 = ρ1 ∧ A y else B)
    (hk : kl ((l.filter p).map g)) : lcD γ tt te ρ0 (l.map f) kl := by
  have key : ∀ (l : List α) (kl : List D → Prop), (∀ a ∈ l, ∀ (A : D → Prop) (B : Prop), (p a = true → A (g a)) → (p a = false → B) → γ (f a) ρ0 fun ρ1 => tt ρ1 nokx fun b ρ2 => ρ2 = ρ1 ∧ if b = true then te ρ1 nokx fun y ρ3 => ρ3 = ρ1 ∧ A y else B) → kl ((l.filter p).map g) → lcD γ tt te ρ0 (l.map f) kl := by
    intro l
    induction l with
    | nil => intro kl _ hk; exact hk
    | cons a l ih =>
      intro kl hs hk
      rw [List.map_cons]
      refine hs a (List.mem_cons_self ..) _ _ (fun q => ih _ (fun a' ha' => hs a' (List.mem_cons_of_mem _ ha')) ?_) fun q => ih _ (fun a' ha' => hs a' (List.mem_cons_of_mem _ ha')) ?_
      · rw [List.filter_cons_of_pos q, List.map_cons] at hk; exact hk
      · rw [List.filter_cons_of_neg (by simp [q])] at hk; exact hk
  exact key l kl hs hk
theorem x_for_pre {α : Type} {f : α → D} {l : List α} {γ : TGd} {t : TDS} {kx : KX} {ρ : Rho} {n b c : Rho → Prop} {r : D → Rho → Prop} (I : List α → Rho → Prop) (h0 : I [] ρ) (hn : ∀ ρ, I l ρ → n ρ)
    (hs : ∀ pre a post ρ (P : Rho → Prop), l = pre ++ a :: post → I pre ρ → (∀ ρ', I (pre ++ [a]) ρ' → P ρ') → γ (f a) ρ fun ρ1 => t ρ1 kx ⟨P, r, n, P⟩) : forD γ t (l.map f) ρ kx ⟨n, r, b, c⟩ := by
  have key : ∀ (post pre : List α) (ρ : Rho), l = pre ++ post → I pre ρ → forD γ t (post.map f) ρ kx ⟨n, r, b, c⟩ := by
    intro post
    induction post with
    | nil => intro pre ρ e h; rw [List.append_nil] at e; subst e; exact hn ρ h
    | cons a post ih => intro pre ρ e h; exact hs pre a post ρ _ e h fun ρ' q => ih (pre ++ [a]) ρ' (by rw [e]; simp) q
  exact key l [] ρ rfl h0
theorem zipD_maps {α β : Type} (f : α → D) (g : β → D) : ∀ (xs : List α) (ys : List β), zipD (xs.map f) (ys.map g) = (xs.zip ys).map fun p => pairD (f p.1) (g p.2)
  | [], _ => by simp [zipD]
  | _ :: _, [] => by simp [zipD]
  | x :: xs, y :: ys => by
    have := zipD_maps f g xs ys
    unfold zipD at this ⊢
    rw [List.map_cons, List.map_cons, List.zipWith_cons_cons, List.zip_cons_cons, List.map_cons, this]
def sc (o : Option Int) : D := match o with | none => .non | some i => .int i
end CS
set_option maxHeartbeats 4000000
/-! DL22: in, not in, over flat items. -/
namespace DL
open PySem PySem.Spec PyProof.Rows L2
variable [TabC]
def vOf : D → V
  | .bl b => .bl b
  | .int i => .int i
  | .str z => .str z
  | _ => .non
def flatD : D → Bool
  | .non => true
  | .bl _ => true
  | .int _ => true
  | .str _ => true
  | _ => false
section
variable {K : PySem.W.Frag} {mg : Str → Option Value} {W : Wd}
theorem vOf_of {d : D} {v : V} (f : flatD d = true) (h : DV K mg W d v) : v = vOf d ∧ flatV v = true := by
  cases d <;> simp only [flatD, reduceCtorEq] at f
  · simp only [DV] at h; subst h; exact ⟨rfl, rfl⟩
  · simp only [DV] at h; subst h; exact ⟨rfl, rfl⟩
  · simp only [DV] at h; subst h; exact ⟨rfl, rfl⟩
  · simp only [DV] at h; obtain ⟨rfl, _⟩ := h; exact ⟨rfl, rfl⟩
theorem vOfs_of : ∀ {ds : List D} {vs : List V}, ds.all flatD = true → DVs K mg W ds vs → vs = ds.map vOf ∧ vs.all flatV = true
  | [], vs, _, h => by simp only [DVs] at h; subst h; exact ⟨rfl, rfl⟩
  | d :: ds, vs, f, h => by
    simp only [DVs] at h
    obtain ⟨v, vr, rfl, r, t⟩ := h
    rw [List.all_cons, Bool.and_eq_true] at f
    obtain ⟨e1, f1⟩ := vOf_of f.1 r
    obtain ⟨e2, f2⟩ := vOfs_of f.2 t
    rw [List.map_cons, ← e1, ← e2, List.all_cons, f1, f2]
    exact ⟨rfl, rfl⟩
end
def gInB (neg : Bool) : G2 := fun x y k => match y with
  | .tup ds => flatD x = true ∧ ds.all flatD = true ∧ k (.bl (if neg then !inV (vOf x) (ds.map vOf) else inV (vOf x) (ds.map vOf)))
  | .lst ds => flatD x = true ∧ ds.all flatD = true ∧ k (.bl (if neg then !inV (vOf x) (ds.map vOf) else inV (vOf x) (ds.map vOf)))
  | _ => False
def gIn : G2 := gInB false
def gNin : G2 := gInB true
section
variable {X : Cx} {a b : Expr} {τa τb : TD} {pos : Pos}
theorem od_inB (neg : Bool) : OpD X (rIn X.K neg) (gInB neg) := by
  intro W F H σ ρ x y dx dy k Q R hx hy hg hQ
  cases dy <;> try exact hg.elim
  · rename_i ds
    obtain ⟨f1, f2, hk⟩ := hg
    simp only [DV] at hy
    obtain ⟨p, vs, rfl, g, l, dv⟩ := hy
    obtain ⟨e1, k1⟩ := vOf_of f1 hx
    obtain ⟨e2, k2⟩ := vOfs_of f2 dv
    exact ⟨p, vs, rfl, .inr (seqT_mono R.w.g g), k1, k2, hQ _ _ H W hk (Wd.le.refl W) R (by rw [e1, e2]; simp only [DV])⟩
  · rename_i ds
    obtain ⟨f1, f2, hk⟩ := hg
    simp only [DV] at hy
    obtain ⟨p, vs, rfl, g, l, dv⟩ := hy
    obtain ⟨e1, k1⟩ := vOf_of f1 hx
    obtain ⟨e2, k2⟩ := vOfs_of f2 dv
    exact ⟨p, vs, rfl, .inl (.inl (.inl (R.w.g _ _ g))), k1, k2, hQ _ _ H W hk (Wd.le.refl W) R (by rw [e1, e2]; simp only [DV])⟩
theorem td_in {k : Nat} (hr : Room k X.A) (ha : PEd X a τa) (hb : PEd X b τb) (hm : behindInMarks .In b = false := by with_unfolding_all rfl) : PTd X (.Compare a [.In] [b] pos) (dTest (dOp gIn τa τb)) := td_cmp op_in_seq (od_inB false) ha hb hm
theorem td_nin {k : Nat} (hr : Room k X.A) (ha : PEd X a τa) (hb : PEd X b τb) (hm : behindInMarks .NotIn b = false := by with_unfolding_all rfl) : PTd X (.Compare a [.NotIn] [b] pos) (dTest (dOp gNin τa τb)) := td_cmp op_notIn_seq (od_inB true) ha hb hm
end
end DL
set_option maxHeartbeats 4000000
/-! DL23: x op= e; xs[i] op= e and xs[i] = e, xs owned. -/
namespace DL
open PySem PySem.Spec PyProof.Rows L2
variable [TabC]
section
variable {X : Cx} {e ix : Expr} {τ τi : TD} {pos pos' p : Pos} {x : Str}
def sAugIx (i : Nat) (τi : TD) (g : G2) (τ : TD) : TDS := fun ρ kx k => (∃ ds, ρ[i]? = some (.own ds)) ∧ τi ρ kx fun j ρ1 => ∃ n ds d, j = .int n ∧ ρ1[i]? = some (.own ds) ∧ 0 ≤ n ∧ ds[n.toNat]? = some d ∧
  τ ρ1 kx fun y ρ2 => ρ2[i]? = some (.own ds) ∧ g d y fun z => k.nx (ρ2.set i (.own (ds.set n.toNat z)))
end
end DL
set_option maxHeartbeats 4000000
namespace CS
open PySem PySem.Spec PyProof.Rows L2 DL
local macro_rules | `(tactic| sizeOf_list_dec) => `(tactic| with_reducible first
  | (refine x_varP (by with_unfolding_all rfl) ?_) | (refine x_var (by with_unfolding_all rfl) ?_) | (refine x_varS (by with_unfolding_all rfl) ?_)
  | (refine x_C ?_) | (refine x_op ?_) | (refine x_un ?_) | (refine x_sub ?_)
  | (refine x_mul (by first | with_unfolding_all decide | (unfold CMul; omega)) ?_) | (refine x_mult (by first | with_unfolding_all decide | (unfold CMul; omega)) ?_)
  | (refine x_div (by unfold CDivN; omega) ?_) | (refine x_mod (by omega) ?_) | (refine x_add ?_) | (refine x_lt ?_) | (refine x_ltI ?_) | (refine x_leI ?_) | (refine x_gtI ?_) | (refine x_geI ?_)
  | (refine x_is ?_) | (refine x_notis ?_) | (refine x_neg ?_) | (refine x_eqI ?_) | (refine x_neI ?_)
  | (refine x_dtestK ?_) | (refine x_testK ?_) | (refine x_and ?_) | (refine x_or ?_) | (refine x_not ?_) | (refine x_dif ?_)
  | (refine x_T ?_) | (refine x_F ?_) | (refine x_nT ?_) | (refine x_nF ?_)
  | (refine x_nil ?_) | (refine x_cons ?_) | (refine x_cntK ?_) | (refine x_lens (by with_unfolding_all rfl) ?_)
  | (refine x_tupK ?_) | (refine x_tupD (by first | with_unfolding_all decide | (simp only [BIG, List.length_cons, List.length_nil]; omega)) ?_) | (refine x_tupPD (by first | with_unfolding_all decide | (simp only [BIG, List.length_cons, List.length_nil]; omega)) ?_) | (refine x_lstK ?_) | (refine x_lstD (by first | with_unfolding_all decide | (simp only [BIG, List.length_cons, List.length_nil]; omega)) ?_)
  | (refine x_dct ?_) | (refine x_fzS ?_) | (refine x_fzOwn ?_) | (refine x_val ?_)
  | (refine x_callK ?_) | (refine x_callD (by first | (dsimp only [pickD_cons, pickD_nil, List.cons_append, List.nil_append, List.append_nil, gD0, gDs]; done) | (dsimp only [pickD_cons, pickD_nil, List.cons_append, List.nil_append, List.append_nil, gD0, gDs]; exact rfl)) ?_)
  | (refine x_bc ?_) | (refine x_min2 ?_) | (refine x_max2 ?_)
  | (refine x_seq ?_) | (refine x_next ?_) | (refine x_brk ?_) | (refine x_cont ?_) | (refine x_drop ?_) | (refine x_ret ?_) | (refine x_retN ?_) | (refine x_if ?_)
  | (refine x_asgK ?_) | (refine x_setK (by first | (dsimp only [List.set_cons_zero, List.set_cons_succ]; done) | (dsimp only [List.set_cons_zero, List.set_cons_succ]; exact rfl)) ?_)
  | (refine x_asgT ?_) | (refine x_gN (by first | (dsimp only [List.set_cons_zero, List.set_cons_succ]; done) | (dsimp only [List.set_cons_zero, List.set_cons_succ]; exact rfl)) ?_) | (refine x_gsN ?_) | (refine x_gsC ?_) | (refine x_gT (by with_unfolding_all rfl) ?_)
  | (refine x_mNil ?_) | (refine x_mCons ?_) | (refine x_parK ?_) | (refine x_parD (by with_unfolding_all rfl) (by first | (dsimp only [setS, List.set_cons_zero, List.set_cons_succ]; done) | (dsimp only [setS, List.set_cons_zero, List.set_cons_succ]; exact rfl)) ?_)
  | (refine x_for ?_) | (refine x_rg1 ?_) | (refine x_rg2 ?_) | (refine x_rg1K (by omega) ?_) | (refine x_rg2K (by omega) ?_)
  | (refine x_andV ?_) | (refine x_orV ?_) | (refine x_notV ?_) | (refine x_andK ?_) | (refine x_orK ?_) | (refine x_notK ?_)
  | (refine x_addI ?_) | (refine x_ixL (by with_unfolding_all rfl) ?_) | (refine x_ixT (by with_unfolding_all rfl) ?_) | (refine x_slT ?_) | (refine x_oNo ?_) | (refine x_oInt ?_) | (refine x_oIntK ?_)
  | (refine x_vbc ?_) | (refine x_lenT ?_) | (refine x_lenL ?_) | (refine x_lenO1 (by with_unfolding_all rfl) ?_) | (refine x_lenO2 ?_) | (refine x_ixO1 (by with_unfolding_all rfl) ?_) | (refine x_ixO2 ?_)
  | (refine x_mt (by with_unfolding_all rfl) ?_) | (refine x_fld ?_) | (refine x_fldS ?_) | (refine x_fldP (by with_unfolding_all rfl) ?_) | (refine x_fldSK (by with_unfolding_all rfl) ?_) | (refine x_fldK (by with_unfolding_all rfl) ?_) | (refine x_selfS ?_)
  | (refine x_selfK (by with_unfolding_all rfl) (by with_unfolding_all decide) (by first | (dsimp only [List.set_cons_zero, List.set_cons_succ, List.cons_append, List.nil_append]; done) | (dsimp only [List.set_cons_zero, List.set_cons_succ, List.cons_append, List.nil_append]; exact rfl)) ?_)
  | (refine x_endI (by with_unfolding_all rfl) ?_) | (refine x_lenI ?_) | (refine x_lenK2 ?_) | (refine x_isi_NoneType_int ?_) | (refine x_isi_NoneType_bool ?_) | (refine x_isi_NoneType_str ?_) | (refine x_isi_NoneType_tuple ?_) | (refine x_isi_NoneType_list ?_) | (refine x_isi_bool_int ?_) | (refine x_isi_bool_bool ?_) | (refine x_isi_bool_str ?_) | (refine x_isi_bool_tuple ?_) | (refine x_isi_bool_list ?_) | (refine x_isi_int_int ?_) | (refine x_isi_int_bool ?_) | (refine x_isi_int_str ?_) | (refine x_isi_int_tuple ?_) | (refine x_isi_int_list ?_) | (refine x_isi_str_int ?_) | (refine x_isi_str_bool ?_) | (refine x_isi_str_str ?_) | (refine x_isi_str_tuple ?_) | (refine x_isi_str_list ?_) | (refine x_isi_tuple_int ?_) | (refine x_isi_tuple_bool ?_) | (refine x_isi_tuple_str ?_) | (refine x_isi_tuple_tuple ?_) | (refine x_isi_tuple_list ?_) | (refine x_isi_list_int ?_) | (refine x_isi_list_bool ?_) | (refine x_isi_list_str ?_) | (refine x_isi_list_tuple ?_) | (refine x_isi_list_list ?_)
  | (refine x_tupleT ?_) | (refine x_sumT ?_) | (refine x_sumL ?_) | (refine x_allL ?_) | (refine x_intI ?_) | (refine x_intB ?_) | (refine x_abs ?_) | (refine x_divmod (by omega) ?_)
  | (refine x_lcS ?_) | (refine x_lcK (by with_unfolding_all rfl) (by first | (dsimp only [wipeR, List.set_cons_zero, List.set_cons_succ]; done) | (dsimp only [wipeR, List.set_cons_zero, List.set_cons_succ]; exact rfl)) ?_) | (refine x_iseqS ?_) | (refine x_iseqD ?_) | (refine x_itupS ?_) | (refine x_itupD ?_) | (refine x_chain ?_) | (refine x_chK ?_)
  | (refine x_rgL1 ?_) | (refine x_rgL2 ?_) | (refine x_rg1LK (by omega) ?_) | (refine x_rg2LK (by omega) ?_)
  | (refine x_sfz (by first | (simp only [fzR, S.toD, List.getElem?_cons_zero, List.getElem?_cons_succ, List.set_cons_zero, List.set_cons_succ]; done) | (simp only [fzR, S.toD, List.getElem?_cons_zero, List.getElem?_cons_succ, List.set_cons_zero, List.set_cons_succ]; exact rfl)) ?_)
  | (refine x_zpS ?_) | (refine x_zp ?_) | (refine x_zpNT ?_) | (refine x_zpNL ?_) | (refine x_enm ?_) | (refine x_enmK ?_) | (refine x_gTp (by with_unfolding_all rfl) ?_))
def lower (o p : Option Int) : Int := match o, p with
  | none, none => 0
  | none, some _ => -1
  | some _, none => 1
  | some a, some b => (if a < b then 1 else 0) - (if b < a then 1 else 0)
def won (l m : List (Option Int)) : List Int := (l.zip m).map fun p => lower p.1 p.2
def absI (i : Int) : Int := if i < 0 then -i else i
def t3 (p : Int × Int × Int) : D := .tup [.int p.1, .int p.2.1, .int p.2.2]
end CS
set_option maxHeartbeats 4000000
/-! DL25: a * b of ints, or of a tuple and an int. -/
namespace DL
open PySem PySem.Spec PyProof.Rows L2
end DL
set_option maxHeartbeats 4000000
/-! DZ4: enumerate over a tuple. -/
namespace DL
open PySem PySem.Spec PyProof.Rows L2
variable [DL.TabC]
section
variable {X : Cx} {tg e e2 : Expr} {τ τa τb : TD} {pos p tpos : Pos} {elts : List Expr} {kk : Nat} {x : Str}
def enmTK (k : List D → Rho → Prop) : KE := fun d ρ' => match d with
  | .tup ds => k (enumD ds) ρ'
  | _ => False
def iEnmT (τ : TD) : TDi := fun ρ kx k => τ ρ kx (enmTK k)
theorem x_enmT {ρ : Rho} {kx : KX} {k : List D → Rho → Prop} (h : τ ρ kx (enmTK k)) : iEnmT τ ρ kx k := h
theorem x_enmTK {ρ : Rho} {k : List D → Rho → Prop} {ds : List D} (h : k (enumD ds) ρ) : enmTK k (.tup ds) ρ := h
end
end DL
set_option maxHeartbeats 4000000
/-! DL26: index and count of lists and tuples with flat items. -/
namespace DL
open PySem PySem.Spec PyProof.Rows L2
variable [TabC]
section
variable {X : Cx}
def rIndexT (K : PySem.W.Frag) : V → List V → Hp → VK → Prop := fun x xs H Q => ∃ (a : Addr) (ys : List V) (y : V) (j : Nat) (z : V), x = V.ref a ∧ xs = [y] ∧ SqT K H a ys ∧ flatV y = true ∧ ys.all flatV = true ∧ ys[j]? = some z ∧ eqV z y = true ∧
  (∀ (m : Nat) (z' : V), m < j → ys[m]? = some z' → eqV z' y = false) ∧ Q (.int (j : Nat)) H
theorem mt_indexT : MtR X "tuple.index" (rIndexT X.K) := by
  intro pins s σ H x xs v us Q I rx rxs h
  obtain ⟨a, ys, y, j, z, rfl, rfl, hs, fy, fys, hz, hzj, hno, q⟩ := h
  cases rx
  cases rxs with
  | cons ry rt =>
    rename_i uy ut
    cases rt
    obtain ⟨its, rv, pl, hlen⟩ := I.tuple hs
    obtain ⟨⟨cls, dd, data, sl⟩, ho, hc, n, hd⟩ := pl
    simp only at hc hd
    subst hc hd
    obtain ⟨u, hu, ru⟩ := rv.get hz
    obtain ⟨hjl, hje⟩ := List.getElem?_eq_some_iff.mp hu
    have hvl := rv.length
    have hj : j < its.toArray.size := by simpa using hjl
    refine call_meets PySem.F.slot_tuple_index ⟨_, ho, rfl⟩ PySem.F.entry_tuple_index (PySem.F.args_tuple_index_2 _ _)
      (TI.tuple_indexAt a its.toArray n dd sl uy (eqU y) j hj ?_ ?_) ⟨ho, fun u' hu' => mem_eqAt ry fy rv fys u' (by simpa using hu'), ?_⟩
    · have e1 : its.toArray[j] = u := by simpa using hje
      rw [e1, eqU_of ru (flat_at fys hz)]
      exact hzj
    · intro m hm hmj
      have hml : m < its.length := by simpa using hm
      have hmy : m < ys.length := by omega
      have hy' : ys[m]? = some ys[m] := List.getElem?_eq_getElem hmy
      obtain ⟨u2, hu2, ru2⟩ := rv.get hy'
      obtain ⟨_, hme⟩ := List.getElem?_eq_some_iff.mp hu2
      have e1 : its.toArray[m] = u2 := by simpa using hme
      rw [e1, eqU_of ru2 (flat_at fys hy')]
      exact hno m _ hmj hy'
    · exact ⟨.int (j : Nat), H, I.tok _, ⟨_, rfl⟩, q⟩
theorem countU {y : V} : ∀ {ys : List V} {us : List Value}, Vals ys us → ys.all flatV = true → us.countP (eqU y) = ys.countP fun z => eqV z y
  | [], _, .nil, _ => rfl
  | x :: ys, u :: us, .cons r t, f => by
    rw [List.all_cons, Bool.and_eq_true] at f
    rw [List.countP_cons, List.countP_cons, countU t f.2, eqU_of r f.1]
def rCountL (K : PySem.W.Frag) : V → List V → Hp → VK → Prop := fun x xs H Q => ∃ (a : Addr) (ys : List V) (y : V), x = V.ref a ∧ xs = [y] ∧ SqL K H a ys ∧ flatV y = true ∧ ys.all flatV = true ∧ Q (.int (ys.countP fun z => eqV z y : Nat)) H
theorem mt_countL : MtR X "list.count" (rCountL X.K) := by
  intro pins s σ H x xs v us Q I rx rxs h
  obtain ⟨a, ys, y, rfl, rfl, hs, fy, fys, q⟩ := h
  cases rx
  cases rxs with
  | cons ry rt =>
    rename_i uy ut
    cases rt
    obtain ⟨its, rv, ⟨⟨cls, dd, data, sl⟩, n, ho, hc, hdn, hd⟩, hlen⟩ := I.list hs
    simp only at hc hd
    subst hc hd
    refine call_meets PySem.F.slot_list_count ⟨_, ho, rfl⟩ PySem.F.entry_list_count (PySem.F.args_list_count_2 _ _)
      (SeqAt.list_countAt a its.toArray n dd sl uy (eqU y)) ⟨ho, fun u' hu' => mem_eqAt ry fy rv fys u' (by simpa using hu'), ?_⟩
    rw [countU rv fys]
    exact ⟨.int _, H, I.tok _, ⟨_, rfl⟩, q⟩
def tyF (x : V) (H : Hp) : Prop := ∃ p o xs, x = .ref p ∧ plainT o ∧ H p = some (.frz o (.tup xs))
theorem tyF_is {pins : List (Addr × Obj)} {σ : L2.St} {H : Hp} {s : Shared} {x : V} {v : Value} (I : Inv X pins σ H s) (r : RelV x v) (ty : tyF x H) :
    s.TypeIs v "tuple" ∧ ∀ a, v = .ref a → ∃ ob, s.heap.get? a = some ob ∧ ob.dict = none := by
  obtain ⟨p, o, xs, rfl, ho, h⟩ := ty
  cases r
  obtain ⟨e, _⟩ := I.hok p _ h
  exact ⟨⟨o, e, ho.2⟩, fun a e2 => by cases e2; exact ⟨o, e, ho.1⟩⟩
def tFM (r : V → List V → Hp → VK → Prop) (to : TE) (t : TA) : TE := fun σ H Q => to σ H fun x H1 => tyF x H1 ∧ t σ H1 fun xs H2 => r x xs H2 Q
variable {o e : Expr} {es : List Expr} {to : TE} {t : TA} {name : Str} {apos cpos : Pos} {id : String} {r : V → List V → Hp → VK → Prop}
theorem pe_fm (slot : Slot "tuple" name id) (hty : typeOf (.builtin id) = pure (.type "method_descriptor")) (hm : MtR X id r) (ho : PE X o to) (ha : PA X (e :: es) t)
    (hbase : attributeBase o name X.env (eval o X.env) = eval o X.env := by rfl)
    (hfew : ((backTo cpos (starEach (e :: es) X.env)).all (fun x => !x.1) && (backToKw cpos (keywordEach [] X.env)).all (fun x => x.1.isSome)
      && decide ((e :: es).length + ([] : List Keyword).length + (if ([] : List Keyword).isEmpty then 0 else 1) < 30)) = true := by rfl)
    (hline : (apos.endLine == cpos.line) = true := by rfl) (hs : starEach (e :: es) X.env = (false, eval e X.env) :: starEach es X.env := by rfl) (hplain : (backTo cpos (starEach es X.env)).any (·.1) = false := by rfl) :
    PE X (.Call (.Attribute o name apos) (e :: es) [] cpos) (tFM r to t) := by
  refine ⟨fun pins s σ H Q I h => ?_⟩
  refine wpAny_Call_method_late hbase hfew hline rfl (thn (ho.run pins s σ H _ I h) fun v s1 ⟨x, H1, I1, r1, ty, q1⟩ => ?_)
  obtain ⟨h1, h2⟩ := tyF_is I1 r1 ty
  refine ⟨"tuple", id, PySem.F.plainAttrs_tuple, slot, hty, h1, h2, ?_⟩
  have hA := ha.run cpos pins s1 σ H1 _ I1 q1
  rw [hs] at hA ⊢
  refine Calls.callWith_builtin (by show (false || (backTo cpos (starEach es X.env)).any (·.1)) = false; rw [hplain] <;> rfl) (Calls.evalArgs_plain ?_)
  exact thn hA fun us s2 ⟨vs, H2, I2, r2, q2⟩ => hm pins s2 σ H2 x vs v us Q I2 r1 r2 q2
end
/-! by data -/
def eqf (x y : D) : Bool := eqV (vOf x) (vOf y)
abbrev GQ := List D → D → (D → Prop) → Prop
def gIndexF : GQ := fun ds d k => flatD d = true ∧ ds.all flatD = true ∧ ∃ (j : Nat) (z : D), ds[j]? = some z ∧ eqf z d = true ∧ (∀ (m : Nat) (z' : D), m < j → ds[m]? = some z' → eqf z' d = false) ∧ k (.int (j : Nat))
def gCountF : GQ := fun ds d k => flatD d = true ∧ ds.all flatD = true ∧ k (.int (ds.countP fun z => eqf z d : Nat))
def QmL (X : Cx) (r : V → List V → Hp → VK → Prop) (g : GQ) : Prop := ∀ (W : Wd) (H : Hp) (a : Addr) (ds : List D) (d : D) (ws : List V) (v : V) (k : D → Prop) (Q : VK), SqL X.K H a ws → DVs X.K X.mg W ds ws → DV X.K X.mg W d v → g ds d k → (∀ z u, k z → DV X.K X.mg W z u → Q u H) → r (.ref a) [v] H Q
def QmT (X : Cx) (r : V → List V → Hp → VK → Prop) (g : GQ) : Prop := ∀ (W : Wd) (H : Hp) (a : Addr) (ds : List D) (d : D) (ws : List V) (v : V) (k : D → Prop) (Q : VK), SqT X.K H a ws → DVs X.K X.mg W ds ws → DV X.K X.mg W d v → g ds d k → (∀ z u, k z → DV X.K X.mg W z u → Q u H) → r (.ref a) [v] H Q
section
variable {X : Cx} {o e : Expr} {es : List Expr} {τ : TD} {τs : TDa} {name : Str} {apos cpos p : Pos} {x : Str} {id : String} {r : V → List V → Hp → VK → Prop} {g : GQ}
theorem ix_core {K : PySem.W.Frag} {mg : Str → Option Value} {W : Wd} {ds : List D} {d : D} {ws : List V} {v : V} {k : D → Prop} {Q : VK} {H : Hp} (dw : DVs K mg W ds ws) (dv : DV K mg W d v) (h : gIndexF ds d k) (hQ : ∀ z u, k z → DV K mg W z u → Q u H) :
    ∃ (j : Nat) (z : V), flatV v = true ∧ ws.all flatV = true ∧ ws[j]? = some z ∧ eqV z v = true ∧ (∀ (m : Nat) (z' : V), m < j → ws[m]? = some z' → eqV z' v = false) ∧ Q (.int (j : Nat)) H := by
  obtain ⟨f1, f2, j, z, hz, he, hn, hk⟩ := h
  obtain ⟨rfl, g1⟩ := vOf_of f1 dv
  obtain ⟨rfl, g2⟩ := vOfs_of f2 dw
  refine ⟨j, vOf z, g1, g2, by rw [List.getElem?_map, hz]; rfl, he, fun m z' hm hz' => ?_, hQ _ _ hk (by simp only [DV])⟩
  rw [List.getElem?_map] at hz'
  obtain ⟨w, hw, rfl⟩ := Option.map_eq_some_iff.mp hz'
  exact hn m w hm hw
theorem qm_indexL : QmL X (rIndex X.K) gIndexF := fun W H a ds d ws v k Q hs dw dv h hQ => by
  obtain ⟨j, z, h1, h2, h3, h4, h5, h6⟩ := ix_core dw dv h hQ
  exact ⟨a, ws, v, j, z, rfl, rfl, hs, h1, h2, h3, h4, h5, h6⟩
theorem qm_indexT : QmT X (rIndexT X.K) gIndexF := fun W H a ds d ws v k Q hs dw dv h hQ => by
  obtain ⟨j, z, h1, h2, h3, h4, h5, h6⟩ := ix_core dw dv h hQ
  exact ⟨a, ws, v, j, z, rfl, rfl, hs, h1, h2, h3, h4, h5, h6⟩
theorem ct_core {K : PySem.W.Frag} {mg : Str → Option Value} {W : Wd} {ds : List D} {d : D} {ws : List V} {v : V} {k : D → Prop} {Q : VK} {H : Hp} (dw : DVs K mg W ds ws) (dv : DV K mg W d v) (h : gCountF ds d k) (hQ : ∀ z u, k z → DV K mg W z u → Q u H) :
    flatV v = true ∧ ws.all flatV = true ∧ Q (.int (ws.countP fun z => eqV z v : Nat)) H := by
  obtain ⟨f1, f2, hk⟩ := h
  obtain ⟨rfl, g1⟩ := vOf_of f1 dv
  obtain ⟨rfl, g2⟩ := vOfs_of f2 dw
  refine ⟨g1, g2, ?_⟩
  rw [List.countP_map]
  exact hQ _ _ hk (by simp only [DV]; rfl)
theorem qm_countL : QmL X (rCountL X.K) gCountF := fun W H a ds d ws v k Q hs dw dv h hQ => by
  obtain ⟨h1, h2, h6⟩ := ct_core dw dv h hQ
  exact ⟨a, ws, v, rfl, rfl, hs, h1, h2, h6⟩
def mvK (g : GQ) (k : KE) (d : D) : List D → Rho → Prop := fun as ρ2 => match d, as with
  | .lst ds, [x] => g ds x fun z => k z ρ2
  | _, _ => False
def mvtK (g : GQ) (k : KE) (d : D) : List D → Rho → Prop := fun as ρ2 => match d, as with
  | .ptp ds, [x] => g ds x fun z => k z ρ2
  | _, _ => False
def isLst (d : D) : Prop := ∃ ds, d = .lst ds
def isPtp (d : D) : Prop := ∃ ds, d = .ptp ds
def dMv (g : GQ) (τ : TD) (τs : TDa) : TD := fun ρ kx k => τ ρ kx fun d ρ1 => isLst d ∧ τs ρ1 kx (mvK g k d)
def dMvT (g : GQ) (τ : TD) (τs : TDa) : TD := fun ρ kx k => τ ρ kx fun d ρ1 => isPtp d ∧ τs ρ1 kx (mvtK g k d)
theorem pd_mv (slot : Slot "list" name id) (hty : typeOf (.builtin id) = pure (.type "method_descriptor")) (hm : MtR X id r) (q : QmL X r g) (ho : PEd X o τ) (ha : PAd X (e :: es) τs)
    (hbase : attributeBase o name X.env (eval o X.env) = eval o X.env := by rfl)
    (hfew : ((backTo cpos (starEach (e :: es) X.env)).all (fun x => !x.1) && (backToKw cpos (keywordEach [] X.env)).all (fun x => x.1.isSome) && decide ((e :: es).length + ([] : List Keyword).length + (if ([] : List Keyword).isEmpty then 0 else 1) < 30)) = true := by rfl)
    (hline : (apos.endLine == cpos.line) = true := by rfl) (hs : starEach (e :: es) X.env = (false, eval e X.env) :: starEach es X.env := by rfl) (hplain : (backTo cpos (starEach es X.env)).any (·.1) = false := by rfl) :
    PEd X (.Call (.Attribute o name apos) (e :: es) [] cpos) (dMv g τ τs) :=
  ⟨PE.imp (pe_bm PySem.F.plainAttrs_list slot hty hm ho.p ha.p hbase hfew hline hs hplain) fun σ H Q ⟨W, F, ρ, kx, k, tk, R, h, hQ⟩ => ⟨W, F, ρ, kx, _, tk, R, h, fun d ρ1 v1 H1 W1 ⟨⟨ds, ed⟩, h1⟩ le1 R1 d1 => by
    subst ed
    simp only [DV] at d1
    obtain ⟨a, vs, rfl, g1, l, dw⟩ := d1
    refine ⟨.inl ⟨rfl, vs, .inl (.inl (R1.w.g _ _ g1))⟩, W1, F, ρ1, kx, _, tk.mono le1, R1, h1, fun as ρ2 ws H2 W2 h2 le2 R2 d2 => ?_⟩
    match as, h2, d2 with
    | [x], h2, d2 =>
      obtain ⟨v, rfl, dv⟩ := dvs1 d2
      exact q W2 H2 a ds x vs v _ Q (.inl (.inl (R2.w.g _ _ (le2.g _ _ g1)))) (DVs.mono le2 _ _ dw) dv h2 fun z u hk du => hQ z ρ2 u H2 W2 hk (le1.trans le2) R2 du⟩⟩
theorem pd_mvT (slot : Slot "tuple" name id) (hty : typeOf (.builtin id) = pure (.type "method_descriptor")) (hm : MtR X id r) (q : QmT X r g) (ho : PEd X o τ) (ha : PAd X (e :: es) τs)
    (hbase : attributeBase o name X.env (eval o X.env) = eval o X.env := by rfl)
    (hfew : ((backTo cpos (starEach (e :: es) X.env)).all (fun x => !x.1) && (backToKw cpos (keywordEach [] X.env)).all (fun x => x.1.isSome) && decide ((e :: es).length + ([] : List Keyword).length + (if ([] : List Keyword).isEmpty then 0 else 1) < 30)) = true := by rfl)
    (hline : (apos.endLine == cpos.line) = true := by rfl) (hs : starEach (e :: es) X.env = (false, eval e X.env) :: starEach es X.env := by rfl) (hplain : (backTo cpos (starEach es X.env)).any (·.1) = false := by rfl) :
    PEd X (.Call (.Attribute o name apos) (e :: es) [] cpos) (dMvT g τ τs) :=
  ⟨PE.imp (pe_fm slot hty hm ho.p ha.p hbase hfew hline hs hplain) fun σ H Q ⟨W, F, ρ, kx, k, tk, R, h, hQ⟩ => ⟨W, F, ρ, kx, _, tk, R, h, fun d ρ1 v1 H1 W1 ⟨⟨ds, ed⟩, h1⟩ le1 R1 d1 => by
    subst ed
    simp only [DV] at d1
    obtain ⟨a, ob, vs, rfl, p1, p2, g1, l, dw⟩ := d1
    refine ⟨⟨a, ob, vs, rfl, ⟨p1, p2⟩, R1.w.g _ _ g1⟩, W1, F, ρ1, kx, _, tk.mono le1, R1, h1, fun as ρ2 ws H2 W2 h2 le2 R2 d2 => ?_⟩
    match as, h2, d2 with
    | [x], h2, d2 =>
      obtain ⟨v, rfl, dv⟩ := dvs1 d2
      exact q W2 H2 a ds x vs v _ Q (.inl (.inr ⟨ob, R2.w.g _ _ (le2.g _ _ g1)⟩)) (DVs.mono le2 _ _ dw) dv h2 fun z u hk du => hQ z ρ2 u H2 W2 hk (le1.trans le2) R2 du⟩⟩
end
/-! steps -/
section
variable {ρ ρ' : Rho} {kx : KX} {k : KE} {kd : D → Prop} {τ : TD} {τs : TDa} {g : GQ} {ds : List D} {d : D}
theorem x_mv (h : τ ρ kx fun d ρ1 => isLst d ∧ τs ρ1 kx (mvK g k d)) : dMv g τ τs ρ kx k := h
theorem x_mvT (h : τ ρ kx fun d ρ1 => isPtp d ∧ τs ρ1 kx (mvtK g k d)) : dMvT g τ τs ρ kx k := h
theorem x_isLst {A : Prop} (h : A) : isLst (.lst ds) ∧ A := ⟨⟨ds, rfl⟩, h⟩
theorem x_isPtp {A : Prop} (h : A) : isPtp (.ptp ds) ∧ A := ⟨⟨ds, rfl⟩, h⟩
theorem x_mvK (h : g ds d fun z => k z ρ) : mvK g k (.lst ds) [d] ρ := h
theorem x_mvtK (h : g ds d fun z => k z ρ) : mvtK g k (.ptp ds) [d] ρ := h
theorem eqf_int (a b : Int) : eqf (.int a) (.int b) = decide (a = b) := by
  show (a == b) = decide (a = b)
  by_cases h : a = b
  · subst h; simp
  · simp [h]
theorem flat_ints (l : List Int) : (l.map D.int).all flatD = true := by rw [List.all_map, List.all_eq_true]; exact fun _ _ => rfl
theorem x_gaddI {i j : Int} (h : kd (.int (i + j))) : gAddI (.int i) (.int j) kd := ⟨trivial, h⟩
def setVK (i : Nat) (n : Rho → Prop) (ρ : Rho) : D → Prop := fun z => n (ρ.set i (.val z))
def augK (i : Nat) (d : D) (g : G2) (n : Rho → Prop) : KE := fun y ρ1 => ρ1[i]? = some (.val d) ∧ g d y (setVK i n ρ1)
theorem x_aug {i : Nat} {g : G2} {n b c : Rho → Prop} {r : D → Rho → Prop} (e : ρ[i]? = some (.val d)) (h : τ ρ kx (augK i d g n)) : sAug i g τ ρ kx ⟨n, r, b, c⟩ := ⟨d, e, h⟩
theorem x_augK {i : Nat} {g : G2} {n : Rho → Prop} {y : D} (e : ρ[i]? = some (.val d)) (h : g d y (setVK i n ρ)) : augK i d g n y ρ := ⟨e, h⟩
theorem x_setVK {i : Nat} {n : Rho → Prop} (e : ρ.set i (.val d) = ρ') (h : n ρ') : setVK i n ρ d := by unfold setVK; rw [e]; exact h
def augIxL (i : Nat) (ds : List D) (d : D) (j : Nat) (g : G2) (n : Rho → Prop) : KE := fun y ρ2 => ρ2[i]? = some (.own ds) ∧ g d y fun z => n (ρ2.set i (.own (ds.set j z)))
def augIxK (i : Nat) (g : G2) (τ : TD) (kx : KX) (n : Rho → Prop) : KE := fun j ρ1 => ∃ m ds d, j = .int m ∧ ρ1[i]? = some (.own ds) ∧ 0 ≤ m ∧ ds[m.toNat]? = some d ∧ τ ρ1 kx (augIxL i ds d m.toNat g n)
theorem x_augIx {i : Nat} {τi : TD} {g : G2} {n b c : Rho → Prop} {r : D → Rho → Prop} (e : ρ[i]? = some (.own ds)) (h : τi ρ kx (augIxK i g τ kx n)) : sAugIx i τi g τ ρ kx ⟨n, r, b, c⟩ := ⟨⟨ds, e⟩, h⟩
theorem x_indexI {l : List Int} {a : Int} {j : Nat} (h1 : l[j]? = some a) (h2 : ∀ (m : Nat), m < j → l[m]? ≠ some a) (h : kd (.int (j : Nat))) : gIndexF (l.map D.int) (.int a) kd := by
  refine ⟨rfl, flat_ints l, j, .int a, by rw [List.getElem?_map, h1]; rfl, by rw [eqf_int]; simp, fun m z' hm hz => ?_, h⟩
  rw [List.getElem?_map] at hz
  obtain ⟨b, hb, rfl⟩ := Option.map_eq_some_iff.mp hz
  rw [eqf_int]
  exact decide_eq_false fun e => h2 m hm (e ▸ hb)
end
end DL
set_option maxHeartbeats 4000000
/-! DL27: common lemmas of the plain laws. -/
namespace CS
open PySem PySem.Spec PyProof.Rows L2 DL
end CS
set_option maxHeartbeats 4000000
namespace CS
open PySem PySem.Spec PyProof.Rows L2 DL
local macro_rules | `(tactic| sizeOf_list_dec) => `(tactic| with_reducible first
  | (refine x_varP (by with_unfolding_all rfl) ?_) | (refine x_var (by with_unfolding_all rfl) ?_) | (refine x_varS (by with_unfolding_all rfl) ?_)
  | (refine x_C ?_) | (refine x_op ?_) | (refine x_un ?_) | (refine x_sub ?_)
  | (refine x_mul (by first | with_unfolding_all decide | (unfold CMul; omega)) ?_) | (refine x_mult (by first | with_unfolding_all decide | (unfold CMul; omega)) ?_)
  | (refine x_div (by unfold CDivN; omega) ?_) | (refine x_mod (by omega) ?_) | (refine x_add ?_) | (refine x_lt ?_) | (refine x_ltI ?_) | (refine x_leI ?_) | (refine x_gtI ?_) | (refine x_geI ?_)
  | (refine x_is ?_) | (refine x_notis ?_) | (refine x_neg ?_) | (refine x_eqI ?_) | (refine x_neI ?_)
  | (refine x_dtestK ?_) | (refine x_testK ?_) | (refine x_and ?_) | (refine x_or ?_) | (refine x_not ?_) | (refine x_dif ?_)
  | (refine x_T ?_) | (refine x_F ?_) | (refine x_nT ?_) | (refine x_nF ?_)
  | (refine x_nil ?_) | (refine x_cons ?_) | (refine x_cntK ?_) | (refine x_lens (by with_unfolding_all rfl) ?_)
  | (refine x_tupK ?_) | (refine x_tupD (by first | with_unfolding_all decide | (simp only [BIG, List.length_cons, List.length_nil]; omega)) ?_) | (refine x_tupPD (by first | with_unfolding_all decide | (simp only [BIG, List.length_cons, List.length_nil]; omega)) ?_) | (refine x_lstK ?_) | (refine x_lstD (by first | with_unfolding_all decide | (simp only [BIG, List.length_cons, List.length_nil]; omega)) ?_)
  | (refine x_dct ?_) | (refine x_fzS ?_) | (refine x_fzOwn ?_) | (refine x_val ?_)
  | (refine x_callK ?_) | (refine x_callD (by first | (dsimp only [pickD_cons, pickD_nil, List.cons_append, List.nil_append, List.append_nil, gD0, gDs]; done) | (dsimp only [pickD_cons, pickD_nil, List.cons_append, List.nil_append, List.append_nil, gD0, gDs]; exact rfl)) ?_)
  | (refine x_bc ?_) | (refine x_min2 ?_) | (refine x_max2 ?_)
  | (refine x_seq ?_) | (refine x_next ?_) | (refine x_brk ?_) | (refine x_cont ?_) | (refine x_drop ?_) | (refine x_ret ?_) | (refine x_retN ?_) | (refine x_if ?_)
  | (refine x_asgK ?_) | (refine x_setK (by first | (dsimp only [List.set_cons_zero, List.set_cons_succ]; done) | (dsimp only [List.set_cons_zero, List.set_cons_succ]; exact rfl)) ?_)
  | (refine x_asgT ?_) | (refine x_gN (by first | (dsimp only [List.set_cons_zero, List.set_cons_succ]; done) | (dsimp only [List.set_cons_zero, List.set_cons_succ]; exact rfl)) ?_) | (refine x_gsN ?_) | (refine x_gsC ?_) | (refine x_gT (by with_unfolding_all rfl) ?_)
  | (refine x_mNil ?_) | (refine x_mCons ?_) | (refine x_parK ?_) | (refine x_parD (by with_unfolding_all rfl) (by first | (dsimp only [setS, List.set_cons_zero, List.set_cons_succ]; done) | (dsimp only [setS, List.set_cons_zero, List.set_cons_succ]; exact rfl)) ?_)
  | (refine x_for ?_) | (refine x_rg1 ?_) | (refine x_rg2 ?_) | (refine x_rg1K (by omega) ?_) | (refine x_rg2K (by omega) ?_)
  | (refine x_andV ?_) | (refine x_orV ?_) | (refine x_notV ?_) | (refine x_andK ?_) | (refine x_orK ?_) | (refine x_notK ?_)
  | (refine x_addI ?_) | (refine x_ixL (by with_unfolding_all rfl) ?_) | (refine x_ixT (by with_unfolding_all rfl) ?_) | (refine x_slT ?_) | (refine x_oNo ?_) | (refine x_oInt ?_) | (refine x_oIntK ?_)
  | (refine x_vbc ?_) | (refine x_lenT ?_) | (refine x_lenL ?_) | (refine x_lenO1 (by with_unfolding_all rfl) ?_) | (refine x_lenO2 ?_) | (refine x_ixO1 (by with_unfolding_all rfl) ?_) | (refine x_ixO2 ?_)
  | (refine x_mt (by with_unfolding_all rfl) ?_) | (refine x_fld ?_) | (refine x_fldS ?_) | (refine x_fldP (by with_unfolding_all rfl) ?_) | (refine x_fldSK (by with_unfolding_all rfl) ?_) | (refine x_fldK (by with_unfolding_all rfl) ?_) | (refine x_selfS ?_)
  | (refine x_selfK (by with_unfolding_all rfl) (by with_unfolding_all decide) (by first | (dsimp only [List.set_cons_zero, List.set_cons_succ, List.cons_append, List.nil_append]; done) | (dsimp only [List.set_cons_zero, List.set_cons_succ, List.cons_append, List.nil_append]; exact rfl)) ?_)
  | (refine x_endI (by with_unfolding_all rfl) ?_) | (refine x_lenI ?_) | (refine x_lenK2 ?_) | (refine x_isi_NoneType_int ?_) | (refine x_isi_NoneType_bool ?_) | (refine x_isi_NoneType_str ?_) | (refine x_isi_NoneType_tuple ?_) | (refine x_isi_NoneType_list ?_) | (refine x_isi_bool_int ?_) | (refine x_isi_bool_bool ?_) | (refine x_isi_bool_str ?_) | (refine x_isi_bool_tuple ?_) | (refine x_isi_bool_list ?_) | (refine x_isi_int_int ?_) | (refine x_isi_int_bool ?_) | (refine x_isi_int_str ?_) | (refine x_isi_int_tuple ?_) | (refine x_isi_int_list ?_) | (refine x_isi_str_int ?_) | (refine x_isi_str_bool ?_) | (refine x_isi_str_str ?_) | (refine x_isi_str_tuple ?_) | (refine x_isi_str_list ?_) | (refine x_isi_tuple_int ?_) | (refine x_isi_tuple_bool ?_) | (refine x_isi_tuple_str ?_) | (refine x_isi_tuple_tuple ?_) | (refine x_isi_tuple_list ?_) | (refine x_isi_list_int ?_) | (refine x_isi_list_bool ?_) | (refine x_isi_list_str ?_) | (refine x_isi_list_tuple ?_) | (refine x_isi_list_list ?_)
  | (refine x_tupleT ?_) | (refine x_sumT ?_) | (refine x_sumL ?_) | (refine x_allL ?_) | (refine x_intI ?_) | (refine x_intB ?_) | (refine x_abs ?_) | (refine x_divmod (by omega) ?_)
  | (refine x_lcS ?_) | (refine x_lcK (by with_unfolding_all rfl) (by first | (dsimp only [wipeR, List.set_cons_zero, List.set_cons_succ]; done) | (dsimp only [wipeR, List.set_cons_zero, List.set_cons_succ]; exact rfl)) ?_) | (refine x_iseqS ?_) | (refine x_iseqD ?_) | (refine x_itupS ?_) | (refine x_itupD ?_) | (refine x_chain ?_) | (refine x_chK ?_)
  | (refine x_rgL1 ?_) | (refine x_rgL2 ?_) | (refine x_rg1LK (by omega) ?_) | (refine x_rg2LK (by omega) ?_)
  | (refine x_sfz (by first | (simp only [fzR, S.toD, List.getElem?_cons_zero, List.getElem?_cons_succ, List.set_cons_zero, List.set_cons_succ]; done) | (simp only [fzR, S.toD, List.getElem?_cons_zero, List.getElem?_cons_succ, List.set_cons_zero, List.set_cons_succ]; exact rfl)) ?_)
  | (refine x_mv ?_) | (refine x_mvT ?_) | (refine x_isLst ?_) | (refine x_isPtp ?_) | (refine x_mvK ?_) | (refine x_mvtK ?_)
  | (refine x_zpS ?_) | (refine x_zp ?_) | (refine x_zpNT ?_) | (refine x_zpNL ?_) | (refine x_enm ?_) | (refine x_enmK ?_) | (refine x_enmT ?_) | (refine x_enmTK ?_) | (refine x_gTp (by with_unfolding_all rfl) ?_))
/-! given by hand, hole by hole -/
theorem atI_nat {ds : List D} {j : Nat} {d : D} (h : ds[j]? = some d) : atI ds (j : Nat) = some d := by
  have hl := (List.getElem?_eq_some_iff.mp h).1
  unfold atI ixN
  rw [if_pos (by omega), if_pos (by omega)]
  simpa using h
end CS
set_option maxHeartbeats 4000000
namespace CS
open PySem PySem.Spec PyProof.Rows L2 DL
local macro_rules | `(tactic| sizeOf_list_dec) => `(tactic| with_reducible first
  | (refine x_varP (by with_unfolding_all rfl) ?_) | (refine x_var (by with_unfolding_all rfl) ?_) | (refine x_varS (by with_unfolding_all rfl) ?_)
  | (refine x_C ?_) | (refine x_op ?_) | (refine x_un ?_) | (refine x_sub ?_)
  | (refine x_mul (by first | with_unfolding_all decide | (unfold CMul; omega)) ?_) | (refine x_mult (by first | with_unfolding_all decide | (unfold CMul; omega)) ?_)
  | (refine x_div (by unfold CDivN; omega) ?_) | (refine x_mod (by omega) ?_) | (refine x_add ?_) | (refine x_lt ?_) | (refine x_ltI ?_) | (refine x_leI ?_) | (refine x_gtI ?_) | (refine x_geI ?_)
  | (refine x_is ?_) | (refine x_notis ?_) | (refine x_neg ?_) | (refine x_eqI ?_) | (refine x_neI ?_)
  | (refine x_dtestK ?_) | (refine x_testK ?_) | (refine x_and ?_) | (refine x_or ?_) | (refine x_not ?_) | (refine x_dif ?_)
  | (refine x_T ?_) | (refine x_F ?_) | (refine x_nT ?_) | (refine x_nF ?_)
  | (refine x_nil ?_) | (refine x_cons ?_) | (refine x_cntK ?_) | (refine x_lens (by with_unfolding_all rfl) ?_)
  | (refine x_tupK ?_) | (refine x_tupD (by first | with_unfolding_all decide | (simp only [BIG, List.length_cons, List.length_nil]; omega)) ?_) | (refine x_tupPD (by first | with_unfolding_all decide | (simp only [BIG, List.length_cons, List.length_nil]; omega)) ?_) | (refine x_lstK ?_) | (refine x_lstD (by first | with_unfolding_all decide | (simp only [BIG, List.length_cons, List.length_nil]; omega)) ?_)
  | (refine x_dct ?_) | (refine x_fzS ?_) | (refine x_fzOwn ?_) | (refine x_val ?_)
  | (refine x_callK ?_) | (refine x_callD (by first | (dsimp only [pickD_cons, pickD_nil, List.cons_append, List.nil_append, List.append_nil, gD0, gDs]; done) | (dsimp only [pickD_cons, pickD_nil, List.cons_append, List.nil_append, List.append_nil, gD0, gDs]; exact rfl)) ?_)
  | (refine x_bc ?_) | (refine x_min2 ?_) | (refine x_max2 ?_)
  | (refine x_seq ?_) | (refine x_next ?_) | (refine x_brk ?_) | (refine x_cont ?_) | (refine x_drop ?_) | (refine x_ret ?_) | (refine x_retN ?_) | (refine x_if ?_)
  | (refine x_asgK ?_) | (refine x_setK (by first | (dsimp only [List.set_cons_zero, List.set_cons_succ]; done) | (dsimp only [List.set_cons_zero, List.set_cons_succ]; exact rfl)) ?_)
  | (refine x_asgT ?_) | (refine x_gN (by first | (dsimp only [List.set_cons_zero, List.set_cons_succ]; done) | (dsimp only [List.set_cons_zero, List.set_cons_succ]; exact rfl)) ?_) | (refine x_gsN ?_) | (refine x_gsC ?_) | (refine x_gT (by with_unfolding_all rfl) ?_)
  | (refine x_mNil ?_) | (refine x_mCons ?_) | (refine x_parK ?_) | (refine x_parD (by with_unfolding_all rfl) (by first | (dsimp only [setS, List.set_cons_zero, List.set_cons_succ]; done) | (dsimp only [setS, List.set_cons_zero, List.set_cons_succ]; exact rfl)) ?_)
  | (refine x_for ?_) | (refine x_rg1 ?_) | (refine x_rg2 ?_) | (refine x_rg1K (by omega) ?_) | (refine x_rg2K (by omega) ?_)
  | (refine x_andV ?_) | (refine x_orV ?_) | (refine x_notV ?_) | (refine x_andK ?_) | (refine x_orK ?_) | (refine x_notK ?_)
  | (refine x_addI ?_) | (refine x_ixL (by with_unfolding_all rfl) ?_) | (refine x_ixT (by with_unfolding_all rfl) ?_) | (refine x_slT ?_) | (refine x_oNo ?_) | (refine x_oInt ?_) | (refine x_oIntK ?_)
  | (refine x_vbc ?_) | (refine x_lenT ?_) | (refine x_lenL ?_) | (refine x_lenO1 (by with_unfolding_all rfl) ?_) | (refine x_lenO2 ?_) | (refine x_ixO1 (by with_unfolding_all rfl) ?_) | (refine x_ixO2 ?_)
  | (refine x_mt (by with_unfolding_all rfl) ?_) | (refine x_fld ?_) | (refine x_fldS ?_) | (refine x_fldP (by with_unfolding_all rfl) ?_) | (refine x_fldSK (by with_unfolding_all rfl) ?_) | (refine x_fldK (by with_unfolding_all rfl) ?_) | (refine x_selfS ?_)
  | (refine x_selfK (by with_unfolding_all rfl) (by with_unfolding_all decide) (by first | (dsimp only [List.set_cons_zero, List.set_cons_succ, List.cons_append, List.nil_append]; done) | (dsimp only [List.set_cons_zero, List.set_cons_succ, List.cons_append, List.nil_append]; exact rfl)) ?_)
  | (refine x_endI (by with_unfolding_all rfl) ?_) | (refine x_lenI ?_) | (refine x_lenK2 ?_) | (refine x_isi_NoneType_int ?_) | (refine x_isi_NoneType_bool ?_) | (refine x_isi_NoneType_str ?_) | (refine x_isi_NoneType_tuple ?_) | (refine x_isi_NoneType_list ?_) | (refine x_isi_bool_int ?_) | (refine x_isi_bool_bool ?_) | (refine x_isi_bool_str ?_) | (refine x_isi_bool_tuple ?_) | (refine x_isi_bool_list ?_) | (refine x_isi_int_int ?_) | (refine x_isi_int_bool ?_) | (refine x_isi_int_str ?_) | (refine x_isi_int_tuple ?_) | (refine x_isi_int_list ?_) | (refine x_isi_str_int ?_) | (refine x_isi_str_bool ?_) | (refine x_isi_str_str ?_) | (refine x_isi_str_tuple ?_) | (refine x_isi_str_list ?_) | (refine x_isi_tuple_int ?_) | (refine x_isi_tuple_bool ?_) | (refine x_isi_tuple_str ?_) | (refine x_isi_tuple_tuple ?_) | (refine x_isi_tuple_list ?_) | (refine x_isi_list_int ?_) | (refine x_isi_list_bool ?_) | (refine x_isi_list_str ?_) | (refine x_isi_list_tuple ?_) | (refine x_isi_list_list ?_)
  | (refine x_tupleT ?_) | (refine x_sumT ?_) | (refine x_sumL ?_) | (refine x_allL ?_) | (refine x_intI ?_) | (refine x_intB ?_) | (refine x_abs ?_) | (refine x_divmod (by omega) ?_)
  | (refine x_lcS ?_) | (refine x_lcK (by with_unfolding_all rfl) (by first | (dsimp only [wipeR, List.set_cons_zero, List.set_cons_succ]; done) | (dsimp only [wipeR, List.set_cons_zero, List.set_cons_succ]; exact rfl)) ?_) | (refine x_iseqS ?_) | (refine x_iseqD ?_) | (refine x_itupS ?_) | (refine x_itupD ?_) | (refine x_chain ?_) | (refine x_chK ?_)
  | (refine x_rgL1 ?_) | (refine x_rgL2 ?_) | (refine x_rg1LK (by omega) ?_) | (refine x_rg2LK (by omega) ?_)
  | (refine x_sfz (by first | (simp only [fzR, S.toD, List.getElem?_cons_zero, List.getElem?_cons_succ, List.set_cons_zero, List.set_cons_succ]; done) | (simp only [fzR, S.toD, List.getElem?_cons_zero, List.getElem?_cons_succ, List.set_cons_zero, List.set_cons_succ]; exact rfl)) ?_)
  | (refine x_gaddI ?_) | (refine x_aug (by with_unfolding_all rfl) ?_) | (refine x_augK (by with_unfolding_all rfl) ?_) | (refine x_setVK (by first | (dsimp only [List.set_cons_zero, List.set_cons_succ]; done) | (dsimp only [List.set_cons_zero, List.set_cons_succ]; exact rfl)) ?_) | (refine x_augIx (by with_unfolding_all rfl) ?_)
  | (refine x_mv ?_) | (refine x_mvT ?_) | (refine x_isLst ?_) | (refine x_isPtp ?_) | (refine x_mvK ?_) | (refine x_mvtK ?_)
  | (refine x_zpS ?_) | (refine x_zp ?_) | (refine x_zpNT ?_) | (refine x_zpNL ?_) | (refine x_enm ?_) | (refine x_enmK ?_) | (refine x_enmT ?_) | (refine x_enmTK ?_) | (refine x_gTp (by with_unfolding_all rfl) ?_))
end CS
set_option maxHeartbeats 4000000
namespace CS
open PySem PySem.Spec PyProof.Rows L2 DL
local macro_rules | `(tactic| sizeOf_list_dec) => `(tactic| with_reducible first
  | (refine x_varP (by with_unfolding_all rfl) ?_) | (refine x_var (by with_unfolding_all rfl) ?_) | (refine x_varS (by with_unfolding_all rfl) ?_)
  | (refine x_C ?_) | (refine x_op ?_) | (refine x_un ?_) | (refine x_sub ?_)
  | (refine x_mul (by first | with_unfolding_all decide | (unfold CMul; omega)) ?_) | (refine x_mult (by first | with_unfolding_all decide | (unfold CMul; omega)) ?_)
  | (refine x_div (by unfold CDivN; omega) ?_) | (refine x_mod (by omega) ?_) | (refine x_add ?_) | (refine x_lt ?_) | (refine x_ltI ?_) | (refine x_leI ?_) | (refine x_gtI ?_) | (refine x_geI ?_)
  | (refine x_is ?_) | (refine x_notis ?_) | (refine x_neg ?_) | (refine x_eqI ?_) | (refine x_neI ?_)
  | (refine x_dtestK ?_) | (refine x_testK ?_) | (refine x_and ?_) | (refine x_or ?_) | (refine x_not ?_) | (refine x_dif ?_)
  | (refine x_T ?_) | (refine x_F ?_) | (refine x_nT ?_) | (refine x_nF ?_)
  | (refine x_nil ?_) | (refine x_cons ?_) | (refine x_cntK ?_) | (refine x_lens (by with_unfolding_all rfl) ?_)
  | (refine x_tupK ?_) | (refine x_tupD (by first | with_unfolding_all decide | (simp only [BIG, List.length_cons, List.length_nil]; omega)) ?_) | (refine x_tupPD (by first | with_unfolding_all decide | (simp only [BIG, List.length_cons, List.length_nil]; omega)) ?_) | (refine x_lstK ?_) | (refine x_lstD (by first | with_unfolding_all decide | (simp only [BIG, List.length_cons, List.length_nil]; omega)) ?_)
  | (refine x_dct ?_) | (refine x_fzS ?_) | (refine x_fzOwn ?_) | (refine x_val ?_)
  | (refine x_callK ?_) | (refine x_callD (by first | (dsimp only [pickD_cons, pickD_nil, List.cons_append, List.nil_append, List.append_nil, gD0, gDs]; done) | (dsimp only [pickD_cons, pickD_nil, List.cons_append, List.nil_append, List.append_nil, gD0, gDs]; exact rfl)) ?_)
  | (refine x_bc ?_) | (refine x_min2 ?_) | (refine x_max2 ?_)
  | (refine x_seq ?_) | (refine x_next ?_) | (refine x_brk ?_) | (refine x_cont ?_) | (refine x_drop ?_) | (refine x_ret ?_) | (refine x_retN ?_) | (refine x_if ?_)
  | (refine x_asgK ?_) | (refine x_setK (by first | (dsimp only [List.set_cons_zero, List.set_cons_succ]; done) | (dsimp only [List.set_cons_zero, List.set_cons_succ]; exact rfl)) ?_)
  | (refine x_asgT ?_) | (refine x_gN (by first | (dsimp only [List.set_cons_zero, List.set_cons_succ]; done) | (dsimp only [List.set_cons_zero, List.set_cons_succ]; exact rfl)) ?_) | (refine x_gsN ?_) | (refine x_gsC ?_) | (refine x_gT (by with_unfolding_all rfl) ?_)
  | (refine x_mNil ?_) | (refine x_mCons ?_) | (refine x_parK ?_) | (refine x_parD (by with_unfolding_all rfl) (by first | (dsimp only [setS, List.set_cons_zero, List.set_cons_succ]; done) | (dsimp only [setS, List.set_cons_zero, List.set_cons_succ]; exact rfl)) ?_)
  | (refine x_for ?_) | (refine x_rg1 ?_) | (refine x_rg2 ?_) | (refine x_rg1K (by omega) ?_) | (refine x_rg2K (by omega) ?_)
  | (refine x_andV ?_) | (refine x_orV ?_) | (refine x_notV ?_) | (refine x_andK ?_) | (refine x_orK ?_) | (refine x_notK ?_)
  | (refine x_addI ?_) | (refine x_ixL (by with_unfolding_all rfl) ?_) | (refine x_ixT (by with_unfolding_all rfl) ?_) | (refine x_slT ?_) | (refine x_oNo ?_) | (refine x_oInt ?_) | (refine x_oIntK ?_)
  | (refine x_vbc ?_) | (refine x_lenT ?_) | (refine x_lenL ?_) | (refine x_lenO1 (by with_unfolding_all rfl) ?_) | (refine x_lenO2 ?_) | (refine x_ixO1 (by with_unfolding_all rfl) ?_) | (refine x_ixO2 ?_)
  | (refine x_mt (by with_unfolding_all rfl) ?_) | (refine x_fld ?_) | (refine x_fldS ?_) | (refine x_fldP (by with_unfolding_all rfl) ?_) | (refine x_fldSK (by with_unfolding_all rfl) ?_) | (refine x_fldK (by with_unfolding_all rfl) ?_) | (refine x_selfS ?_)
  | (refine x_selfK (by with_unfolding_all rfl) (by with_unfolding_all decide) (by first | (dsimp only [List.set_cons_zero, List.set_cons_succ, List.cons_append, List.nil_append]; done) | (dsimp only [List.set_cons_zero, List.set_cons_succ, List.cons_append, List.nil_append]; exact rfl)) ?_)
  | (refine x_endI (by with_unfolding_all rfl) ?_) | (refine x_lenI ?_) | (refine x_lenK2 ?_) | (refine x_isi_NoneType_int ?_) | (refine x_isi_NoneType_bool ?_) | (refine x_isi_NoneType_str ?_) | (refine x_isi_NoneType_tuple ?_) | (refine x_isi_NoneType_list ?_) | (refine x_isi_bool_int ?_) | (refine x_isi_bool_bool ?_) | (refine x_isi_bool_str ?_) | (refine x_isi_bool_tuple ?_) | (refine x_isi_bool_list ?_) | (refine x_isi_int_int ?_) | (refine x_isi_int_bool ?_) | (refine x_isi_int_str ?_) | (refine x_isi_int_tuple ?_) | (refine x_isi_int_list ?_) | (refine x_isi_str_int ?_) | (refine x_isi_str_bool ?_) | (refine x_isi_str_str ?_) | (refine x_isi_str_tuple ?_) | (refine x_isi_str_list ?_) | (refine x_isi_tuple_int ?_) | (refine x_isi_tuple_bool ?_) | (refine x_isi_tuple_str ?_) | (refine x_isi_tuple_tuple ?_) | (refine x_isi_tuple_list ?_) | (refine x_isi_list_int ?_) | (refine x_isi_list_bool ?_) | (refine x_isi_list_str ?_) | (refine x_isi_list_tuple ?_) | (refine x_isi_list_list ?_)
  | (refine x_tupleT ?_) | (refine x_sumT ?_) | (refine x_sumL ?_) | (refine x_allL ?_) | (refine x_intI ?_) | (refine x_intB ?_) | (refine x_abs ?_) | (refine x_divmod (by omega) ?_)
  | (refine x_lcS ?_) | (refine x_lcK (by with_unfolding_all rfl) (by first | (dsimp only [wipeR, List.set_cons_zero, List.set_cons_succ]; done) | (dsimp only [wipeR, List.set_cons_zero, List.set_cons_succ]; exact rfl)) ?_) | (refine x_iseqS ?_) | (refine x_iseqD ?_) | (refine x_itupS ?_) | (refine x_itupD ?_) | (refine x_chain ?_) | (refine x_chK ?_)
  | (refine x_rgL1 ?_) | (refine x_rgL2 ?_) | (refine x_rg1LK (by omega) ?_) | (refine x_rg2LK (by omega) ?_)
  | (refine x_sfz (by first | (simp only [fzR, S.toD, List.getElem?_cons_zero, List.getElem?_cons_succ, List.set_cons_zero, List.set_cons_succ]; done) | (simp only [fzR, S.toD, List.getElem?_cons_zero, List.getElem?_cons_succ, List.set_cons_zero, List.set_cons_succ]; exact rfl)) ?_)
  | (refine x_gaddI ?_) | (refine x_aug (by with_unfolding_all rfl) ?_) | (refine x_augK (by with_unfolding_all rfl) ?_) | (refine x_setVK (by first | (dsimp only [List.set_cons_zero, List.set_cons_succ]; done) | (dsimp only [List.set_cons_zero, List.set_cons_succ]; exact rfl)) ?_) | (refine x_augIx (by with_unfolding_all rfl) ?_)
  | (refine x_mv ?_) | (refine x_mvT ?_) | (refine x_isLst ?_) | (refine x_isPtp ?_) | (refine x_mvK ?_) | (refine x_mvtK ?_)
  | (refine x_zpS ?_) | (refine x_zp ?_) | (refine x_zpNT ?_) | (refine x_zpNL ?_) | (refine x_enm ?_) | (refine x_enmK ?_) | (refine x_enmT ?_) | (refine x_enmTK ?_) | (refine x_gTp (by with_unfolding_all rfl) ?_))
end CS
set_option maxHeartbeats 4000000
/-! DZ5: tuple * int, the number 1 or at most 0. -/
namespace DL
open PySem PySem.Spec PyProof.Rows L2
end DL
set_option maxHeartbeats 4000000
/-! DZ6: t[::-1] of a tuple, of a list. -/
namespace DL
open PySem PySem.Spec PyProof.Rows L2
variable [DL.TabC]
section
variable {X : Cx} {e : Expr} {τ : TD} {k : Nat} {p1 p2 p3 pos : Pos}
def revTK (k : KE) : KE := fun d ρ => match d with | .tup ds => ds.length ≤ BIG ∧ k (.tup ds.reverse) ρ | _ => False
def dRevT (τ : TD) : TD := fun ρ kx k => τ ρ kx (revTK k)
theorem x_revT {ρ : Rho} {kx : KX} {k : KE} (h : τ ρ kx (revTK k)) : dRevT τ ρ kx k := h
theorem x_revTK {ρ : Rho} {k : KE} {ds : List D} (l : ds.length ≤ BIG) (h : k (.tup ds.reverse) ρ) : revTK k (.tup ds) ρ := ⟨l, h⟩
def revLK (k : KV) : KE := fun d ρ => match d with | .lst ds => ds.length ≤ BIG ∧ k (.own ds.reverse) ρ | _ => False
def vRevL (τ : TD) : TDs := fun ρ kx k => τ ρ kx (revLK k)
theorem x_revL {ρ : Rho} {kx : KX} {k : KV} (h : τ ρ kx (revLK k)) : vRevL τ ρ kx k := h
theorem x_revLK {ρ : Rho} {k : KV} {ds : List D} (l : ds.length ≤ BIG) (h : k (.own ds.reverse) ρ) : revLK k (.lst ds) ρ := ⟨l, h⟩
end
end DL
set_option maxHeartbeats 4000000
/-! DL31: min and max of a tuple, with a default; sorted with reverse. -/
namespace DL
open PySem PySem.Spec PyProof.Rows L2 PySem.W
variable [TabC]
section
variable {X : Cx}
theorem minOf_int (x : Int) : ∀ (xs : List Int), minOf x xs ∈ x :: xs ∧ ∀ y ∈ x :: xs, minOf x xs ≤ y := by
  intro xs
  unfold minOf
  induction xs generalizing x with
  | nil => simp
  | cons z xs ih =>
    rw [List.foldl_cons]
    have hlt : (DatumOrd.lt z x = true) ↔ z < x := by
      show (decide (z < x) = true) ↔ _
      exact decide_eq_true_iff
    by_cases h : z < x
    · rw [if_pos (hlt.mpr h)]
      obtain ⟨i1, i2⟩ := ih z
      refine ⟨List.mem_cons_of_mem _ i1, fun y hy => ?_⟩
      rcases List.mem_cons.mp hy with rfl | hy
      · have := i2 z (List.mem_cons_self ..); omega
      · exact i2 y hy
    · rw [if_neg (fun q => h (hlt.mp q))]
      obtain ⟨i1, i2⟩ := ih x
      refine ⟨?_, fun y hy => ?_⟩
      · rcases List.mem_cons.mp i1 with e | e
        · rw [e]; exact List.mem_cons_self ..
        · exact List.mem_cons_of_mem _ (List.mem_cons_of_mem _ e)
      · rcases List.mem_cons.mp hy with rfl | hy
        · exact i2 _ (List.mem_cons_self ..)
        · rcases List.mem_cons.mp hy with rfl | hy
          · have := i2 x (List.mem_cons_self ..); omega
          · exact i2 y (List.mem_cons_of_mem _ hy)
def rMinT (K : PySem.W.Frag) : List V → Hp → VK → Prop := fun vs H Q => ∃ (a : Addr) (ns : List Int), vs = [V.ref a] ∧ SqT K H a (ns.map V.int) ∧ 0 < ns.length ∧ ∀ m, m ∈ ns → (∀ y, y ∈ ns → m ≤ y) → Q (.int m) H
theorem cr_minT (hc : X.calm = true) (hu : X.A.units + 64 < cLine) : CallR X (.builtin "min") (rMinT X.K) := by
  intro pins s σ H vs us Q I r h
  obtain ⟨a, ns, rfl, hs, hne, q⟩ := h
  obtain ⟨its, rv, hl, _⟩ := I.tuple hs
  rw [Vals.ref1 r]
  cases ns with
  | nil => simp at hne
  | cons x xs =>
    refine min_tuple_datum (x := x) (xs := xs) (I.ok.hd hc) hl (HoldAll.of_ints rv.ints) (by show X.A.units + 1 + 0 < cLine; omega) fun i v h' tk hi hv hk => ?_
    obtain ⟨t, rfl⟩ := int_of_holds hv
    exact ⟨.int (minOf x xs), H, I.kept hk, ⟨t, rfl⟩, q _ (minOf_int x xs).1 (minOf_int x xs).2⟩
def cMinA : GC := fun ds k => match ds with
  | [.lst xs] => ∃ ns : List Int, xs = ns.map D.int ∧ 0 < ns.length ∧ ∀ m, m ∈ ns → (∀ y, y ∈ ns → m ≤ y) → k (.int m)
  | [.tup xs] => ∃ ns : List Int, xs = ns.map D.int ∧ 0 < ns.length ∧ ∀ m, m ∈ ns → (∀ y, y ∈ ns → m ≤ y) → k (.int m)
  | _ => False
theorem cd_minA : CallD X (fun vs H Q => rMin X.K vs H Q ∨ rMinT X.K vs H Q) cMinA := by
  intro W F H σ ρ vs ds k Q R dv hg hQ
  match ds, hg, dv with
  | [.lst xs], ⟨ns, ex, h0, hk⟩, dv =>
    exact .inl (cd_minL W F H σ ρ vs [.lst xs] k Q R dv ⟨ns, ex, h0, hk⟩ hQ)
  | [.tup xs], ⟨ns, ex, h0, hk⟩, dv =>
    subst ex
    obtain ⟨v, e, r⟩ := dvs1 dv
    simp only [DV] at r
    obtain ⟨a, us, rfl, g, l, r⟩ := r
    have := dvs_ints r
    subst this
    exact .inr ⟨a, ns, e, seqT_mono R.w.g g, h0, fun m h1 h2 => hQ _ _ H W (hk m h1 h2) (Wd.le.refl W) R (by simp only [DV])⟩
theorem cr_minA {k : Nat} (hc : X.calm = true) (hr : Room k X.A) : CallR X (.builtin "min") (fun vs H Q => rMin X.K vs H Q ∨ rMinT X.K vs H Q) := (cr_min hc).or (cr_minT hc hr.units)
theorem x_minAL {ns : List Int} {kd : D → Prop} (h0 : 0 < ns.length) (h : ∀ m, m ∈ ns → (∀ y, y ∈ ns → m ≤ y) → kd (.int m)) : cMinA [.lst (ns.map D.int)] kd := ⟨ns, rfl, h0, h⟩
/-! a builtin called with keywords -/
abbrev GK := List D → List D → (D → Prop) → Prop
abbrev GKV := List D → List D → (S → Prop) → Prop
def dBK (g : GK) (τs τk : TDa) : TD := fun ρ kx k => τs ρ kx fun ds ρ1 => τk ρ1 kx fun es ρ2 => g ds es fun d => k d ρ2
def vBK (g : GKV) (τs τk : TDa) : TDs := fun ρ kx k => τs ρ kx fun ds ρ1 => τk ρ1 kx fun es ρ2 => g ds es fun s => k s ρ2
variable {x : Str} {id : String} {ks : List Str} {r : List V → List V → Hp → VK → Prop} {e : Expr} {es : List Expr} {kws : List Keyword} {τs τk : TDa} {p pos : Pos}
/-! steps -/
def bkK (τk : TDa) (kx : KX) (g : GK) (k : KE) : List D → Rho → Prop := fun ds ρ1 => τk ρ1 kx fun es ρ2 => g ds es fun d => k d ρ2
theorem x_bk {ρ : Rho} {kx : KX} {g : GK} {k : KE} (h : τs ρ kx (bkK τk kx g k)) : dBK g τs τk ρ kx k := h
theorem x_bkK {ρ : Rho} {kx : KX} {g : GK} {k : KE} {ds : List D} (h : τk ρ kx fun es ρ2 => g ds es fun d => k d ρ2) : bkK τk kx g k ds ρ := h
def bkvK (τk : TDa) (kx : KX) (g : GKV) (k : KV) : List D → Rho → Prop := fun ds ρ1 => τk ρ1 kx fun es ρ2 => g ds es fun d => k d ρ2
theorem x_bkv {ρ : Rho} {kx : KX} {g : GKV} {k : KV} (h : τs ρ kx (bkvK τk kx g k)) : vBK g τs τk ρ kx k := h
theorem x_bkvK {ρ : Rho} {kx : KX} {g : GKV} {k : KV} {ds : List D} (h : τk ρ kx fun es ρ2 => g ds es fun s => k s ρ2) : bkvK τk kx g k ds ρ := h
end
end DL
namespace DL
open PySem PySem.Spec PyProof.Rows L2
variable [TabC]
section
variable {ρ : Rho} {kx : KX} {k : KE} {kv : KV} {kd : D → Prop} {τa τb : TD} {ds es : List D}
def catL (kv : KV) (x : D) : KE := fun y ρ2 => match x, y with
  | .lst ds, .lst es => ds.length + es.length ≤ BIG ∧ kv (.own (ds ++ es)) ρ2
  | _, _ => False
def catK (τb : TD) (kx : KX) (kv : KV) : KE := fun x ρ1 => τb ρ1 kx (catL kv x)
theorem x_cat (h : τa ρ kx (catK τb kx kv)) : vCat τa τb ρ kx kv := h
theorem x_catK {x : D} (h : τb ρ kx (catL kv x)) : catK τb kx kv x ρ := h
theorem x_catL (l : ds.length + es.length ≤ BIG) (h : kv (.own (ds ++ es)) ρ) : catL kv (.lst ds) (.lst es) ρ := ⟨l, h⟩
def repL (kv : KV) (x : D) : KE := fun y ρ2 => match x, y with
  | .lst ds, .int n => -1000000 ≤ n ∧ n ≤ 1000000 ∧ ds.length * n.toNat ≤ BIG ∧ kv (.own (List.replicate n.toNat ds).flatten) ρ2
  | _, _ => False
def repK (τb : TD) (kx : KX) (kv : KV) : KE := fun x ρ1 => τb ρ1 kx (repL kv x)
theorem x_rep (h : τa ρ kx (repK τb kx kv)) : vRep τa τb ρ kx kv := h
theorem x_repK {x : D} (h : τb ρ kx (repL kv x)) : repK τb kx kv x ρ := h
theorem x_pow {i j : Int} (c : 0 ≤ j ∧ j ≤ 1000000 ∧ i.natAbs < 2 ^ 64) (h : kd (.int (i ^ j.toNat))) : gPow (.int i) (.int j) kd := ⟨c, h⟩
end
end DL
namespace CS
open PySem PySem.Spec PyProof.Rows L2 DL
end CS
set_option maxHeartbeats 4000000
namespace CS
open PySem PySem.Spec PyProof.Rows L2 DL
local macro_rules | `(tactic| sizeOf_list_dec) => `(tactic| with_reducible first
  | (refine x_varP (by with_unfolding_all rfl) ?_) | (refine x_var (by with_unfolding_all rfl) ?_) | (refine x_varS (by with_unfolding_all rfl) ?_)
  | (refine x_C ?_) | (refine x_op ?_) | (refine x_un ?_) | (refine x_sub ?_)
  | (refine x_mul (by first | with_unfolding_all decide | (unfold CMul; omega)) ?_) | (refine x_mult (by first | with_unfolding_all decide | (unfold CMul; omega)) ?_)
  | (refine x_div (by unfold CDivN; omega) ?_) | (refine x_mod (by omega) ?_) | (refine x_add ?_) | (refine x_lt ?_) | (refine x_ltI ?_) | (refine x_leI ?_) | (refine x_gtI ?_) | (refine x_geI ?_)
  | (refine x_is ?_) | (refine x_notis ?_) | (refine x_neg ?_) | (refine x_eqI ?_) | (refine x_neI ?_)
  | (refine x_dtestK ?_) | (refine x_testK ?_) | (refine x_and ?_) | (refine x_or ?_) | (refine x_not ?_) | (refine x_dif ?_)
  | (refine x_T ?_) | (refine x_F ?_) | (refine x_nT ?_) | (refine x_nF ?_)
  | (refine x_nil ?_) | (refine x_cons ?_) | (refine x_cntK ?_) | (refine x_lens (by with_unfolding_all rfl) ?_)
  | (refine x_tupK ?_) | (refine x_tupD (by first | with_unfolding_all decide | (simp only [BIG, List.length_cons, List.length_nil]; omega)) ?_) | (refine x_tupPD (by first | with_unfolding_all decide | (simp only [BIG, List.length_cons, List.length_nil]; omega)) ?_) | (refine x_lstK ?_) | (refine x_lstD (by first | with_unfolding_all decide | (simp only [BIG, List.length_cons, List.length_nil]; omega)) ?_)
  | (refine x_dct ?_) | (refine x_fzS ?_) | (refine x_fzOwn ?_) | (refine x_val ?_)
  | (refine x_callK ?_) | (refine x_callD (by first | (dsimp only [pickD_cons, pickD_nil, List.cons_append, List.nil_append, List.append_nil, gD0, gDs]; done) | (dsimp only [pickD_cons, pickD_nil, List.cons_append, List.nil_append, List.append_nil, gD0, gDs]; exact rfl)) ?_)
  | (refine x_bc ?_) | (refine x_min2 ?_) | (refine x_max2 ?_)
  | (refine x_seq ?_) | (refine x_next ?_) | (refine x_brk ?_) | (refine x_cont ?_) | (refine x_drop ?_) | (refine x_ret ?_) | (refine x_retN ?_) | (refine x_if ?_)
  | (refine x_asgK ?_) | (refine x_setK (by first | (dsimp only [List.set_cons_zero, List.set_cons_succ]; done) | (dsimp only [List.set_cons_zero, List.set_cons_succ]; exact rfl)) ?_)
  | (refine x_asgT ?_) | (refine x_gN (by first | (dsimp only [List.set_cons_zero, List.set_cons_succ]; done) | (dsimp only [List.set_cons_zero, List.set_cons_succ]; exact rfl)) ?_) | (refine x_gsN ?_) | (refine x_gsC ?_) | (refine x_gT (by with_unfolding_all rfl) ?_)
  | (refine x_mNil ?_) | (refine x_mCons ?_) | (refine x_parK ?_) | (refine x_parD (by with_unfolding_all rfl) (by first | (dsimp only [setS, List.set_cons_zero, List.set_cons_succ]; done) | (dsimp only [setS, List.set_cons_zero, List.set_cons_succ]; exact rfl)) ?_)
  | (refine x_for ?_) | (refine x_rg1 ?_) | (refine x_rg2 ?_) | (refine x_rg1K (by omega) ?_) | (refine x_rg2K (by omega) ?_)
  | (refine x_andV ?_) | (refine x_orV ?_) | (refine x_notV ?_) | (refine x_andK ?_) | (refine x_orK ?_) | (refine x_notK ?_)
  | (refine x_addI ?_) | (refine x_ixL (by with_unfolding_all rfl) ?_) | (refine x_ixT (by with_unfolding_all rfl) ?_) | (refine x_slT ?_) | (refine x_oNo ?_) | (refine x_oInt ?_) | (refine x_oIntK ?_)
  | (refine x_vbc ?_) | (refine x_lenT ?_) | (refine x_lenL ?_) | (refine x_lenO1 (by with_unfolding_all rfl) ?_) | (refine x_lenO2 ?_) | (refine x_ixO1 (by with_unfolding_all rfl) ?_) | (refine x_ixO2 ?_)
  | (refine x_mt (by with_unfolding_all rfl) ?_) | (refine x_fld ?_) | (refine x_fldS ?_) | (refine x_fldP (by with_unfolding_all rfl) ?_) | (refine x_fldSK (by with_unfolding_all rfl) ?_) | (refine x_fldK (by with_unfolding_all rfl) ?_) | (refine x_selfS ?_)
  | (refine x_selfK (by with_unfolding_all rfl) (by with_unfolding_all decide) (by first | (dsimp only [List.set_cons_zero, List.set_cons_succ, List.cons_append, List.nil_append]; done) | (dsimp only [List.set_cons_zero, List.set_cons_succ, List.cons_append, List.nil_append]; exact rfl)) ?_)
  | (refine x_endI (by with_unfolding_all rfl) ?_) | (refine x_lenI ?_) | (refine x_lenK2 ?_) | (refine x_isi_NoneType_int ?_) | (refine x_isi_NoneType_bool ?_) | (refine x_isi_NoneType_str ?_) | (refine x_isi_NoneType_tuple ?_) | (refine x_isi_NoneType_list ?_) | (refine x_isi_bool_int ?_) | (refine x_isi_bool_bool ?_) | (refine x_isi_bool_str ?_) | (refine x_isi_bool_tuple ?_) | (refine x_isi_bool_list ?_) | (refine x_isi_int_int ?_) | (refine x_isi_int_bool ?_) | (refine x_isi_int_str ?_) | (refine x_isi_int_tuple ?_) | (refine x_isi_int_list ?_) | (refine x_isi_str_int ?_) | (refine x_isi_str_bool ?_) | (refine x_isi_str_str ?_) | (refine x_isi_str_tuple ?_) | (refine x_isi_str_list ?_) | (refine x_isi_tuple_int ?_) | (refine x_isi_tuple_bool ?_) | (refine x_isi_tuple_str ?_) | (refine x_isi_tuple_tuple ?_) | (refine x_isi_tuple_list ?_) | (refine x_isi_list_int ?_) | (refine x_isi_list_bool ?_) | (refine x_isi_list_str ?_) | (refine x_isi_list_tuple ?_) | (refine x_isi_list_list ?_)
  | (refine x_tupleT ?_) | (refine x_sumT ?_) | (refine x_sumL ?_) | (refine x_allL ?_) | (refine x_intI ?_) | (refine x_intB ?_) | (refine x_abs ?_) | (refine x_divmod (by omega) ?_)
  | (refine x_lcS ?_) | (refine x_lcK (by with_unfolding_all rfl) (by first | (dsimp only [wipeR, List.set_cons_zero, List.set_cons_succ]; done) | (dsimp only [wipeR, List.set_cons_zero, List.set_cons_succ]; exact rfl)) ?_) | (refine x_iseqS ?_) | (refine x_iseqD ?_) | (refine x_itupS ?_) | (refine x_itupD ?_) | (refine x_chain ?_) | (refine x_chK ?_)
  | (refine x_rgL1 ?_) | (refine x_rgL2 ?_) | (refine x_rg1LK (by omega) ?_) | (refine x_rg2LK (by omega) ?_)
  | (refine x_sfz (by first | (simp only [fzR, S.toD, List.getElem?_cons_zero, List.getElem?_cons_succ, List.set_cons_zero, List.set_cons_succ]; done) | (simp only [fzR, S.toD, List.getElem?_cons_zero, List.getElem?_cons_succ, List.set_cons_zero, List.set_cons_succ]; exact rfl)) ?_)
  | (refine x_gaddI ?_) | (refine x_aug (by with_unfolding_all rfl) ?_) | (refine x_augK (by with_unfolding_all rfl) ?_) | (refine x_setVK (by first | (dsimp only [List.set_cons_zero, List.set_cons_succ]; done) | (dsimp only [List.set_cons_zero, List.set_cons_succ]; exact rfl)) ?_) | (refine x_augIx (by with_unfolding_all rfl) ?_)
  | (refine x_bk ?_) | (refine x_bkK ?_) | (refine x_bkv ?_) | (refine x_bkvK ?_) | (refine x_revT ?_) | (refine x_revL ?_) | (refine x_revTK (by first | with_unfolding_all decide | (simp only [BIG, List.length_cons, List.length_nil]; omega)) ?_) | (refine x_revLK (by first | with_unfolding_all decide | (simp only [BIG, List.length_cons, List.length_nil]; omega)) ?_)
  | (refine x_cat ?_) | (refine x_catK ?_) | (refine x_rep ?_) | (refine x_repK ?_) | (refine x_pow (by decide) ?_)
  | (refine x_mv ?_) | (refine x_mvT ?_) | (refine x_isLst ?_) | (refine x_isPtp ?_) | (refine x_mvK ?_) | (refine x_mvtK ?_)
  | (refine x_zpS ?_) | (refine x_zp ?_) | (refine x_zpNT ?_) | (refine x_zpNL ?_) | (refine x_enm ?_) | (refine x_enmK ?_) | (refine x_enmT ?_) | (refine x_enmTK ?_) | (refine x_gTp (by with_unfolding_all rfl) ?_))
def wd (s l : Int) : Str := if l < absI s then "over" else if absI s = l ∧ 0 < l then "last" else "open"
/-! the played out -/
theorem absL (i n : Int) : absI i ≤ n ↔ -n ≤ i ∧ i ≤ n := by unfold absI; split <;> omega
def unit1 (w : List Int) : Prop := ∀ x ∈ w, -1 ≤ x ∧ x ≤ 1
theorem unit1.cons {h : Int} {t : List Int} (u : unit1 (h :: t)) : (-1 ≤ h ∧ h ≤ 1) ∧ unit1 t := ⟨u h (List.mem_cons_self ..), fun x hx => u x (List.mem_cons_of_mem _ hx)⟩
theorem unit1.sum {t : List Int} (u : unit1 t) : absI t.sum ≤ t.length := by
  induction t with
  | nil => show absI 0 ≤ 0; decide
  | cons h t ih =>
    have := ih u.cons.2
    have := u.cons.1
    simp only [List.sum_cons, List.length_cons, absL] at *
    omega
end CS
set_option maxHeartbeats 4000000
/-! DL33: texts of numbers, f-strings. -/
namespace DL
open PySem PySem.Spec PyProof.Rows L2
variable [TabC]
theorem sok_ofString (s : String) (h : (Str.ofString s).length ≤ sizeLine) : SOk (Str.ofString s) := by
  refine ⟨h, ?_⟩
  rw [Str.ofString_eq_toList]
  show (s.toList.map Char.toNat).toArray.all (· < 0x110000) = true
  rw [List.all_toArray, List.all_map, List.all_eq_true]
  intro ch _
  show decide (ch.toNat < 1114112) = true
  have h := ch.valid
  refine decide_eq_true ?_
  rcases h with h | h
  · exact Nat.lt_trans h (by decide)
  · exact h.2
def Sm (i : Int) : Prop := -1000000000000000000 ≤ i ∧ i ≤ 1000000000000000000
theorem Sm.log {i : Int} (h : Sm i) : i.natAbs.log2 < 1920 := by
  have : i.natAbs < 2 ^ 64 := by unfold Sm at h; omega
  by_cases z : i.natAbs = 0
  · rw [z]; decide
  · exact Nat.lt_trans ((Nat.log2_lt z).mpr this) (by decide)
theorem Sm.sok {i : Int} (h : Sm i) : SOk (Str.ofString (toString i)) := sok_ofString _ (int_text_fits h.log)
theorem x_strI {i : Int} {kd : D → Prop} (b : Sm i) (h : kd (.str (Str.ofString (toString i)))) : cStr [.int i] kd := ⟨b.log, b.sok, h⟩
theorem x_strS {z : Str} {kd : D → Prop} (h : kd (.str z)) : cStr [.str z] kd := h
theorem len10 {i : Int} (h : Sm i) : (Str.ofString (toString i)).length ≤ 21 := by
  have e := int_text_length_le10 (a := i) (k := 19) (by decide) (by unfold Sm at h; omega)
  rw [PySem.ofString_length]
  omega
section
variable {X : Cx} {e : Expr} {τ : TD} {pos : Pos}
def fmtK (k : KE) : KE := fun d ρ => match d with
  | .int i => Sm i ∧ k (.str (Str.ofString (toString i))) ρ
  | .str y => k (.str y) ρ
  | _ => False
def dFmt (τ : TD) : TD := fun ρ kx k => τ ρ kx (fmtK k)
def dJs : List TD → Str → Rho → KX → (Str → Rho → Prop) → Prop
  | [], acc, ρ, _, k => k acc ρ
  | τ :: ts, acc, ρ, kx, k => τ ρ kx fun d ρ1 => ∃ y : Str, d = .str y ∧ acc.length + y.length ≤ BIG ∧ dJs ts (acc ++ y) ρ1 kx k
def dJoined (ts : List TD) : TD := fun ρ kx k => dJs ts Str.empty ρ kx fun s ρ' => k (.str s) ρ'
end
def truK (kt : Bool → Rho → Prop) : KE := fun d ρ' => ∃ b, truD d = some b ∧ kt b ρ'
theorem x_tru {τ : TD} {ρ : Rho} {kx : KX} {kt : Bool → Rho → Prop} (h : τ ρ kx (truK kt)) : dTru τ ρ kx kt := h
theorem x_truK {d : D} {b : Bool} {ρ : Rho} {kt : Bool → Rho → Prop} (e : truD d = some b) (h : kt b ρ) : truK kt d ρ := ⟨b, e, h⟩
/-! steps -/
section
variable {ρ : Rho} {kx : KX} {k : KE} {τ : TD} {ts : List TD} {kj : Str → Rho → Prop}
theorem x_fmt (h : τ ρ kx (fmtK k)) : dFmt τ ρ kx k := h
theorem x_fmtI {i : Int} (b : Sm i) (h : k (.str (Str.ofString (toString i))) ρ) : fmtK k (.int i) ρ := ⟨b, h⟩
theorem x_fmtS {y : Str} (h : k (.str y) ρ) : fmtK k (.str y) ρ := h
def jK (ts : List TD) (acc : Str) (kx : KX) (kj : Str → Rho → Prop) : KE := fun d ρ1 => ∃ y : Str, d = .str y ∧ acc.length + y.length ≤ BIG ∧ dJs ts (acc ++ y) ρ1 kx kj
theorem x_joined (h : dJs ts Str.empty ρ kx fun s ρ' => k (.str s) ρ') : dJoined ts ρ kx k := h
theorem x_js0 {acc : Str} (h : kj acc ρ) : dJs [] acc ρ kx kj := h
theorem x_js {acc : Str} (h : τ ρ kx (jK ts acc kx kj)) : dJs (τ :: ts) acc ρ kx kj := h
end
end DL
set_option maxHeartbeats 4000000
namespace CS
open PySem PySem.Spec PyProof.Rows L2 DL
local macro_rules | `(tactic| sizeOf_list_dec) => `(tactic| with_reducible first
  | (refine x_varP (by with_unfolding_all rfl) ?_) | (refine x_var (by with_unfolding_all rfl) ?_) | (refine x_varS (by with_unfolding_all rfl) ?_)
  | (refine x_C ?_) | (refine x_op ?_) | (refine x_un ?_) | (refine x_sub ?_)
  | (refine x_mul (by first | with_unfolding_all decide | (unfold CMul; omega)) ?_) | (refine x_mult (by first | with_unfolding_all decide | (unfold CMul; omega)) ?_)
  | (refine x_div (by unfold CDivN; omega) ?_) | (refine x_mod (by omega) ?_) | (refine x_add ?_) | (refine x_lt ?_) | (refine x_ltI ?_) | (refine x_leI ?_) | (refine x_gtI ?_) | (refine x_geI ?_)
  | (refine x_is ?_) | (refine x_notis ?_) | (refine x_neg ?_) | (refine x_eqI ?_) | (refine x_neI ?_)
  | (refine x_dtestK ?_) | (refine x_testK ?_) | (refine x_and ?_) | (refine x_or ?_) | (refine x_not ?_) | (refine x_dif ?_)
  | (refine x_T ?_) | (refine x_F ?_) | (refine x_nT ?_) | (refine x_nF ?_)
  | (refine x_nil ?_) | (refine x_cons ?_) | (refine x_cntK ?_) | (refine x_lens (by with_unfolding_all rfl) ?_)
  | (refine x_tupK ?_) | (refine x_tupD (by first | with_unfolding_all decide | (simp only [BIG, List.length_cons, List.length_nil]; omega)) ?_) | (refine x_tupPD (by first | with_unfolding_all decide | (simp only [BIG, List.length_cons, List.length_nil]; omega)) ?_) | (refine x_lstK ?_) | (refine x_lstD (by first | with_unfolding_all decide | (simp only [BIG, List.length_cons, List.length_nil]; omega)) ?_)
  | (refine x_dct ?_) | (refine x_fzS ?_) | (refine x_fzOwn ?_) | (refine x_val ?_)
  | (refine x_callK ?_) | (refine x_callD (by first | (dsimp only [pickD_cons, pickD_nil, List.cons_append, List.nil_append, List.append_nil, gD0, gDs]; done) | (dsimp only [pickD_cons, pickD_nil, List.cons_append, List.nil_append, List.append_nil, gD0, gDs]; exact rfl)) ?_)
  | (refine x_bc ?_) | (refine x_min2 ?_) | (refine x_max2 ?_)
  | (refine x_seq ?_) | (refine x_next ?_) | (refine x_brk ?_) | (refine x_cont ?_) | (refine x_drop ?_) | (refine x_ret ?_) | (refine x_retN ?_) | (refine x_if ?_)
  | (refine x_asgK ?_) | (refine x_setK (by first | (dsimp only [List.set_cons_zero, List.set_cons_succ]; done) | (dsimp only [List.set_cons_zero, List.set_cons_succ]; exact rfl)) ?_)
  | (refine x_asgT ?_) | (refine x_gN (by first | (dsimp only [List.set_cons_zero, List.set_cons_succ]; done) | (dsimp only [List.set_cons_zero, List.set_cons_succ]; exact rfl)) ?_) | (refine x_gsN ?_) | (refine x_gsC ?_) | (refine x_gT (by with_unfolding_all rfl) ?_)
  | (refine x_mNil ?_) | (refine x_mCons ?_) | (refine x_parK ?_) | (refine x_parD (by with_unfolding_all rfl) (by first | (dsimp only [setS, List.set_cons_zero, List.set_cons_succ]; done) | (dsimp only [setS, List.set_cons_zero, List.set_cons_succ]; exact rfl)) ?_)
  | (refine x_for ?_) | (refine x_rg1 ?_) | (refine x_rg2 ?_) | (refine x_rg1K (by omega) ?_) | (refine x_rg2K (by omega) ?_)
  | (refine x_andV ?_) | (refine x_orV ?_) | (refine x_notV ?_) | (refine x_andK ?_) | (refine x_orK ?_) | (refine x_notK ?_)
  | (refine x_addI ?_) | (refine x_ixL (by with_unfolding_all rfl) ?_) | (refine x_ixT (by with_unfolding_all rfl) ?_) | (refine x_slT ?_) | (refine x_oNo ?_) | (refine x_oInt ?_) | (refine x_oIntK ?_)
  | (refine x_vbc ?_) | (refine x_lenT ?_) | (refine x_lenL ?_) | (refine x_lenO1 (by with_unfolding_all rfl) ?_) | (refine x_lenO2 ?_) | (refine x_ixO1 (by with_unfolding_all rfl) ?_) | (refine x_ixO2 ?_)
  | (refine x_mt (by with_unfolding_all rfl) ?_) | (refine x_fld ?_) | (refine x_fldS ?_) | (refine x_fldP (by with_unfolding_all rfl) ?_) | (refine x_fldSK (by with_unfolding_all rfl) ?_) | (refine x_fldK (by with_unfolding_all rfl) ?_) | (refine x_selfS ?_)
  | (refine x_selfK (by with_unfolding_all rfl) (by with_unfolding_all decide) (by first | (dsimp only [List.set_cons_zero, List.set_cons_succ, List.cons_append, List.nil_append]; done) | (dsimp only [List.set_cons_zero, List.set_cons_succ, List.cons_append, List.nil_append]; exact rfl)) ?_)
  | (refine x_endI (by with_unfolding_all rfl) ?_) | (refine x_lenI ?_) | (refine x_lenK2 ?_) | (refine x_isi_NoneType_int ?_) | (refine x_isi_NoneType_bool ?_) | (refine x_isi_NoneType_str ?_) | (refine x_isi_NoneType_tuple ?_) | (refine x_isi_NoneType_list ?_) | (refine x_isi_bool_int ?_) | (refine x_isi_bool_bool ?_) | (refine x_isi_bool_str ?_) | (refine x_isi_bool_tuple ?_) | (refine x_isi_bool_list ?_) | (refine x_isi_int_int ?_) | (refine x_isi_int_bool ?_) | (refine x_isi_int_str ?_) | (refine x_isi_int_tuple ?_) | (refine x_isi_int_list ?_) | (refine x_isi_str_int ?_) | (refine x_isi_str_bool ?_) | (refine x_isi_str_str ?_) | (refine x_isi_str_tuple ?_) | (refine x_isi_str_list ?_) | (refine x_isi_tuple_int ?_) | (refine x_isi_tuple_bool ?_) | (refine x_isi_tuple_str ?_) | (refine x_isi_tuple_tuple ?_) | (refine x_isi_tuple_list ?_) | (refine x_isi_list_int ?_) | (refine x_isi_list_bool ?_) | (refine x_isi_list_str ?_) | (refine x_isi_list_tuple ?_) | (refine x_isi_list_list ?_)
  | (refine x_tupleT ?_) | (refine x_sumT ?_) | (refine x_sumL ?_) | (refine x_allL ?_) | (refine x_intI ?_) | (refine x_intB ?_) | (refine x_abs ?_) | (refine x_divmod (by omega) ?_)
  | (refine x_lcS ?_) | (refine x_lcK (by with_unfolding_all rfl) (by first | (dsimp only [wipeR, List.set_cons_zero, List.set_cons_succ]; done) | (dsimp only [wipeR, List.set_cons_zero, List.set_cons_succ]; exact rfl)) ?_) | (refine x_iseqS ?_) | (refine x_iseqD ?_) | (refine x_itupS ?_) | (refine x_itupD ?_) | (refine x_chain ?_) | (refine x_chK ?_)
  | (refine x_rgL1 ?_) | (refine x_rgL2 ?_) | (refine x_rg1LK (by omega) ?_) | (refine x_rg2LK (by omega) ?_)
  | (refine x_sfz (by first | (simp only [fzR, S.toD, List.getElem?_cons_zero, List.getElem?_cons_succ, List.set_cons_zero, List.set_cons_succ]; done) | (simp only [fzR, S.toD, List.getElem?_cons_zero, List.getElem?_cons_succ, List.set_cons_zero, List.set_cons_succ]; exact rfl)) ?_)
  | (refine x_gaddI ?_) | (refine x_aug (by with_unfolding_all rfl) ?_) | (refine x_augK (by with_unfolding_all rfl) ?_) | (refine x_setVK (by first | (dsimp only [List.set_cons_zero, List.set_cons_succ]; done) | (dsimp only [List.set_cons_zero, List.set_cons_succ]; exact rfl)) ?_) | (refine x_augIx (by with_unfolding_all rfl) ?_)
  | (refine x_strS ?_) | (refine x_strI (by first | assumption | (unfold Sm; omega)) ?_) | (refine x_fmt ?_) | (refine x_fmtS ?_) | (refine x_fmtI (by first | assumption | (unfold Sm; omega)) ?_) | (refine x_joined ?_) | (refine x_js0 ?_) | (refine x_js ?_)
  | (refine x_tru ?_) | (refine x_truK (by with_unfolding_all rfl) ?_) | (refine x_bk ?_) | (refine x_bkK ?_) | (refine x_bkv ?_) | (refine x_bkvK ?_) | (refine x_revT ?_) | (refine x_revL ?_) | (refine x_revTK (by first | with_unfolding_all decide | (simp only [BIG, List.length_cons, List.length_nil]; omega)) ?_) | (refine x_revLK (by first | with_unfolding_all decide | (simp only [BIG, List.length_cons, List.length_nil]; omega)) ?_)
  | (refine x_cat ?_) | (refine x_catK ?_) | (refine x_rep ?_) | (refine x_repK ?_) | (refine x_pow (by decide) ?_)
  | (refine x_mv ?_) | (refine x_mvT ?_) | (refine x_isLst ?_) | (refine x_isPtp ?_) | (refine x_mvK ?_) | (refine x_mvtK ?_)
  | (refine x_zpS ?_) | (refine x_zp ?_) | (refine x_zpNT ?_) | (refine x_zpNL ?_) | (refine x_enm ?_) | (refine x_enmK ?_) | (refine x_enmT ?_) | (refine x_enmTK ?_) | (refine x_gTp (by with_unfolding_all rfl) ?_))
end CS
set_option maxHeartbeats 4000000
namespace CS
open PySem PySem.Spec PyProof.Rows L2 DL
local macro_rules | `(tactic| sizeOf_list_dec) => `(tactic| with_reducible first
  | (refine x_varP (by with_unfolding_all rfl) ?_) | (refine x_var (by with_unfolding_all rfl) ?_) | (refine x_varS (by with_unfolding_all rfl) ?_)
  | (refine x_C ?_) | (refine x_op ?_) | (refine x_un ?_) | (refine x_sub ?_)
  | (refine x_mul (by first | with_unfolding_all decide | (unfold CMul; omega)) ?_) | (refine x_mult (by first | with_unfolding_all decide | (unfold CMul; omega)) ?_)
  | (refine x_div (by unfold CDivN; omega) ?_) | (refine x_mod (by omega) ?_) | (refine x_add ?_) | (refine x_lt ?_) | (refine x_ltI ?_) | (refine x_leI ?_) | (refine x_gtI ?_) | (refine x_geI ?_)
  | (refine x_is ?_) | (refine x_notis ?_) | (refine x_neg ?_) | (refine x_eqI ?_) | (refine x_neI ?_)
  | (refine x_dtestK ?_) | (refine x_testK ?_) | (refine x_and ?_) | (refine x_or ?_) | (refine x_not ?_) | (refine x_dif ?_)
  | (refine x_T ?_) | (refine x_F ?_) | (refine x_nT ?_) | (refine x_nF ?_)
  | (refine x_nil ?_) | (refine x_cons ?_) | (refine x_cntK ?_) | (refine x_lens (by with_unfolding_all rfl) ?_)
  | (refine x_tupK ?_) | (refine x_tupD (by first | with_unfolding_all decide | (simp only [BIG, List.length_cons, List.length_nil]; omega)) ?_) | (refine x_tupPD (by first | with_unfolding_all decide | (simp only [BIG, List.length_cons, List.length_nil]; omega)) ?_) | (refine x_lstK ?_) | (refine x_lstD (by first | with_unfolding_all decide | (simp only [BIG, List.length_cons, List.length_nil]; omega)) ?_)
  | (refine x_dct ?_) | (refine x_fzS ?_) | (refine x_fzOwn ?_) | (refine x_val ?_)
  | (refine x_callK ?_) | (refine x_callD (by first | (dsimp only [pickD_cons, pickD_nil, List.cons_append, List.nil_append, List.append_nil, gD0, gDs]; done) | (dsimp only [pickD_cons, pickD_nil, List.cons_append, List.nil_append, List.append_nil, gD0, gDs]; exact rfl)) ?_)
  | (refine x_bc ?_) | (refine x_min2 ?_) | (refine x_max2 ?_)
  | (refine x_seq ?_) | (refine x_next ?_) | (refine x_brk ?_) | (refine x_cont ?_) | (refine x_drop ?_) | (refine x_ret ?_) | (refine x_retN ?_) | (refine x_if ?_)
  | (refine x_asgK ?_) | (refine x_setK (by first | (dsimp only [List.set_cons_zero, List.set_cons_succ]; done) | (dsimp only [List.set_cons_zero, List.set_cons_succ]; exact rfl)) ?_)
  | (refine x_asgT ?_) | (refine x_gN (by first | (dsimp only [List.set_cons_zero, List.set_cons_succ]; done) | (dsimp only [List.set_cons_zero, List.set_cons_succ]; exact rfl)) ?_) | (refine x_gsN ?_) | (refine x_gsC ?_) | (refine x_gT (by with_unfolding_all rfl) ?_)
  | (refine x_mNil ?_) | (refine x_mCons ?_) | (refine x_parK ?_) | (refine x_parD (by with_unfolding_all rfl) (by first | (dsimp only [setS, List.set_cons_zero, List.set_cons_succ]; done) | (dsimp only [setS, List.set_cons_zero, List.set_cons_succ]; exact rfl)) ?_)
  | (refine x_for ?_) | (refine x_rg1 ?_) | (refine x_rg2 ?_) | (refine x_rg1K (by omega) ?_) | (refine x_rg2K (by omega) ?_)
  | (refine x_andV ?_) | (refine x_orV ?_) | (refine x_notV ?_) | (refine x_andK ?_) | (refine x_orK ?_) | (refine x_notK ?_)
  | (refine x_addI ?_) | (refine x_ixL (by with_unfolding_all rfl) ?_) | (refine x_ixT (by with_unfolding_all rfl) ?_) | (refine x_slT ?_) | (refine x_oNo ?_) | (refine x_oInt ?_) | (refine x_oIntK ?_)
  | (refine x_vbc ?_) | (refine x_lenT ?_) | (refine x_lenL ?_) | (refine x_lenO1 (by with_unfolding_all rfl) ?_) | (refine x_lenO2 ?_) | (refine x_ixO1 (by with_unfolding_all rfl) ?_) | (refine x_ixO2 ?_)
  | (refine x_mt (by with_unfolding_all rfl) ?_) | (refine x_fld ?_) | (refine x_fldS ?_) | (refine x_fldP (by with_unfolding_all rfl) ?_) | (refine x_fldSK (by with_unfolding_all rfl) ?_) | (refine x_fldK (by with_unfolding_all rfl) ?_) | (refine x_selfS ?_)
  | (refine x_selfK (by with_unfolding_all rfl) (by with_unfolding_all decide) (by first | (dsimp only [List.set_cons_zero, List.set_cons_succ, List.cons_append, List.nil_append]; done) | (dsimp only [List.set_cons_zero, List.set_cons_succ, List.cons_append, List.nil_append]; exact rfl)) ?_)
  | (refine x_endI (by with_unfolding_all rfl) ?_) | (refine x_lenI ?_) | (refine x_lenK2 ?_) | (refine x_isi_NoneType_int ?_) | (refine x_isi_NoneType_bool ?_) | (refine x_isi_NoneType_str ?_) | (refine x_isi_NoneType_tuple ?_) | (refine x_isi_NoneType_list ?_) | (refine x_isi_bool_int ?_) | (refine x_isi_bool_bool ?_) | (refine x_isi_bool_str ?_) | (refine x_isi_bool_tuple ?_) | (refine x_isi_bool_list ?_) | (refine x_isi_int_int ?_) | (refine x_isi_int_bool ?_) | (refine x_isi_int_str ?_) | (refine x_isi_int_tuple ?_) | (refine x_isi_int_list ?_) | (refine x_isi_str_int ?_) | (refine x_isi_str_bool ?_) | (refine x_isi_str_str ?_) | (refine x_isi_str_tuple ?_) | (refine x_isi_str_list ?_) | (refine x_isi_tuple_int ?_) | (refine x_isi_tuple_bool ?_) | (refine x_isi_tuple_str ?_) | (refine x_isi_tuple_tuple ?_) | (refine x_isi_tuple_list ?_) | (refine x_isi_list_int ?_) | (refine x_isi_list_bool ?_) | (refine x_isi_list_str ?_) | (refine x_isi_list_tuple ?_) | (refine x_isi_list_list ?_)
  | (refine x_tupleT ?_) | (refine x_sumT ?_) | (refine x_sumL ?_) | (refine x_allL ?_) | (refine x_intI ?_) | (refine x_intB ?_) | (refine x_abs ?_) | (refine x_divmod (by omega) ?_)
  | (refine x_lcS ?_) | (refine x_lcK (by with_unfolding_all rfl) (by first | (dsimp only [wipeR, List.set_cons_zero, List.set_cons_succ]; done) | (dsimp only [wipeR, List.set_cons_zero, List.set_cons_succ]; exact rfl)) ?_) | (refine x_iseqS ?_) | (refine x_iseqD ?_) | (refine x_itupS ?_) | (refine x_itupD ?_) | (refine x_chain ?_) | (refine x_chK ?_)
  | (refine x_rgL1 ?_) | (refine x_rgL2 ?_) | (refine x_rg1LK (by omega) ?_) | (refine x_rg2LK (by omega) ?_)
  | (refine x_sfz (by first | (simp only [fzR, S.toD, List.getElem?_cons_zero, List.getElem?_cons_succ, List.set_cons_zero, List.set_cons_succ]; done) | (simp only [fzR, S.toD, List.getElem?_cons_zero, List.getElem?_cons_succ, List.set_cons_zero, List.set_cons_succ]; exact rfl)) ?_)
  | (refine x_gaddI ?_) | (refine x_aug (by with_unfolding_all rfl) ?_) | (refine x_augK (by with_unfolding_all rfl) ?_) | (refine x_setVK (by first | (dsimp only [List.set_cons_zero, List.set_cons_succ]; done) | (dsimp only [List.set_cons_zero, List.set_cons_succ]; exact rfl)) ?_) | (refine x_augIx (by with_unfolding_all rfl) ?_)
  | (refine x_strS ?_) | (refine x_strI (by first | assumption | (unfold Sm; omega)) ?_) | (refine x_fmt ?_) | (refine x_fmtS ?_) | (refine x_fmtI (by first | assumption | (unfold Sm; omega)) ?_) | (refine x_joined ?_) | (refine x_js0 ?_) | (refine x_js ?_)
  | (refine x_tru ?_) | (refine x_truK (by with_unfolding_all rfl) ?_) | (refine x_bk ?_) | (refine x_bkK ?_) | (refine x_bkv ?_) | (refine x_bkvK ?_) | (refine x_revT ?_) | (refine x_revL ?_) | (refine x_revTK (by first | with_unfolding_all decide | (simp only [BIG, List.length_cons, List.length_nil]; omega)) ?_) | (refine x_revLK (by first | with_unfolding_all decide | (simp only [BIG, List.length_cons, List.length_nil]; omega)) ?_)
  | (refine x_cat ?_) | (refine x_catK ?_) | (refine x_rep ?_) | (refine x_repK ?_) | (refine x_pow (by decide) ?_)
  | (refine x_mv ?_) | (refine x_mvT ?_) | (refine x_isLst ?_) | (refine x_isPtp ?_) | (refine x_mvK ?_) | (refine x_mvtK ?_)
  | (refine x_zpS ?_) | (refine x_zp ?_) | (refine x_zpNT ?_) | (refine x_zpNL ?_) | (refine x_enm ?_) | (refine x_enmK ?_) | (refine x_enmT ?_) | (refine x_enmTK ?_) | (refine x_gTp (by with_unfolding_all rfl) ?_))
def mn (l : List (Option Int)) : Option Int := (l.filterMap id).min?
def bb (n : Nat) (rows : List (List (Option Int))) : List (Option Int) := (List.range n).map fun h => mn (rows.map fun r => r.getD h none)
end CS
set_option maxHeartbeats 4000000
namespace CS
open PySem PySem.Spec PyProof.Rows L2 DL
local macro_rules | `(tactic| sizeOf_list_dec) => `(tactic| with_reducible first
  | (refine x_varP (by with_unfolding_all rfl) ?_) | (refine x_var (by with_unfolding_all rfl) ?_) | (refine x_varS (by with_unfolding_all rfl) ?_)
  | (refine x_C ?_) | (refine x_op ?_) | (refine x_un ?_) | (refine x_sub ?_)
  | (refine x_mul (by first | with_unfolding_all decide | (unfold CMul; omega)) ?_) | (refine x_mult (by first | with_unfolding_all decide | (unfold CMul; omega)) ?_)
  | (refine x_div (by unfold CDivN; omega) ?_) | (refine x_mod (by omega) ?_) | (refine x_add ?_) | (refine x_lt ?_) | (refine x_ltI ?_) | (refine x_leI ?_) | (refine x_gtI ?_) | (refine x_geI ?_)
  | (refine x_is ?_) | (refine x_notis ?_) | (refine x_neg ?_) | (refine x_eqI ?_) | (refine x_neI ?_)
  | (refine x_dtestK ?_) | (refine x_testK ?_) | (refine x_and ?_) | (refine x_or ?_) | (refine x_not ?_) | (refine x_dif ?_)
  | (refine x_T ?_) | (refine x_F ?_) | (refine x_nT ?_) | (refine x_nF ?_)
  | (refine x_nil ?_) | (refine x_cons ?_) | (refine x_cntK ?_) | (refine x_lens (by with_unfolding_all rfl) ?_)
  | (refine x_tupK ?_) | (refine x_tupD (by first | with_unfolding_all decide | (simp only [BIG, List.length_cons, List.length_nil]; omega)) ?_) | (refine x_tupPD (by first | with_unfolding_all decide | (simp only [BIG, List.length_cons, List.length_nil]; omega)) ?_) | (refine x_lstK ?_) | (refine x_lstD (by first | with_unfolding_all decide | (simp only [BIG, List.length_cons, List.length_nil]; omega)) ?_)
  | (refine x_dct ?_) | (refine x_fzS ?_) | (refine x_fzOwn ?_) | (refine x_val ?_)
  | (refine x_callK ?_) | (refine x_callD (by first | (dsimp only [pickD_cons, pickD_nil, List.cons_append, List.nil_append, List.append_nil, gD0, gDs]; done) | (dsimp only [pickD_cons, pickD_nil, List.cons_append, List.nil_append, List.append_nil, gD0, gDs]; exact rfl)) ?_)
  | (refine x_bc ?_) | (refine x_min2 ?_) | (refine x_max2 ?_)
  | (refine x_seq ?_) | (refine x_next ?_) | (refine x_brk ?_) | (refine x_cont ?_) | (refine x_drop ?_) | (refine x_ret ?_) | (refine x_retN ?_) | (refine x_if ?_)
  | (refine x_asgK ?_) | (refine x_setK (by first | (dsimp only [List.set_cons_zero, List.set_cons_succ]; done) | (dsimp only [List.set_cons_zero, List.set_cons_succ]; exact rfl)) ?_)
  | (refine x_asgT ?_) | (refine x_gN (by first | (dsimp only [List.set_cons_zero, List.set_cons_succ]; done) | (dsimp only [List.set_cons_zero, List.set_cons_succ]; exact rfl)) ?_) | (refine x_gsN ?_) | (refine x_gsC ?_) | (refine x_gT (by with_unfolding_all rfl) ?_)
  | (refine x_mNil ?_) | (refine x_mCons ?_) | (refine x_parK ?_) | (refine x_parD (by with_unfolding_all rfl) (by first | (dsimp only [setS, List.set_cons_zero, List.set_cons_succ]; done) | (dsimp only [setS, List.set_cons_zero, List.set_cons_succ]; exact rfl)) ?_)
  | (refine x_for ?_) | (refine x_rg1 ?_) | (refine x_rg2 ?_) | (refine x_rg1K (by omega) ?_) | (refine x_rg2K (by omega) ?_)
  | (refine x_andV ?_) | (refine x_orV ?_) | (refine x_notV ?_) | (refine x_andK ?_) | (refine x_orK ?_) | (refine x_notK ?_)
  | (refine x_addI ?_) | (refine x_ixL (by with_unfolding_all rfl) ?_) | (refine x_ixT (by with_unfolding_all rfl) ?_) | (refine x_slT ?_) | (refine x_oNo ?_) | (refine x_oInt ?_) | (refine x_oIntK ?_)
  | (refine x_vbc ?_) | (refine x_lenT ?_) | (refine x_lenL ?_) | (refine x_lenO1 (by with_unfolding_all rfl) ?_) | (refine x_lenO2 ?_) | (refine x_ixO1 (by with_unfolding_all rfl) ?_) | (refine x_ixO2 ?_)
  | (refine x_mt (by with_unfolding_all rfl) ?_) | (refine x_fld ?_) | (refine x_fldS ?_) | (refine x_fldP (by with_unfolding_all rfl) ?_) | (refine x_fldSK (by with_unfolding_all rfl) ?_) | (refine x_fldK (by with_unfolding_all rfl) ?_) | (refine x_selfS ?_)
  | (refine x_selfK (by with_unfolding_all rfl) (by with_unfolding_all decide) (by first | (dsimp only [List.set_cons_zero, List.set_cons_succ, List.cons_append, List.nil_append]; done) | (dsimp only [List.set_cons_zero, List.set_cons_succ, List.cons_append, List.nil_append]; exact rfl)) ?_)
  | (refine x_endI (by with_unfolding_all rfl) ?_) | (refine x_lenI ?_) | (refine x_lenK2 ?_) | (refine x_isi_NoneType_int ?_) | (refine x_isi_NoneType_bool ?_) | (refine x_isi_NoneType_str ?_) | (refine x_isi_NoneType_tuple ?_) | (refine x_isi_NoneType_list ?_) | (refine x_isi_bool_int ?_) | (refine x_isi_bool_bool ?_) | (refine x_isi_bool_str ?_) | (refine x_isi_bool_tuple ?_) | (refine x_isi_bool_list ?_) | (refine x_isi_int_int ?_) | (refine x_isi_int_bool ?_) | (refine x_isi_int_str ?_) | (refine x_isi_int_tuple ?_) | (refine x_isi_int_list ?_) | (refine x_isi_str_int ?_) | (refine x_isi_str_bool ?_) | (refine x_isi_str_str ?_) | (refine x_isi_str_tuple ?_) | (refine x_isi_str_list ?_) | (refine x_isi_tuple_int ?_) | (refine x_isi_tuple_bool ?_) | (refine x_isi_tuple_str ?_) | (refine x_isi_tuple_tuple ?_) | (refine x_isi_tuple_list ?_) | (refine x_isi_list_int ?_) | (refine x_isi_list_bool ?_) | (refine x_isi_list_str ?_) | (refine x_isi_list_tuple ?_) | (refine x_isi_list_list ?_)
  | (refine x_tupleT ?_) | (refine x_sumT ?_) | (refine x_sumL ?_) | (refine x_allL ?_) | (refine x_intI ?_) | (refine x_intB ?_) | (refine x_abs ?_) | (refine x_divmod (by omega) ?_)
  | (refine x_lcS ?_) | (refine x_lcK (by with_unfolding_all rfl) (by first | (dsimp only [wipeR, List.set_cons_zero, List.set_cons_succ]; done) | (dsimp only [wipeR, List.set_cons_zero, List.set_cons_succ]; exact rfl)) ?_) | (refine x_iseqS ?_) | (refine x_iseqD ?_) | (refine x_itupS ?_) | (refine x_itupD ?_) | (refine x_chain ?_) | (refine x_chK ?_)
  | (refine x_rgL1 ?_) | (refine x_rgL2 ?_) | (refine x_rg1LK (by omega) ?_) | (refine x_rg2LK (by omega) ?_)
  | (refine x_sfz (by first | (simp only [fzR, S.toD, List.getElem?_cons_zero, List.getElem?_cons_succ, List.set_cons_zero, List.set_cons_succ]; done) | (simp only [fzR, S.toD, List.getElem?_cons_zero, List.getElem?_cons_succ, List.set_cons_zero, List.set_cons_succ]; exact rfl)) ?_)
  | (refine x_gaddI ?_) | (refine x_aug (by with_unfolding_all rfl) ?_) | (refine x_augK (by with_unfolding_all rfl) ?_) | (refine x_setVK (by first | (dsimp only [List.set_cons_zero, List.set_cons_succ]; done) | (dsimp only [List.set_cons_zero, List.set_cons_succ]; exact rfl)) ?_) | (refine x_augIx (by with_unfolding_all rfl) ?_)
  | (refine x_strS ?_) | (refine x_strI (by first | assumption | (unfold Sm; omega)) ?_) | (refine x_fmt ?_) | (refine x_fmtS ?_) | (refine x_fmtI (by first | assumption | (unfold Sm; omega)) ?_) | (refine x_joined ?_) | (refine x_js0 ?_) | (refine x_js ?_)
  | (refine x_tru ?_) | (refine x_truK (by with_unfolding_all rfl) ?_) | (refine x_bk ?_) | (refine x_bkK ?_) | (refine x_bkv ?_) | (refine x_bkvK ?_) | (refine x_revT ?_) | (refine x_revL ?_) | (refine x_revTK (by first | with_unfolding_all decide | (simp only [BIG, List.length_cons, List.length_nil]; omega)) ?_) | (refine x_revLK (by first | with_unfolding_all decide | (simp only [BIG, List.length_cons, List.length_nil]; omega)) ?_)
  | (refine x_cat ?_) | (refine x_catK ?_) | (refine x_rep ?_) | (refine x_repK ?_) | (refine x_pow (by decide) ?_)
  | (refine x_mv ?_) | (refine x_mvT ?_) | (refine x_isLst ?_) | (refine x_isPtp ?_) | (refine x_mvK ?_) | (refine x_mvtK ?_)
  | (refine x_zpS ?_) | (refine x_zp ?_) | (refine x_zpNT ?_) | (refine x_zpNL ?_) | (refine x_enm ?_) | (refine x_enmK ?_) | (refine x_enmT ?_) | (refine x_enmTK ?_) | (refine x_gTp (by with_unfolding_all rfl) ?_))
def sg (x : Int) : Int := if 0 < x then 1 else if x < 0 then -1 else 0
end CS
set_option maxHeartbeats 4000000
namespace CS
open PySem PySem.Spec PyProof.Rows L2 DL
local macro_rules | `(tactic| sizeOf_list_dec) => `(tactic| with_reducible first
  | (refine x_varP (by with_unfolding_all rfl) ?_) | (refine x_var (by with_unfolding_all rfl) ?_) | (refine x_varS (by with_unfolding_all rfl) ?_)
  | (refine x_C ?_) | (refine x_op ?_) | (refine x_un ?_) | (refine x_sub ?_)
  | (refine x_mul (by first | with_unfolding_all decide | (unfold CMul; omega)) ?_) | (refine x_mult (by first | with_unfolding_all decide | (unfold CMul; omega)) ?_)
  | (refine x_div (by unfold CDivN; omega) ?_) | (refine x_mod (by omega) ?_) | (refine x_add ?_) | (refine x_lt ?_) | (refine x_ltI ?_) | (refine x_leI ?_) | (refine x_gtI ?_) | (refine x_geI ?_)
  | (refine x_is ?_) | (refine x_notis ?_) | (refine x_neg ?_) | (refine x_eqI ?_) | (refine x_neI ?_)
  | (refine x_dtestK ?_) | (refine x_testK ?_) | (refine x_and ?_) | (refine x_or ?_) | (refine x_not ?_) | (refine x_dif ?_)
  | (refine x_T ?_) | (refine x_F ?_) | (refine x_nT ?_) | (refine x_nF ?_)
  | (refine x_nil ?_) | (refine x_cons ?_) | (refine x_cntK ?_) | (refine x_lens (by with_unfolding_all rfl) ?_)
  | (refine x_tupK ?_) | (refine x_tupD (by first | with_unfolding_all decide | (simp only [BIG, List.length_cons, List.length_nil]; omega)) ?_) | (refine x_tupPD (by first | with_unfolding_all decide | (simp only [BIG, List.length_cons, List.length_nil]; omega)) ?_) | (refine x_lstK ?_) | (refine x_lstD (by first | with_unfolding_all decide | (simp only [BIG, List.length_cons, List.length_nil]; omega)) ?_)
  | (refine x_dct ?_) | (refine x_fzS ?_) | (refine x_fzOwn ?_) | (refine x_val ?_)
  | (refine x_callK ?_) | (refine x_callD (by first | (dsimp only [pickD_cons, pickD_nil, List.cons_append, List.nil_append, List.append_nil, gD0, gDs]; done) | (dsimp only [pickD_cons, pickD_nil, List.cons_append, List.nil_append, List.append_nil, gD0, gDs]; exact rfl)) ?_)
  | (refine x_bc ?_) | (refine x_min2 ?_) | (refine x_max2 ?_)
  | (refine x_seq ?_) | (refine x_next ?_) | (refine x_brk ?_) | (refine x_cont ?_) | (refine x_drop ?_) | (refine x_ret ?_) | (refine x_retN ?_) | (refine x_if ?_)
  | (refine x_asgK ?_) | (refine x_setK (by first | (dsimp only [List.set_cons_zero, List.set_cons_succ]; done) | (dsimp only [List.set_cons_zero, List.set_cons_succ]; exact rfl)) ?_)
  | (refine x_asgT ?_) | (refine x_gN (by first | (dsimp only [List.set_cons_zero, List.set_cons_succ]; done) | (dsimp only [List.set_cons_zero, List.set_cons_succ]; exact rfl)) ?_) | (refine x_gsN ?_) | (refine x_gsC ?_) | (refine x_gT (by with_unfolding_all rfl) ?_)
  | (refine x_mNil ?_) | (refine x_mCons ?_) | (refine x_parK ?_) | (refine x_parD (by with_unfolding_all rfl) (by first | (dsimp only [setS, List.set_cons_zero, List.set_cons_succ]; done) | (dsimp only [setS, List.set_cons_zero, List.set_cons_succ]; exact rfl)) ?_)
  | (refine x_for ?_) | (refine x_rg1 ?_) | (refine x_rg2 ?_) | (refine x_rg1K (by omega) ?_) | (refine x_rg2K (by omega) ?_)
  | (refine x_andV ?_) | (refine x_orV ?_) | (refine x_notV ?_) | (refine x_andK ?_) | (refine x_orK ?_) | (refine x_notK ?_)
  | (refine x_addI ?_) | (refine x_ixL (by with_unfolding_all rfl) ?_) | (refine x_ixT (by with_unfolding_all rfl) ?_) | (refine x_slT ?_) | (refine x_oNo ?_) | (refine x_oInt ?_) | (refine x_oIntK ?_)
  | (refine x_vbc ?_) | (refine x_lenT ?_) | (refine x_lenL ?_) | (refine x_lenO1 (by with_unfolding_all rfl) ?_) | (refine x_lenO2 ?_) | (refine x_ixO1 (by with_unfolding_all rfl) ?_) | (refine x_ixO2 ?_)
  | (refine x_mt (by with_unfolding_all rfl) ?_) | (refine x_fld ?_) | (refine x_fldS ?_) | (refine x_fldP (by with_unfolding_all rfl) ?_) | (refine x_fldSK (by with_unfolding_all rfl) ?_) | (refine x_fldK (by with_unfolding_all rfl) ?_) | (refine x_selfS ?_)
  | (refine x_selfK (by with_unfolding_all rfl) (by with_unfolding_all decide) (by first | (dsimp only [List.set_cons_zero, List.set_cons_succ, List.cons_append, List.nil_append]; done) | (dsimp only [List.set_cons_zero, List.set_cons_succ, List.cons_append, List.nil_append]; exact rfl)) ?_)
  | (refine x_endI (by with_unfolding_all rfl) ?_) | (refine x_lenI ?_) | (refine x_lenK2 ?_) | (refine x_isi_NoneType_int ?_) | (refine x_isi_NoneType_bool ?_) | (refine x_isi_NoneType_str ?_) | (refine x_isi_NoneType_tuple ?_) | (refine x_isi_NoneType_list ?_) | (refine x_isi_bool_int ?_) | (refine x_isi_bool_bool ?_) | (refine x_isi_bool_str ?_) | (refine x_isi_bool_tuple ?_) | (refine x_isi_bool_list ?_) | (refine x_isi_int_int ?_) | (refine x_isi_int_bool ?_) | (refine x_isi_int_str ?_) | (refine x_isi_int_tuple ?_) | (refine x_isi_int_list ?_) | (refine x_isi_str_int ?_) | (refine x_isi_str_bool ?_) | (refine x_isi_str_str ?_) | (refine x_isi_str_tuple ?_) | (refine x_isi_str_list ?_) | (refine x_isi_tuple_int ?_) | (refine x_isi_tuple_bool ?_) | (refine x_isi_tuple_str ?_) | (refine x_isi_tuple_tuple ?_) | (refine x_isi_tuple_list ?_) | (refine x_isi_list_int ?_) | (refine x_isi_list_bool ?_) | (refine x_isi_list_str ?_) | (refine x_isi_list_tuple ?_) | (refine x_isi_list_list ?_)
  | (refine x_tupleT ?_) | (refine x_sumT ?_) | (refine x_sumL ?_) | (refine x_allL ?_) | (refine x_intI ?_) | (refine x_intB ?_) | (refine x_abs ?_) | (refine x_divmod (by omega) ?_)
  | (refine x_lcS ?_) | (refine x_lcK (by with_unfolding_all rfl) (by first | (dsimp only [wipeR, List.set_cons_zero, List.set_cons_succ]; done) | (dsimp only [wipeR, List.set_cons_zero, List.set_cons_succ]; exact rfl)) ?_) | (refine x_iseqS ?_) | (refine x_iseqD ?_) | (refine x_itupS ?_) | (refine x_itupD ?_) | (refine x_chain ?_) | (refine x_chK ?_)
  | (refine x_rgL1 ?_) | (refine x_rgL2 ?_) | (refine x_rg1LK (by omega) ?_) | (refine x_rg2LK (by omega) ?_)
  | (refine x_sfz (by first | (simp only [fzR, S.toD, List.getElem?_cons_zero, List.getElem?_cons_succ, List.set_cons_zero, List.set_cons_succ]; done) | (simp only [fzR, S.toD, List.getElem?_cons_zero, List.getElem?_cons_succ, List.set_cons_zero, List.set_cons_succ]; exact rfl)) ?_)
  | (refine x_gaddI ?_) | (refine x_aug (by with_unfolding_all rfl) ?_) | (refine x_augK (by with_unfolding_all rfl) ?_) | (refine x_setVK (by first | (dsimp only [List.set_cons_zero, List.set_cons_succ]; done) | (dsimp only [List.set_cons_zero, List.set_cons_succ]; exact rfl)) ?_) | (refine x_augIx (by with_unfolding_all rfl) ?_)
  | (refine x_strS ?_) | (refine x_strI (by first | assumption | (unfold Sm; omega)) ?_) | (refine x_fmt ?_) | (refine x_fmtS ?_) | (refine x_fmtI (by first | assumption | (unfold Sm; omega)) ?_) | (refine x_joined ?_) | (refine x_js0 ?_) | (refine x_js ?_)
  | (refine x_tru ?_) | (refine x_truK (by with_unfolding_all rfl) ?_) | (refine x_bk ?_) | (refine x_bkK ?_) | (refine x_bkv ?_) | (refine x_bkvK ?_) | (refine x_revT ?_) | (refine x_revL ?_) | (refine x_revTK (by first | with_unfolding_all decide | (simp only [BIG, List.length_cons, List.length_nil]; omega)) ?_) | (refine x_revLK (by first | with_unfolding_all decide | (simp only [BIG, List.length_cons, List.length_nil]; omega)) ?_)
  | (refine x_cat ?_) | (refine x_catK ?_) | (refine x_rep ?_) | (refine x_repK ?_) | (refine x_pow (by decide) ?_)
  | (refine x_mv ?_) | (refine x_mvT ?_) | (refine x_isLst ?_) | (refine x_isPtp ?_) | (refine x_mvK ?_) | (refine x_mvtK ?_)
  | (refine x_zpS ?_) | (refine x_zp ?_) | (refine x_zpNT ?_) | (refine x_zpNL ?_) | (refine x_enm ?_) | (refine x_enmK ?_) | (refine x_enmT ?_) | (refine x_enmTK ?_) | (refine x_gTp (by with_unfolding_all rfl) ?_))
end CS
set_option maxHeartbeats 4000000
namespace CS
open PySem PySem.Spec PyProof.Rows L2 DL
local macro_rules | `(tactic| sizeOf_list_dec) => `(tactic| with_reducible first
  | (refine x_varP (by with_unfolding_all rfl) ?_) | (refine x_var (by with_unfolding_all rfl) ?_) | (refine x_varS (by with_unfolding_all rfl) ?_)
  | (refine x_C ?_) | (refine x_op ?_) | (refine x_un ?_) | (refine x_sub ?_)
  | (refine x_mul (by first | with_unfolding_all decide | (unfold CMul; omega)) ?_) | (refine x_mult (by first | with_unfolding_all decide | (unfold CMul; omega)) ?_)
  | (refine x_div (by unfold CDivN; omega) ?_) | (refine x_mod (by omega) ?_) | (refine x_add ?_) | (refine x_lt ?_) | (refine x_ltI ?_) | (refine x_leI ?_) | (refine x_gtI ?_) | (refine x_geI ?_)
  | (refine x_is ?_) | (refine x_notis ?_) | (refine x_neg ?_) | (refine x_eqI ?_) | (refine x_neI ?_)
  | (refine x_dtestK ?_) | (refine x_testK ?_) | (refine x_and ?_) | (refine x_or ?_) | (refine x_not ?_) | (refine x_dif ?_)
  | (refine x_T ?_) | (refine x_F ?_) | (refine x_nT ?_) | (refine x_nF ?_)
  | (refine x_nil ?_) | (refine x_cons ?_) | (refine x_cntK ?_) | (refine x_lens (by with_unfolding_all rfl) ?_)
  | (refine x_tupK ?_) | (refine x_tupD (by first | with_unfolding_all decide | (simp only [BIG, List.length_cons, List.length_nil]; omega)) ?_) | (refine x_tupPD (by first | with_unfolding_all decide | (simp only [BIG, List.length_cons, List.length_nil]; omega)) ?_) | (refine x_lstK ?_) | (refine x_lstD (by first | with_unfolding_all decide | (simp only [BIG, List.length_cons, List.length_nil]; omega)) ?_)
  | (refine x_dct ?_) | (refine x_fzS ?_) | (refine x_fzOwn ?_) | (refine x_val ?_)
  | (refine x_callK ?_) | (refine x_callD (by first | (dsimp only [pickD_cons, pickD_nil, List.cons_append, List.nil_append, List.append_nil, gD0, gDs]; done) | (dsimp only [pickD_cons, pickD_nil, List.cons_append, List.nil_append, List.append_nil, gD0, gDs]; exact rfl)) ?_)
  | (refine x_bc ?_) | (refine x_min2 ?_) | (refine x_max2 ?_)
  | (refine x_seq ?_) | (refine x_next ?_) | (refine x_brk ?_) | (refine x_cont ?_) | (refine x_drop ?_) | (refine x_ret ?_) | (refine x_retN ?_) | (refine x_if ?_)
  | (refine x_asgK ?_) | (refine x_setK (by first | (dsimp only [List.set_cons_zero, List.set_cons_succ]; done) | (dsimp only [List.set_cons_zero, List.set_cons_succ]; exact rfl)) ?_)
  | (refine x_asgT ?_) | (refine x_gN (by first | (dsimp only [List.set_cons_zero, List.set_cons_succ]; done) | (dsimp only [List.set_cons_zero, List.set_cons_succ]; exact rfl)) ?_) | (refine x_gsN ?_) | (refine x_gsC ?_) | (refine x_gT (by with_unfolding_all rfl) ?_)
  | (refine x_mNil ?_) | (refine x_mCons ?_) | (refine x_parK ?_) | (refine x_parD (by with_unfolding_all rfl) (by first | (dsimp only [setS, List.set_cons_zero, List.set_cons_succ]; done) | (dsimp only [setS, List.set_cons_zero, List.set_cons_succ]; exact rfl)) ?_)
  | (refine x_for ?_) | (refine x_rg1 ?_) | (refine x_rg2 ?_) | (refine x_rg1K (by omega) ?_) | (refine x_rg2K (by omega) ?_)
  | (refine x_andV ?_) | (refine x_orV ?_) | (refine x_notV ?_) | (refine x_andK ?_) | (refine x_orK ?_) | (refine x_notK ?_)
  | (refine x_addI ?_) | (refine x_ixL (by with_unfolding_all rfl) ?_) | (refine x_ixT (by with_unfolding_all rfl) ?_) | (refine x_slT ?_) | (refine x_oNo ?_) | (refine x_oInt ?_) | (refine x_oIntK ?_)
  | (refine x_vbc ?_) | (refine x_lenT ?_) | (refine x_lenL ?_) | (refine x_lenO1 (by with_unfolding_all rfl) ?_) | (refine x_lenO2 ?_) | (refine x_ixO1 (by with_unfolding_all rfl) ?_) | (refine x_ixO2 ?_)
  | (refine x_mt (by with_unfolding_all rfl) ?_) | (refine x_fld ?_) | (refine x_fldS ?_) | (refine x_fldP (by with_unfolding_all rfl) ?_) | (refine x_fldSK (by with_unfolding_all rfl) ?_) | (refine x_fldK (by with_unfolding_all rfl) ?_) | (refine x_selfS ?_)
  | (refine x_selfK (by with_unfolding_all rfl) (by with_unfolding_all decide) (by first | (dsimp only [List.set_cons_zero, List.set_cons_succ, List.cons_append, List.nil_append]; done) | (dsimp only [List.set_cons_zero, List.set_cons_succ, List.cons_append, List.nil_append]; exact rfl)) ?_)
  | (refine x_endI (by with_unfolding_all rfl) ?_) | (refine x_lenI ?_) | (refine x_lenK2 ?_) | (refine x_isi_NoneType_int ?_) | (refine x_isi_NoneType_bool ?_) | (refine x_isi_NoneType_str ?_) | (refine x_isi_NoneType_tuple ?_) | (refine x_isi_NoneType_list ?_) | (refine x_isi_bool_int ?_) | (refine x_isi_bool_bool ?_) | (refine x_isi_bool_str ?_) | (refine x_isi_bool_tuple ?_) | (refine x_isi_bool_list ?_) | (refine x_isi_int_int ?_) | (refine x_isi_int_bool ?_) | (refine x_isi_int_str ?_) | (refine x_isi_int_tuple ?_) | (refine x_isi_int_list ?_) | (refine x_isi_str_int ?_) | (refine x_isi_str_bool ?_) | (refine x_isi_str_str ?_) | (refine x_isi_str_tuple ?_) | (refine x_isi_str_list ?_) | (refine x_isi_tuple_int ?_) | (refine x_isi_tuple_bool ?_) | (refine x_isi_tuple_str ?_) | (refine x_isi_tuple_tuple ?_) | (refine x_isi_tuple_list ?_) | (refine x_isi_list_int ?_) | (refine x_isi_list_bool ?_) | (refine x_isi_list_str ?_) | (refine x_isi_list_tuple ?_) | (refine x_isi_list_list ?_)
  | (refine x_tupleT ?_) | (refine x_sumT ?_) | (refine x_sumL ?_) | (refine x_allL ?_) | (refine x_intI ?_) | (refine x_intB ?_) | (refine x_abs ?_) | (refine x_divmod (by omega) ?_)
  | (refine x_lcS ?_) | (refine x_lcK (by with_unfolding_all rfl) (by first | (dsimp only [wipeR, List.set_cons_zero, List.set_cons_succ]; done) | (dsimp only [wipeR, List.set_cons_zero, List.set_cons_succ]; exact rfl)) ?_) | (refine x_iseqS ?_) | (refine x_iseqD ?_) | (refine x_itupS ?_) | (refine x_itupD ?_) | (refine x_chain ?_) | (refine x_chK ?_)
  | (refine x_rgL1 ?_) | (refine x_rgL2 ?_) | (refine x_rg1LK (by omega) ?_) | (refine x_rg2LK (by omega) ?_)
  | (refine x_sfz (by first | (simp only [fzR, S.toD, List.getElem?_cons_zero, List.getElem?_cons_succ, List.set_cons_zero, List.set_cons_succ]; done) | (simp only [fzR, S.toD, List.getElem?_cons_zero, List.getElem?_cons_succ, List.set_cons_zero, List.set_cons_succ]; exact rfl)) ?_)
  | (refine x_gaddI ?_) | (refine x_aug (by with_unfolding_all rfl) ?_) | (refine x_augK (by with_unfolding_all rfl) ?_) | (refine x_setVK (by first | (dsimp only [List.set_cons_zero, List.set_cons_succ]; done) | (dsimp only [List.set_cons_zero, List.set_cons_succ]; exact rfl)) ?_) | (refine x_augIx (by with_unfolding_all rfl) ?_)
  | (refine x_strS ?_) | (refine x_strI (by first | assumption | (unfold Sm; omega)) ?_) | (refine x_fmt ?_) | (refine x_fmtS ?_) | (refine x_fmtI (by first | assumption | (unfold Sm; omega)) ?_) | (refine x_joined ?_) | (refine x_js0 ?_) | (refine x_js ?_)
  | (refine x_tru ?_) | (refine x_truK (by with_unfolding_all rfl) ?_) | (refine x_bk ?_) | (refine x_bkK ?_) | (refine x_bkv ?_) | (refine x_bkvK ?_) | (refine x_revT ?_) | (refine x_revL ?_) | (refine x_revTK (by first | with_unfolding_all decide | (simp only [BIG, List.length_cons, List.length_nil]; omega)) ?_) | (refine x_revLK (by first | with_unfolding_all decide | (simp only [BIG, List.length_cons, List.length_nil]; omega)) ?_)
  | (refine x_cat ?_) | (refine x_catK ?_) | (refine x_rep ?_) | (refine x_repK ?_) | (refine x_pow (by decide) ?_)
  | (refine x_mv ?_) | (refine x_mvT ?_) | (refine x_isLst ?_) | (refine x_isPtp ?_) | (refine x_mvK ?_) | (refine x_mvtK ?_)
  | (refine x_zpS ?_) | (refine x_zp ?_) | (refine x_zpNT ?_) | (refine x_zpNL ?_) | (refine x_enm ?_) | (refine x_enmK ?_) | (refine x_enmT ?_) | (refine x_enmTK ?_) | (refine x_gTp (by with_unfolding_all rfl) ?_))
end CS
set_option maxHeartbeats 4000000
/-! DL39: sorted of pairs of ints. -/
namespace DL
open PySem PySem.Spec PyProof.Rows L2
end DL
set_option maxHeartbeats 4000000
/-! DL40: an expression that is never come to. -/
namespace DL
open PySem PySem.Spec PyProof.Rows L2
end DL
set_option maxHeartbeats 4000000
/-! DL41: xs[i] = e, xs owned; xs != e, xs owned. -/
namespace DL
open PySem PySem.Spec PyProof.Rows L2
end DL
set_option maxHeartbeats 4000000
/-! DL42: methods of texts with one argument. -/
namespace DL
open PySem PySem.Spec PyProof.Rows L2
end DL
set_option maxHeartbeats 4000000
/-! DL43: sorted(set(xs)), xs a list of ints. -/
namespace DL
open PySem PySem.Spec PyProof.Rows L2
end DL
set_option maxHeartbeats 4000000
/-! DL44: sorted(set(xs)) by data. -/
namespace DL
open PySem PySem.Spec PyProof.Rows L2
end DL
set_option maxHeartbeats 4000000
/-! DL45: own exceptions whose __init__ keeps its one argument: made and raised. -/
namespace DL
open PySem PySem.Spec PyProof.Rows L2
variable [TabC]
def SpX (K : PySem.W.Frag) (C : Addr) (f : Str) : Sp := fun vs H Q _ => ∃ (a : Addr) (v : V), vs = [.ref a, v] ∧ H a = some (exo a C none) ∧ ∀ dx, H dx = none → dx ≠ a → Q .non (upd (upd H dx (exd dx [(f, v)])) a (exo a C (some dx)))
section
variable {P : Program} {w : World} {K : PySem.W.Frag} {mg : Str → Option Value} {base : Heap}
theorem fn_x {x qual : Str} {params : Arguments} {body : List Stmt} {scope : Scope} {dvs : List V} {kws : List (Str × V)} {fa : Addr} {fd : FuncData} {k : Nat} {C : Addr} {f s0 s1 : Str} (F : FunD K x qual params body scope dvs kws fa fd) (S : FnScope [s0, s1] [s0, s1] scope)
    (T : OexC K C) (hf : PySem.W.findIn K (.ref C) f = some none)
    (hb : ∀ (cdv : Value) (A : Around) (outer : List PySem.Env) (s : Shared) (H : Hp) (E : XK), Room k (A.deeper (envOfC qual scope s.heap.objs.size fa cdv)) → PSs (cxOf (L2.CX P w) P w K mg base [s0, s1] qual scope fa cdv A outer s H E) body (tOst K f (tVar 0) (tVar 1))) :
    FnOk P w K mg base (L2.CX P w) (k + 1) fa fd [s0, s1] (SpX K C f) := by
  refine F.ok S (fun vs H Q E h => by obtain ⟨a, v, rfl, _⟩ := h; rfl) fun cdv A outer s H vs Q E hr h => ?_
  obtain ⟨a, v, rfl, ha, hQ⟩ := h
  exact ⟨_, hb cdv A outer s H E hr, v, rfl, .ref a, rfl, a, C, rfl, T, hf, .inl ⟨ha, fun dx h1 h2 => hQ dx h1 h2⟩⟩
end
def sRaise (c f : Str) (τs : TDa) : TDS := fun ρ kx _ => τs ρ kx fun ds ρ1 => ds.length = 1 ∧ kx ⟨c, [f], ds⟩ ρ1
section
variable {X : Cx} {e : Expr} {es : List Expr} {τs : TDa} {x : Str} {p pos pos' : Pos}
theorem sd_raise {CX : CXT} {C fI : Addr} {k : Nat} {fd : FuncData} {ps : List Str} {f : Str} (hc : X.calm = true) (T : OexC X.K C) (iC : PySem.W.findIn X.K (.ref C) "__init__" = some (some (.ref fI))) (tI : PySem.W.typeIn X.K (.ref fI) = some (.type "function"))
    (F1 : FnOk X.prog X.w X.K X.mg X.base CX k fI fd ps (SpX X.K C f)) (hr : Room (k + 1) X.A) (hb : Binds X.K fd ps []) (hx : Passes CX X (fun _ _ _ => False)) (hg : Gl X x) (hm : X.mg x = some (.ref C)) (ha : PAd X (e :: es) τs)
    (hdb : (x == ("__debug__" : Str)) = false := by decide) (he : starEach (e :: es) X.env = (false, eval e X.env) :: starEach es X.env := by rfl) (hpl : (backTo pos (starEach es X.env)).any (·.1) = false := by rfl) :
    PSd X (.Raise (some (.Call (.Name x p) (e :: es) [] pos)) none pos') (sRaise x f τs) := by
  refine ⟨⟨fun pins s σ H D I ⟨W, F, ρ, kx, kk, tk, R, h, L⟩ => ?_⟩⟩
  refine (ps_raise hc tk (pmk_oex (dvs := []) T iC tI F1 hr hb .nil hx hg hm ha.p hdb he hpl)).run pins s σ H D I ?_
  refine ⟨W, F, ρ, kx, _, tk, R, h, fun ds ρ1 vs H1 W1 ⟨hl, hk⟩ le1 R1 d1 => ?_⟩
  match ds, vs, hl, d1, dvs_len d1 with
  | [d], [v], _, d1, _ =>
    refine ⟨by simp, fun a hn => ⟨a, v, rfl, upd_same, fun dx h1 h2 => ?_⟩⟩
    have hdx : H1 dx = none := by rw [← h1, upd_ne h2]
    have e1 : upd (del (upd (upd (upd H1 a (exo a C none)) dx (exd dx [(f, v)])) a (exo a C (some dx))) a) dx (.xd [(f, v)]) = upd H1 dx (.xd [(f, v)]) := by
      funext b
      by_cases q : b = dx
      · rw [q, upd_same, upd_same]
      · rw [upd_ne q, upd_ne q]
        by_cases q2 : b = a
        · rw [q2, del_same, hn]
        · rw [del_ne q2, upd_ne q2, upd_ne q, upd_ne q2]
    refine ⟨rfl, dx, [(f, v)], upd_same, by rw [upd_ne h2, upd_same], hdx, ?_⟩
    rw [e1]
    have le2 := Wd.add_le (W := W1) (o := .xd [(f, v)]) (free.fresh R1.w hdx).1
    exact ⟨_, ρ1, _, hk, le1.trans le2, R1.add hdx, C, [v], hm, rfl, rfl, DVs.mono le2 _ _ d1, upd_same⟩
end
end DL
set_option maxHeartbeats 4000000
/-! DL46: try: .. except C: .. (no name, a suite that does not raise). -/
namespace DL
open PySem PySem.Spec PyProof.Rows L2
variable [TabC]
def sTry (known : List Str) (sub : Str → Bool) (τ τh : TDS) : TDS := fun ρ kx k => τ ρ (fun xd ρ1 => known.contains xd.c = true ∧ if sub xd.c = true then τh ρ1 (fun _ _ => False) k else kx xd ρ1) k
end DL
set_option maxHeartbeats 4000000
/-! DL47: an own exception made with keywords. -/
namespace PySem.HandSPX
open PySem.W PySem.Calls PyProof.Rows Builtin
section
variable {prog : Program} {w : World} {A : Around} {E : Value → Shared → Prop} {R : Result → Shared → Prop} {h : Heap} {g : Array GenState} {d : Drawn} {t : Nat} {os : OsState}
variable {nm q : Str} {C N : Addr} {bs bm bmB : List Value} {hdct : Bool} {sn : List Str} {sub : List Value} {ab : Bool} {col : Option Bool} {dd : Option Addr} {k0 k1 k2 k3 k5 : Option Value} {B newId initId : String}
theorem dl_new (F : ExcBaseFacts B newId initId bmB) (hT : ∀ X : String, bm.contains (.type X) = bmB.contains (.type X)) {rest : List Value} {kws : List (Str × Value)}
    (hC : h.get? C = some (excClassObj nm q C N bs bm hdct sn sub ab col dd k0 k1 k2 k3 k5 newId))
    (hq : R (.ok (.ret (.ref (h.objs.size + 1)))) ⟨(h.push { cls := .type "tuple", data := .seq rest.toArray }).push
      { cls := .ref C, data := .fields #[.ref h.objs.size, .none, .none, .none, .bool false, .none] }, g, d, t, os⟩) (hrest : rest.length ≤ sizeLine) :
    codeAny (model prog w) A (.builtin newId ⟨.ref C :: rest, kws⟩) R ⟨h, g, d, t, os⟩ := by
  have hends := F.ends
  have hcB : (Value.ref C :: bm).contains (.type B) = true := by rw [List.contains_cons, hT, F.hasB, Bool.or_true]
  have hcA : (Value.ref C :: bm).contains (.type "AttributeError") = false := by rw [List.contains_cons, hT, F.noAttr]; rfl
  have hcN : (Value.ref C :: bm).contains (.type "NameError") = false := by rw [List.contains_cons, hT, F.noName]; rfl
  refine codeAny_builtinAt F.entry ?_
  unfold Builtin.«BaseException.__new__»
  refine wpAt_bind ?_
  show wpAt _ _ _ (stack >>= _) _ _ _
  refine wpAt_bind (wpAt_stack fun p below => wpAt_of_wpAny ?_)
  wp_walk
  refine wpAt_of_wpAny ?_
  rw [F.owner]
  repeat (first | with_reducible refine wpAny_madeHere_exc F.canon hC ?_ | with_reducible refine wpAny_loadPart_at hC ?_ | (with_reducible refine wpAny_isSubtype_exc hC ?_; first | rw [hcB] | rw [hcA] | rw [hcN]) | wp_step)
  show R _ _
  rw [Heap.size_push]
  exact hq
theorem dl_check_new {M : Model} (F : ExcBaseFacts B newId initId bmB) (hT : ∀ X : String, bm.contains (.type X) = bmB.contains (.type X)) {rest : List Value} {kws : List (Str × Value)} {Q : Unit → Shared → Prop}
    (hC : h.get? C = some (excClassObj nm q C N bs bm hdct sn sub ab col dd k0 k1 k2 k3 k5 newId)) (hq : Q () ⟨h, g, d, t, os⟩) : wpAny M A (checkBuiltinCall newId ⟨.ref C :: rest, kws⟩) Q E ⟨h, g, d, t, os⟩ := by
  have hcont : (Value.ref C :: bm).contains (.type B) = true := by rw [List.contains_cons, hT, F.hasB, Bool.or_true]
  have hstar := F.noStar
  simp only [checkBuiltinCall, F.newKind, F.newSplit, F.newRow]
  repeat (first | refine wpAny_loadPart_at hC ?_ | (refine wpAny_isSubtype_exc hC ?_; rw [hcont]) | refine wpAny_staticBase_exc hC ?_ | refine wpAny_madeBy_exc hC ?_ | simp only [bne_self_eq_false, Bool.false_eq_true, if_false] | wp_step)
  all_goals exact hq
theorem dl_check_tc {M : Model} {rest : List Value} {kws : List (Str × Value)} {Q : Unit → Shared → Prop} (hC : h.get? C = some (excClassObj nm q C N bs bm hdct sn sub ab col dd k0 k1 k2 k3 k5 newId))
    (hq : Q () ⟨h, g, d, t, os⟩) : wpAny M A (checkBuiltinCall "type.__call__" ⟨.ref C :: rest, kws⟩) Q E ⟨h, g, d, t, os⟩ := by
  have f3 := tc_sub
  have hT : (⟨h, g, d, t, os⟩ : Shared).TypeIs (.ref C) "type" := ⟨_, hC, rfl⟩
  simp only [checkBuiltinCall, tc_kind, tc_split]
  repeat (first | assumption | with_reducible refine wpAny_loadPart_at hC ?_ | wp_step)
  all_goals exact hq
theorem dl_type_call (F : ExcBaseFacts B newId initId bmB) (hT : ∀ X : String, bm.contains (.type X) = bmB.contains (.type X)) {rest : List Value} {kws : List (Str × Value)} {fI : Addr} {Q : Fin → Shared → Prop}
    (hC : h.get? C = some (excClassObj nm q C N bs bm hdct sn sub ab col dd k0 k1 k2 k3 k5 newId))
    (hi : W.Looks (model prog w) h (typeLookup (.ref C) "__init__") (some (.ref fI))) (hb : ∀ self, W.Looks (model prog w) h (bindSpecial (.ref fI) self) (.ref fI, [self])) (hrest : rest.length ≤ sizeLine)
    (hq : codeAny (model prog w) A (.call (.ref fI) ⟨.ref (h.objs.size + 1) :: rest, kws⟩)
      (fun r s' => match r with | .ok (.ret v) => v = .none ∧ Q (.done (.ret (.ref (h.objs.size + 1)))) s' | .ok _ => False | .error e => E e s')
      ⟨(h.push (W.kdv_tup rest)).push (excO C h.objs.size), g, d, t, os⟩) :
    wpAny (model prog w) A (Builtin.«type.__call__» ⟨.ref C :: rest, kws⟩) Q E ⟨h, g, d, t, os⟩ := by
  repeat (first | with_reducible refine wpAny_loadPart_at hC ?_ | with_reducible refine wpAny_madeBy_exc hC ?_ | wp_step)
  refine codeAny_call_builtin_code (Code.quiet_builtin _ F.quiet) (dl_check_new F hT hC ?_)
  refine dl_new F hT hC ?_ hrest
  show wpAny _ _ _ _ _ _
  have k : ∀ b o, h.get? b = some o → ((h.push (W.kdv_tup rest)).push (excO C h.objs.size)).get? b = some o := fun b o e => Heap.get?_push_of_some _ (Heap.get?_push_of_some _ e)
  have hC₁ := k _ _ hC
  have hget : ((h.push (W.kdv_tup rest)).push (excO C h.objs.size)).get? (h.objs.size + 1) = some (excO C h.objs.size) := by heap_get
  have hcC : (Value.ref C :: bm).contains (.ref C) = true := by simp
  have i1 := hi.keeps k
  have b1 := (hb (.ref (h.objs.size + 1))).keeps k
  unfold isInstance
  repeat (first | with_reducible refine wpAny_loadPart_at hget ?_ | (with_reducible refine wpAny_isSubtype_exc hC₁ ?_; rw [hcC]) | wp_step)
  show wpAny _ _ (typeLookup (.ref C) _) _ _ _
  refine i1.at ?_
  refine wpAny_holding (wpAny_bind (b1.at ?_))
  refine wpAny_bind (wpAny_call (codeAny_mono hq fun r s' z => ?_))
  rcases r with e | (v | _ | _ | _) <;> first | exact z | exact z.elim | skip
  obtain ⟨rfl, z⟩ := z
  first
    | exact wpAny_pure (wpAny_pure z)
    | (wp_walk; exact z)
theorem dl_call (F : ExcBaseFacts B newId initId bmB) (hT : ∀ X : String, bm.contains (.type X) = bmB.contains (.type X)) {rest : List Value} {kws : List (Str × Value)} {fI : Addr}
    (hC : h.get? C = some (excClassObj nm q C N bs bm hdct sn sub ab col dd k0 k1 k2 k3 k5 newId))
    (hi : W.Looks (model prog w) h (typeLookup (.ref C) "__init__") (some (.ref fI))) (hb : ∀ self, W.Looks (model prog w) h (bindSpecial (.ref fI) self) (.ref fI, [self])) (hrest : rest.length ≤ sizeLine)
    (hq : codeAny (model prog w) (A.under (.builtin "type.__call__" ⟨.ref C :: rest, kws⟩)) (.call (.ref fI) ⟨.ref (h.objs.size + 1) :: rest, kws⟩) (W.InitBack (h.objs.size + 1) R)
      ⟨(h.push (W.kdv_tup rest)).push (excO C h.objs.size), g, d, t, os⟩) :
    codeAny (model prog w) A (.call (.ref C) ⟨rest, kws⟩) R ⟨h, g, d, t, os⟩ := by
  have f1 := tc_lookup
  have f2 := tc_bind (.ref C)
  have hTy : (⟨h, g, d, t, os⟩ : Shared).TypeIs (.ref C) "type" := ⟨_, hC, rfl⟩
  refine codeAny_of_tree ?_
  show wpAny _ _ (callAny (.ref C) _) _ _ _
  repeat (any_goals (first | assumption | with_reducible refine wpAny_loadPart_at hC ?_ | wp_step))
  refine ⟨rfl, ?_⟩
  refine codeAny_call_builtin_at (Code.quiet_builtin _ (by decide +kernel)) entry_typeCall (dl_check_tc hC (dl_type_call F hT hC hi hb hrest ?_))
  refine codeAny_mono hq fun r s' z => ?_
  rcases r with e | (v | _ | _ | _) <;> exact z
end
end PySem.HandSPX
set_option maxHeartbeats 4000000
/-! DL48: raise C(f=e). -/
namespace L2
open PySem PySem.Spec PyProof.Rows
def tMkK (C : Addr) (m : Nat) (sp : Sp) (ta : TA) : St → Hp → XK → Prop := fun σ H Q => ta σ H fun vs H1 => vs.length = m ∧ ∀ a, H1 a = none → sp (.ref a :: vs) (upd H1 a (exo a C none))
  (fun v H2 => v = .non ∧ ∃ (d : Addr) (fs : List (Str × V)), H2 a = some (exo a C (some d)) ∧ H2 d = some (exd d fs) ∧ H1 d = none ∧ Q (.ref C) (some d) (upd (del H2 a) d (.xd fs))) (fun _ _ _ => False)
section
variable {X : Cx} {p pos : Pos} {kws : List Keyword} {tk : TA} {ks : List Str}
theorem pmk_oexK {CX : CXT} {x : Str} {C fI : Addr} {k : Nat} {fd : FuncData} {ps : List Str} {sp : Sp} (T : OexC X.K C) (iC : PySem.W.findIn X.K (.ref C) "__init__" = some (some (.ref fI))) (tI : PySem.W.typeIn X.K (.ref fI) = some (.type "function"))
    (F1 : FnOk X.prog X.w X.K X.mg X.base CX k fI fd ps sp) (hr : Room (k + 1) X.A) (hb : ∀ (s : Shared) (us ws : List Value), X.K.In s.heap → us.length = 1 → ws.length = ks.length → BindsTo s fd ⟨us, ks.zip ws⟩ (ps.zip (us ++ ws))) (hx : Passes CX X (fun _ _ _ => False)) (hg : Gl X x) (hm : X.mg x = some (.ref C)) (hkw : PK X kws tk)
    (hall : (backToKw pos (keywordEach kws X.env)).all (·.1.isSome) = true := by rfl) (hks : (backToKw pos (keywordEach kws X.env)).filterMap (·.1) = ks := by rfl) (hdb : (x == ("__debug__" : Str)) = false := by decide)
    (hpl : ((backTo pos (starEach [] X.env)).any (·.1) || (backToKw pos (keywordEach kws X.env)).any (·.1.isNone)) = false := by rfl) :
    PMk X (.Call (.Name x p) [] kws pos) (tMkK C ks.length sp tk) := by
  intro pins s σ H Q I h
  obtain ⟨nm, q, N, bs, bm, sn, sub, ab, col, dd, k0, k1, k2, k3, k5, hC, hbm⟩ := T.cls
  refine wpAny_Call_Name_kw (ld_glob I hg hm ?_ hdb)
  refine PySem.W.callWith_KW0 (h₀ := X.base) I.ok.mod.kin T.kC hall ?_ hpl
  refine thn (hkw.run pos pins s σ H _ I h) fun us s1 ⟨vs, H1, I1, r1, l2, q1⟩ => ⟨I1.kIn, ?_⟩
  rw [hks]
  show wpAny _ _ (call (.ref C) [] (ks.zip us)) _ _ _
  obtain ⟨hp, g, dr, tk, os⟩ := s1
  have hsz : hp.objs.size ≤ hp.objs.size + 1 := Nat.le_succ _
  have hn : H1 (hp.objs.size + 1) = none := I1.hok.fresh hsz
  have hq := q1 (hp.objs.size + 1) hn
  have kk : ∀ b o, hp.get? b = some o → ((hp.push (PySem.W.kdv_tup [])).push (PySem.HandSPX.excO C hp.objs.size)).get? b = some o := fun b o e => Heap.get?_push_of_some _ (Heap.get?_push_of_some _ e)
  have hget : ((hp.push (PySem.W.kdv_tup [])).push (PySem.HandSPX.excO C hp.objs.size)).get? (hp.objs.size + 1) = some (PySem.HandSPX.excO C hp.objs.size) := by heap_get
  have I2 : Inv X pins σ (upd H1 (hp.objs.size + 1) (exo (hp.objs.size + 1) C none)) ⟨(hp.push (PySem.W.kdv_tup [])).push (PySem.HandSPX.excO C hp.objs.size), g, dr, tk, os⟩ :=
    I1.laid (t' := tk) (a := hp.objs.size + 1) (o := exo (hp.objs.size + 1) C none) (h' := (hp.push (PySem.W.kdv_tup [])).push (PySem.HandSPX.excO C hp.objs.size)) kk hsz (exo_ok hget)
  have r2 : Vals (V.ref (hp.objs.size + 1) :: vs) (Value.ref (hp.objs.size + 1) :: us) := .cons rfl r1
  refine wpAny_call (PySem.HandSPX.dl_call F.excBase_ValueError (fun Y => PySem.HandSPX.refsVE_contains Y bm hbm) (I1.kIn _ _ hC) (PySem.W.looks_findIn I1.kIn iC) (fun self => PySem.W.bind_fn I1.kIn self tI) (Nat.zero_le _)
    (codeAny_mono (F1.run _ X.stack _ _ ⟨[Value.ref (hp.objs.size + 1)], ks.zip us⟩ (Value.ref (hp.objs.size + 1) :: us) _ _ (fun _ _ _ => False) (hr.make C [] (ks.zip us)) (I2.env0.make C [] (ks.zip us)) (hb _ [Value.ref (hp.objs.size + 1)] us I2.kIn rfl (by rw [← l2]; exact r1.length.symm)) r2 hq) fun r s' hq' => ?_))
  cases r with
  | error er => exact hx pins σ _ _ er s' I2 hq'
  | ok fl =>
    cases fl with
    | ret u =>
      obtain ⟨v, H2, os2, bare2, un2, hok2, rv, ev, d, fs, ea, ed, hd1, q2⟩ := hq'
      subst ev
      obtain ⟨h2, g2, d2, t2, os'⟩ := s'
      exact ⟨rv, mk_end (raises_own T.exC T.tyC) I1 hsz kk un2 hok2 os2 bare2 ea ed hd1 q2⟩
    | next => exact False.elim hq'
    | brk => exact False.elim hq'
    | cont => exact False.elim hq'
end
end L2
namespace DL
open PySem PySem.Spec PyProof.Rows L2
variable [TabC]
section
variable {X : Cx} {kws : List Keyword} {τk : TDa} {x : Str} {p pos pos' : Pos} {ks : List Str}
theorem sd_raiseK {CX : CXT} {C fI : Addr} {k : Nat} {fd : FuncData} {ps : List Str} {f : Str} (hc : X.calm = true) (T : OexC X.K C) (iC : PySem.W.findIn X.K (.ref C) "__init__" = some (some (.ref fI))) (tI : PySem.W.typeIn X.K (.ref fI) = some (.type "function"))
    (F1 : FnOk X.prog X.w X.K X.mg X.base CX k fI fd ps (SpX X.K C f)) (hr : Room (k + 1) X.A) (hb : ∀ (s : Shared) (us ws : List Value), X.K.In s.heap → us.length = 1 → ws.length = ks.length → BindsTo s fd ⟨us, ks.zip ws⟩ (ps.zip (us ++ ws)))
    (hx : Passes CX X (fun _ _ _ => False)) (hg : Gl X x) (hm : X.mg x = some (.ref C)) (hk : PKd X kws τk) (h1 : ks.length = 1)
    (hall : (backToKw pos (keywordEach kws X.env)).all (·.1.isSome) = true := by rfl) (hks : (backToKw pos (keywordEach kws X.env)).filterMap (·.1) = ks := by rfl) (hdb : (x == ("__debug__" : Str)) = false := by decide)
    (hpl : ((backTo pos (starEach [] X.env)).any (·.1) || (backToKw pos (keywordEach kws X.env)).any (·.1.isNone)) = false := by rfl) :
    PSd X (.Raise (some (.Call (.Name x p) [] kws pos)) none pos') (sRaise x f τk) := by
  refine ⟨⟨fun pins s σ H D I ⟨W, F, ρ, kx, kk, tk, R, h, L⟩ => ?_⟩⟩
  refine (ps_raise hc tk (pmk_oexK T iC tI F1 hr hb hx hg hm hk.p hall hks hdb hpl)).run pins s σ H D I ?_
  refine ⟨W, F, ρ, kx, _, tk, R, h, fun ds ρ1 vs H1 W1 ⟨hl, hk⟩ le1 R1 d1 => ?_⟩
  match ds, vs, hl, d1, dvs_len d1 with
  | [d], [v], _, d1, _ =>
    refine ⟨h1.symm, fun a hn => ⟨a, v, rfl, upd_same, fun dx h1 h2 => ?_⟩⟩
    have hdx : H1 dx = none := by rw [← h1, upd_ne h2]
    have e1 : upd (del (upd (upd (upd H1 a (exo a C none)) dx (exd dx [(f, v)])) a (exo a C (some dx))) a) dx (.xd [(f, v)]) = upd H1 dx (.xd [(f, v)]) := by
      funext b
      by_cases q : b = dx
      · rw [q, upd_same, upd_same]
      · rw [upd_ne q, upd_ne q]
        by_cases q2 : b = a
        · rw [q2, del_same, hn]
        · rw [del_ne q2, upd_ne q2, upd_ne q, upd_ne q2]
    refine ⟨rfl, dx, [(f, v)], upd_same, by rw [upd_ne h2, upd_same], hdx, ?_⟩
    rw [e1]
    have le2 := Wd.add_le (W := W1) (o := .xd [(f, v)]) (free.fresh R1.w hdx).1
    exact ⟨_, ρ1, _, hk, le1.trans le2, R1.add hdx, C, [v], hm, rfl, rfl, DVs.mono le2 _ _ d1, upd_same⟩
end
end DL
set_option maxHeartbeats 4000000
/-! DL49: try: .. except C as e: kept = e; the kept exception is a value from then on. -/
namespace DL
open PySem PySem.Spec PyProof.Rows L2
variable [TabC]
theorem exO_ok {P : Program} {w : World} {H : Hp} {h : Heap} {a : Addr} {cls : Value} {d : Option Addr} {oe : Obj} {vs : Array Value} (e : h.get? a = some oe) (z : Zc cls d oe) (hd : oe.data = .fields vs) : ObjOk P w H h a (ExO cls d a) :=
  ⟨⟨oe, vs, e, z, hd⟩, ⟨oe, e⟩, fun _ _ ⟨o, v, q, r⟩ k => ⟨o, v, k o q, r⟩⟩
section
variable {X : Cx} {pins : List (Addr × Obj)} {σ : L2.St} {H : Hp} {s : Shared}
theorem adopt {a : Addr} {oe : Obj} {cls : Value} {d : Option Addr} {vs : Array Value} (I : Inv X ((a, oe) :: pins) σ H s) (hz : Zc cls d oe) (hd : oe.data = .fields vs) (hn : X.s_0.heap.get? a = none) (hp : ∀ p ∈ X.pn ++ pins, p.1 ≠ a) :
    Inv X pins σ (upd H a (ExO cls d a)) s := by
  obtain ⟨ha, na, nL, nF, _⟩ := I.pin (a, oe) (List.mem_append_right _ List.mem_cons_self)
  have un : ∀ {b : Addr} {u : HO}, H b = some u → b ≠ a := fun e => ne_of_none e na
  refine ⟨I.ok, I.os, I.bare, ⟨I.base.keep, I.base.slot, fun b o e n hx => ?_, I.base.there, fun b xs e => ?_, fun b o xs e => ?_, fun b ps e => ?_⟩, I.loc, I.cell, ?_, fun x c e => ?_, fun p hpp => ?_, fun b u e => ?_, I.len⟩
  · rw [upd_ne (fun z => by rw [z, hn] at e; cases e)]
    exact I.base.free b o e n hx
  · have q := I.base.tups b xs e
    rw [upd_ne (un q)]; exact q
  · have q := I.base.frzs b o xs e
    rw [upd_ne (un q)]; exact q
  · obtain ⟨m, q⟩ := I.base.tbls b ps e
    exact ⟨m, by rw [upd_ne (un q)]; exact q⟩
  · rw [upd_ne (Ne.symm nL)]; exact I.free
  · have ne : c ≠ a := fun z => by
      obtain ⟨v, o, ho, hc⟩ := I.cell x c e
      rw [z, ha] at ho
      cases ho
      rw [hd] at hc
      cases hc
    rw [upd_ne ne]; exact I.freeC x c e
  · have hm : p ∈ X.pn ++ ((a, oe) :: pins) := by
      rcases List.mem_append.mp hpp with q | q
      · exact List.mem_append_left _ q
      · exact List.mem_append_right _ (List.mem_cons_of_mem _ q)
    obtain ⟨e, n, ne, nf, dd⟩ := I.pin p hm
    exact ⟨e, by rw [upd_ne (hp p hpp)]; exact n, ne, nf, dd⟩
  · by_cases hb : b = a
    · subst hb
      rw [upd_same] at e
      cases e
      exact exO_ok ha hz hd
    · rw [upd_ne hb] at e
      exact (I.hok b u e).stay (fun _ _ _ q => q) (fun c q => by rw [upd_ne (un q)]; exact q) fun c xs q => by rw [upd_ne (un q)]; exact q
end
def wKeep (K : PySem.W.Frag) (c : Value) (i j : Nat) (Wout : WX) (D : Ends) : WX := fun cls d σ H =>
  ∃ b, PySem.W.exmOne K cls c = some b ∧ (b = true → ∀ a, H a = none → D.nx (((σ.set i (some (.ref a))).set j (some (.ref a))).set i none) (upd H a (ExO cls d a))) ∧ (b = false → Wout cls d σ H)
section
variable {X : Cx} {x n y : Str} {c : Value} {i j : Nat} {body : List Stmt} {np q1 q2 q3 pos pos' : Pos} {tb : WX → TS} {Wout : WX}
theorem ps_try_keep (hs : X.stack = X.env :: X.outer) (hf : X.env.frame = some X.env.locals) (hex : X.ex = []) (hN : X.N.Nodup) (hi : X.N[i]? = some n) (hln : X.env.kindOf n = some .local) (hj : X.N[j]? = some y) (hlj : X.env.scope.names.lookup y = some .local)
    (hc : Names X x c) (tk : Takes X Wout) (hdn : (n == ("__debug__" : Str)) = false) (hdc : (n == ("__classdict__" : Str)) = false) (hsw : swapsWith (.Name n q2) (some (.Name y q1)) q3.line X.env = pure false)
    (hb : ∀ (W : WX) (pn : List (Addr × Obj)) (xe : Value → Shared → Prop), Takes (X.tr pn xe) W → PassesOwn (model X.prog X.w) X.A X.env xe → PSs (X.tr pn xe) body (tb W)) :
    PS X (.Try body [.ExceptHandler (some (.Name x np)) (some n) [.Assign [.Name y q1] (.Name n q2) q3] pos'] [] [] pos) (fun D σ H => tb (wKeep X.K c i j Wout D) D σ H) := by
  refine ⟨fun pins s σ H D I h => ?_⟩
  have ok := I.ok
  have frm : X.A.frames = some (X.env :: X.outer) := by rw [ok.frames, hs]
  refine wpAny_Try_except ?_
  refine wpAny_mono ((hb (wKeep X.K c i j Wout D) (X.pn ++ pins) (fun e s₁ => wpAny (model X.prog X.w) X.A (noteFrame e X.env) (fun _ s₂ => wpAny (model X.prog X.w) X.A (setFlight e none) (fun _ s₃ =>
    wpAny (model X.prog X.w) X.A (handleBy e X.env [.ExceptHandler (some (.Name x np)) (some n) [.Assign [.Name y q1] (.Name n q2) q3] pos']) (SP X pins D) X.xe s₃) X.xe s₂) X.xe s₁) (fun u s' xx => ?_) PassesOwn.looking).run [] s σ H D (I.toTry _) h) (fun f s1 hsp => ?_) (fun _ _ z => z)
  · obtain ⟨a, B, sI, pins', σ', H', cls, d, rfl, J', nb, up, sky, na, os, ag, b, hb1, hyes, hno⟩ := xx
    have J : Inv X pins σ' H' sI := J'.ofTry ok
    have sky' : Sky B (X.env :: X.outer) a (Zc cls d) X.env.locals s'.heap := by rw [← hs]; exact sky
    show wpAny (model X.prog X.w) X.A (noteFrame (.ref a) X.env) _ _ _
    refine Sky.land Zc.steady frm hf sky' fun h3 fl3 up3 => ?_
    have J3 : Inv X pins σ' H' { s' with heap := h3 } := J.landed nb fl3.1 (up.trans up3) os ag
    obtain ⟨oe3, vs3, he3, hz3, hd3⟩ := fl3.there
    have nfr : a ∉ frs (X.env :: X.outer) := fun hm => by
      obtain ⟨_, o', e', hnf⟩ := fl3.2.2.1.mem hm
      rw [he3] at e'
      cases e'
      exact hnf _ hd3
    have nL : a ≠ X.env.locals := fun z => nfr (List.mem_filterMap.mpr ⟨X.env, List.mem_cons_self, by rw [hf, z]⟩)
    have nF : a ∉ X.fs := fun hm => by
      obtain ⟨e, he, q⟩ := List.mem_filterMap.mp hm
      exact nfr (List.mem_filterMap.mpr ⟨e, List.mem_cons_of_mem _ he, q⟩)
    -- the exception is new
    have newI : sI.heap.get? a = none := by
      cases q : sI.heap.get? a with
      | none => rfl
      | some o =>
        have z := nb a o q (by rw [hs]; exact nfr)
        rw [fl3.2.1] at z
        cases z
    have new0 : X.s_0.heap.get? a = none := by
      cases q : X.s_0.heap.get? a with
      | none => rfl
      | some o =>
        obtain ⟨o', z⟩ := J.base.there a o q (by rw [hex]; simp)
        rw [newI] at z
        cases z
    have pinsNe : ∀ p ∈ X.pn ++ pins, p.1 ≠ a := fun p hp z => by
      have q := (J.pin p hp).1
      rw [z, newI] at q
      cases q
    have S3 := J3.suite he3 hd3 na nL nF
    refine wpAny_handleBy_cons (codeAny_handlers_test ?_) (by intro q; cases q)
    have LT : PySem.W.Looks (model X.prog X.w) h3 (typeOf (.ref a)) cls := fun A Q E s k q => wpAny_typeOf_ref (k _ _ he3) (by rw [hz3.1]; exact q)
    have LM := PySem.W.exm_one (M := model X.prog X.w) (J3.kIn) LT hb1
    have test : ∀ {Q : Value → Shared → Prop} {E : Value → Shared → Prop}, Q c { s' with heap := h3 } → wpAny (model X.prog X.w) (X.A.mark (some (.ref a))) (eval (.Name x np) X.env) Q E { s' with heap := h3 } := fun {Q E} q => by
      obtain ⟨hg, hdbg, hm | ⟨hm, hv, hnn⟩⟩ := hc
      · exact ld_glob (X := X.suite a ((a, oe3) :: (X.pn ++ pins))) S3 hg hm q hdbg
      · exact ld_blt (X := X.suite a ((a, oe3) :: (X.pn ++ pins))) S3 hg hm hv q hnn hdbg
    refine test (LM.here ?_)
    cases b with
    | true =>
      refine codeAny_handlers_suite_as ?_
      refine HandSPX.lands_againZ fl3 fun h4 fl4 up4 => ?_
      have J4 : Inv X pins σ' H' { s' with heap := h4 } := J.landed nb fl4.1 ((up.trans up3).trans up4) os ag
      obtain ⟨oe4, vs4, he4, hz4, hd4⟩ := fl4.there
      have S4 := J4.suite he4 hd4 na nL nF
      refine store_ok (X := X.suite a ((a, oe4) :: (X.pn ++ pins))) (v := .ref a) S4 hN hi (.inl hln) rfl (fun s5 S5 => ?_) (.inr hln)
      have hlt : i < σ'.length := by
        rw [J.len]
        exact (List.getElem?_eq_some_iff.mp hi).1
      refine wpAny_mono ((pss_one (ps_set (X := X.suite a ((a, oe4) :: (X.pn ++ pins))) (pos := q3) (pos' := q1) hN hj (.inl hlj) (pe_var (X := X.suite a ((a, oe4) :: (X.pn ++ pins))) (pos := q2) hi (.inl hln) hdn hdc) hsw (.inr hlj))).run [] s5 _ H'
        { nx := fun σ6 H6 => σ6 = (σ'.set i (some (.ref a))).set j (some (.ref a)) ∧ H6 = H', rt := fun _ _ => False } S5 ⟨.ref a, List.getElem?_set_self hlt, rfl, rfl⟩) (fun f s6 hsp => ?_) (fun _ _ z => False.elim z)
      cases f with
      | next =>
        obtain ⟨σ6, H6, S6, e6, eH⟩ := hsp
        subst e6
        subst eH
        have U : Inv X ((a, oe4) :: pins) ((σ'.set i (some (.ref a))).set j (some (.ref a))) H6 s6 := ⟨ok, S6.os, S6.bare, S6.base, S6.loc, S6.cell, S6.free, S6.freeC, fun p hp => S6.pin p (by
          rcases List.mem_append.mp hp with q | q
          · exact List.mem_append_left _ (List.mem_cons_of_mem _ (List.mem_append_left _ q))
          · rcases List.mem_cons.mp q with q | q
            · rw [q]; exact List.mem_append_left _ List.mem_cons_self
            · exact List.mem_append_left _ (List.mem_cons_of_mem _ (List.mem_append_right _ q))), S6.hok, S6.len⟩
        exact gone_ok U hN hi hln fun s7 J7 => ⟨_, _, adopt J7 hz4 hd4 new0 pinsNe, hyes rfl a na⟩
      | brk =>
        obtain ⟨_, _, _, z⟩ := hsp
        exact z.elim
      | cont =>
        obtain ⟨_, _, _, z⟩ := hsp
        exact z.elim
      | ret u =>
        obtain ⟨_, _, _, _, _, z⟩ := hsp
        exact z.elim
    | false =>
      show wpAny _ X.A (handleBy (.ref a) X.env []) _ _ _
      refine wpAny_handleBy_nil ?_
      obtain ⟨k1, k2, k3, oe, vs, T, oT, ts', he, hz, hd, h1, hr⟩ := id fl3
      unfold PySem.passOn
      refine wpAny_bind (wpAny_field he hd h1 ?_)
      rw [if_neg (show ¬ ((Value.ref T == Value.none) = true) from by simp)]
      have fin : wpAny (model X.prog X.w) X.A (setFlight (.ref a) X.env.frame) (fun _ s4 => wpAny (model X.prog X.w) X.A (throw (.ref a) : Sem Flow) (SP X pins D) X.xe s4) X.xe { s' with heap := h3 } := by
        rw [hf]
        refine HandSPX.setFlight_upZ fl3 fun h4 hh4 up4 => wpAny_throw (tk _ _ ?_)
        exact ⟨a, B, sI, pins, σ', H', cls, d, rfl, J, nb, (up.trans up3).trans up4, .inr (.inr (by rw [hs]; exact hh4)), na, os, ag, hno rfl⟩
      first
        | exact wpAny_bind (wpAny_pure (wpAny_bind fin))
        | exact wpAny_bind fin
  · cases f with
    | next =>
      obtain ⟨σ', H', J', q⟩ := hsp
      exact wpAny_execs_nil ⟨σ', H', J'.ofTry ok, q⟩
    | brk =>
      obtain ⟨σ', H', J', q⟩ := hsp
      exact ⟨σ', H', J'.ofTry ok, q⟩
    | cont =>
      obtain ⟨σ', H', J', q⟩ := hsp
      exact ⟨σ', H', J'.ofTry ok, q⟩
    | ret u =>
      obtain ⟨v, σ', H', J', r, q⟩ := hsp
      exact ⟨v, σ', H', J'.ofTry ok, r, q⟩
end
/-! ### the kept exception is asked for its class, for its field -/
structure XcC (K : PySem.W.Frag) (C : Addr) : Prop where
  cl : (PySem.W.clsIn K C).isSome = true
  ga : PySem.W.findIn K (.ref C) "__getattribute__" = some (some (.builtin "BaseException.__getattribute__"))
  gg : PySem.W.findIn K (.ref C) "__getattr__" = some none
  sb : PySem.W.subIn K (.ref C) (.type "BaseException") = some true
  ca : PySem.W.findIn K (.ref C) "__class__" = some (some (.builtin "object.__class__"))
  sp : PySem.W.specialIn K (.builtin "object.__class__") "__get__" = some (some (.builtin "getset_descriptor.__get__"))
  tk : PySem.W.takesIn K (.builtin "object.__class__") = some true
  mo : PySem.W.mroIn K C (.type "object") = some true
  hd : PySem.W.hasDictIn K C = true
section
variable {X : Cx}
def rIsX (K : PySem.W.Frag) : List V → Hp → VK → Prop := fun xs H Q => ∃ (a D : Addr) (d : Option Addr) (c : V) (cv : Value) (b : Bool), xs = [.ref a, c] ∧ H a = some (ExO (.ref D) d a) ∧ (∀ dd, d = some dd → ∃ fs, H dd = some (.xd fs)) ∧ XcC K D ∧ (∀ u, RelV c u → u = cv) ∧ PySem.W.kitOne K (.ref D) cv = some b ∧ Q (.bl b) H
theorem cr_isX : CallR X (.builtin "isinstance") (rIsX X.K) := by
  intro pins s σ H xs us Q I r h
  obtain ⟨a, D, d, c, cv, b, rfl, ha, hdd, C, hcv, e, q⟩ := h
  cases r with
  | cons rx rr =>
    cases rr with
    | cons rt rr =>
      cases rr
      cases rx
      have ec := hcv _ rt
      subst ec
      obtain ⟨⟨oe, fl, hget, hz, hd⟩, _, _⟩ := I.hok a _ ha
      obtain ⟨od, J⟩ : ∃ od, PySem.W.InstAt s.heap a oe D od := by
        obtain ⟨oc, odc, oda, osl⟩ := oe
        obtain ⟨h1, h2⟩ := hz
        dsimp only at h1 h2 hd
        subst h1 h2 hd
        cases odc with
        | none => exact ⟨none, hget, rfl, rfl, trivial⟩
        | some dd =>
          obtain ⟨fs, hx⟩ := hdd dd rfl
          obtain ⟨mA, hns, _⟩ := I.hok dd _ hx
          obtain ⟨od, ho, _⟩ := lookIn_ns hns
          exact ⟨some od, hget, rfl, rfl, ho⟩
      exact PySem.W.kia_one (PySem.W.kitx_exc C.cl C.ga C.gg C.sb C.ca C.sp C.tk C.mo) I.kIn J e (fun z => nomatch z) fun tk => ⟨.bl b, H, I.kept (t' := tk) fun _ _ z => z, rfl, q⟩
end
end DL
set_option maxHeartbeats 4000000
/-! DL50: a lambda without parameters handed to a def that calls it once in a try; by data. -/
namespace DL
open PySem PySem.Spec PyProof.Rows L2 LamX
variable [TabC]
section
variable {X : Cx} {pins : List (Addr × Obj)} {σ : L2.St} {H : Hp} {s : Shared}
theorem lam_make3 {c P : Addr} {ps : Array Value} {params : Arguments} {body : Expr} {scope : Scope} {pos : Pos} {E : Value → Shared → Prop} {Q : Value → Shared → Prop} (I : Inv X pins σ H s) (TB : TabB X.base X.mg c P) (hcode : X.env.code = .ref c)
    (hP : H P = some (.tbl ps)) (ht : TriplesOk ps.toList) (ha : ∀ (pos : Pos) (cv : Value), codeAmong pos ps.toList = some cv → ∃ c, cv = .ref c ∧ H c = some (CodeO c (X.env.qual ++ "<lambda>")))
    (hdef : defaultsOf params X.env = ([], [])) (hfree : ∀ y ∈ scope.names, y.2 = .free → ∃ c, X.env.cells.lookup y.1 = some c)
    (h : ∀ (f c' : Addr) (pm ctv : Value) (H1 : Hp) (s' : Shared), Inv X pins σ H1 s' → s'.heap.get? f = some (PySem.W.kla_obj "<lambda>" (X.env.qual ++ "<lambda>") params body scope (cloFrom X.env.cells scope.names []) pm c' ctv) → H1 f = none → f ∉ frs X.stack →
      ((H1 = H ∧ ∃ p', codeAmong p' ps.toList = some (.ref c')) ∨ (H c' = none ∧ ∃ m : Array Value, TriplesOk (ps ++ m).toList ∧ (∀ p' cv, codeAmong p' (ps ++ m).toList = some cv → codeAmong p' ps.toList = some cv ∨ cv = .ref c') ∧ H1 = upd (upd H P (.tbl (ps ++ m))) c' (CodeO c' (X.env.qual ++ "<lambda>")))) → Q (.ref f) s') :
    wpAny (model X.prog X.w) X.A (eval (.Lambda params body scope pos) X.env) Q E s := by
  refine PySem.W.kla_eval hdef ?_
  have bP : s.heap.BuiltinsAt X.mg P := TB.bm.keeps I.bk
  have hP' : s.heap.get? P = some { cls := .none, data := .fields ps } := I.hok P _ hP
  have nofr : ∀ f, s.heap.objs.size ≤ f → f ∉ frs X.stack := fun f hf z => by
    rcases List.mem_cons.mp (I.stkSub _ z) with e | e
    · have h1 := I.lt
      rw [← e] at h1
      exact Nat.lt_irrefl _ (Nat.lt_of_lt_of_le h1 hf)
    · exact I.nofs hf e
  cases hc : codeAmong pos ps.toList with
  | none =>
    refine PySem.W.kla_makeFunction (mg := X.mg) (c := c) (P := P) (ps := ps) (closure_ok hfree) I.ok.glob (I.mod.glob.keeps I.bk) hcode (TB.code.keeps I.bk) hP' ht hc TB.gP bP fun c' ctv h' tk hx hge hlt hrec htb => ?_
    obtain ⟨c2, oc, vs, t, e2, hoc, hd, hv⟩ := hrec
    cases e2
    have hsz : s.heap.objs.size ≤ h'.objs.size := Nat.le_trans hge (Nat.le_of_lt hlt)
    have nC : H c' = none := I.hok.fresh hge
    have I1 := inv_table (t' := tk) (more := #[rawInt pos.line, rawInt pos.col, .ref c']) (h' := h'.push (PySem.W.kla_obj "<lambda>" (X.env.qual ++ "<lambda>") params body scope (cloFrom X.env.cells scope.names []) ((X.mg "__name__").getD .none) c' ctv)) I hP
      (fun b o hb e => Heap.get?_push_of_some _ (hx b o hb e)) (Heap.get?_push_of_some _ htb) hge ⟨oc, vs, t, Heap.get?_push_of_some _ hoc, hd, hv⟩
    have eL : (ps ++ #[rawInt pos.line, rawInt pos.col, .ref c']).toList = ps.toList ++ [rawInt pos.line, rawInt pos.col, .ref c'] := by simp
    refine h h'.objs.size c' ((X.mg "__name__").getD .none) ctv _ _ I1 (Heap.get?_push_size _ rfl) ?_ (nofr _ hsz) (.inr ⟨nC, _, by rw [eL]; exact PySem.TriplesOk_snoc _ _ _ _ ht, fun p' cv hcv => ?_, rfl⟩)
    · have n1 : h'.objs.size ≠ c' := Nat.ne_of_gt hlt
      have n2 : h'.objs.size ≠ P := Nat.ne_of_gt (Nat.lt_of_lt_of_le (Heap.lt_size hP') hsz)
      rw [upd_ne n1, upd_ne n2]
      exact I.hok.fresh hsz
    · rw [eL] at hcv
      exact among_app _ ht hcv
  | some cv =>
    obtain ⟨c', e, hco⟩ := ha pos cv hc
    subst e
    refine PySem.W.kla_makeFunctionHit (mg := X.mg) (c := c) (P := P) (ps := ps) (closure_ok hfree) I.ok.glob (I.mod.glob.keeps I.bk) hcode (TB.code.keeps I.bk) hP' ht hc bP fun ctv h' tk hx hsz => ?_
    have I1 : Inv X pins σ H { s with heap := h'.push (PySem.W.kla_obj "<lambda>" (X.env.qual ++ "<lambda>") params body scope (cloFrom X.env.cells scope.names []) ((X.mg "__name__").getD .none) c' ctv), toks := tk } := I.kept fun b o e => Heap.get?_push_of_some _ (hx b o e)
    exact h h'.objs.size c' ((X.mg "__name__").getD .none) ctv H _ I1 (Heap.get?_push_size _ rfl) (I.hok.fresh hsz) (nofr _ hsz) (.inl ⟨rfl, pos, hc⟩)
theorem lam_world {W : Wd} {F : Hp} {ρ : Rho} {H1 : Hp} {c' P : Addr} {q : Str} {ps : Array Value} (R : Rep X.K X.mg W F H σ ρ) (tb : TabC.tb P = some q) (hP : H P = some (.tbl ps)) (ha : ∀ (pos : Pos) (cv : Value), codeAmong pos ps.toList = some cv → ∃ c, cv = .ref c ∧ W.G c = some (CodeO c q))
    (hh : (H1 = H ∧ ∃ p', codeAmong p' ps.toList = some (.ref c')) ∨ (H c' = none ∧ ∃ m : Array Value, TriplesOk (ps ++ m).toList ∧ (∀ p' cv, codeAmong p' (ps ++ m).toList = some cv → codeAmong p' ps.toList = some cv ∨ cv = .ref c') ∧ H1 = upd (upd H P (.tbl (ps ++ m))) c' (CodeO c' q))) :
    ∃ W1, W.le W1 ∧ Rep X.K X.mg W1 F H1 σ ρ ∧ W1.G c' = some (CodeO c' q) := by
  rcases hh with ⟨e, p', hp'⟩ | ⟨nC, m, tm, am, e⟩
  · subst e
    obtain ⟨c, ec, hc⟩ := ha p' _ hp'
    cases ec
    exact ⟨W, Wd.le.refl W, R, hc⟩
  · subst e
    have twP : W.tw ⟨P, P, some q⟩ := .inr ⟨rfl, q, rfl, tb⟩
    obtain ⟨_, gP, _, fP, _⟩ := R.w.t _ twP
    have gP : W.G P = none := gP
    have fP : F P = none := fP
    have fr := free.fresh R.w nC
    have nPc : P ≠ c' := ne_of_none hP nC
    have le : W.le (W.add c' (CodeO c' q)) := Wd.add_le fr.1
    have at_ : ∀ {b : Addr}, b ≠ P → b ≠ c' → upd (upd H P (.tbl (ps ++ m))) c' (CodeO c' q) b = H b := fun h1 h2 => by rw [upd_ne h2, upd_ne h1]
    refine ⟨W.add c' (CodeO c' q), le, R.go le ⟨fun b u e => ?_, fun b u e => ?_, fun b hb => ?_, fun p hp => ?_⟩ fun i b hb => ?_, upd_same⟩
    · by_cases z : b = c'
      · subst z
        have e' : upd W.G b (CodeO b q) b = some u := e
        rw [upd_same] at e' ⊢
        exact e'
      · have e' : upd W.G c' (CodeO c' q) b = some u := e
        rw [upd_ne z] at e'
        rw [at_ (fun y => by rw [y, gP] at e'; cases e') z]
        exact R.w.g b u e'
    · have n1 : b ≠ P := fun y => by rw [y, fP] at e; cases e
      have n2 : b ≠ c' := fun y => by rw [y, fr.2.1] at e; cases e
      rw [at_ n1 n2]
      exact R.w.f b u e
    · show upd W.G c' (CodeO c' q) b = none
      rw [upd_ne (fun z => by rw [z] at hb; exact hb fr.2.1)]
      exact R.w.gf b hb
    · obtain ⟨t, g1, g2, f1, f2⟩ := R.w.t p hp
      obtain ⟨n1, n2⟩ := fr.2.2 p hp
      by_cases z : p.a = P
      · obtain ⟨pa, pr, pq⟩ := p
        have z : pa = P := z
        subst z
        rcases hp with ⟨_, e2⟩ | ⟨e1, q', e2, e3⟩
        · have e2 : pq = none := e2
          subst e2
          obtain ⟨_, c, kvs, h1, _⟩ := (show TownAt H pa pr from t)
          rw [hP] at h1
          cases h1
        · have e1 : pa = pr := e1
          have e2 : pq = some q' := e2
          have e3 : TabC.tb pa = some q' := e3
          rw [tb] at e3
          cases e3
          subst e1
          subst e2
          refine ⟨(show TabAt _ _ pa q from ⟨ps ++ m, by rw [upd_ne nPc, upd_same], tm, fun pos cv hcv => ?_⟩), (upd_ne n1).trans g1, (upd_ne n1).trans g1, f1, f1⟩
          rcases am pos cv hcv with y | y
          · obtain ⟨c, ec, hc⟩ := ha pos cv y
            exact ⟨c, ec, le.g _ _ hc⟩
          · exact ⟨c', y, upd_same⟩
      · have z2 : p.r ≠ P := by
          rcases hp with ⟨_, e2⟩ | ⟨e1, _⟩
          · obtain ⟨pa, pr, pq⟩ := p
            have e2 : pq = none := e2
            subst e2
            obtain ⟨_, c, kvs, _, h2, _⟩ := (show TownAt H pa pr from t)
            intro y
            have y : pr = P := y
            rw [y, hP] at h2
            cases h2
          · exact e1 ▸ z
        exact ⟨t.keep (at_ z n1) (at_ z2 n2) le.g, (upd_ne n1).trans g1, (upd_ne n2).trans g2, f1, f2⟩
    · obtain ⟨st, _, _, _, h1, f⟩ := R.owned hb
      obtain ⟨u, eu⟩ := h1.there
      have n2 : b ≠ c' := ne_of_none eu nC
      have n1 : b ≠ P := fun y => (f.2.2 _ twP).1 y.symm
      exact ⟨at_ n1 n2, (upd_ne n2).trans f.1, f.2.1, f.2.2⟩
end
end DL
set_option maxHeartbeats 4000000
/-! DL51: _law_heard(lambda: ..) by data. -/
namespace DL
open PySem PySem.Spec PyProof.Rows L2 LamX
variable [TabC]
def hideR (ρ : Rho) : Rho := ρ.map fun s => match s with | .val d => .val d | _ => .un
section
variable {K : PySem.W.Frag} {mg : Str → Option Value} {W W' : Wd} {F H H' : Hp} {σ : L2.St} {ρ : Rho}
theorem Rep.hide (R : Rep K mg W F H σ ρ) : Rep K mg W (FO σ ρ H F) H σ (hideR ρ) := by
  have sh : ∀ {i : Nat} {s : DL.S}, (hideR ρ)[i]? = some s → s = .un ∨ ∃ d, s = .val d ∧ ρ[i]? = some (.val d) := fun {i s} h => by
    unfold hideR at h
    rw [List.getElem?_map] at h
    obtain ⟨t, e, q⟩ := Option.map_eq_some_iff.mp h
    cases t with
    | val d => exact .inr ⟨d, q.symm, e⟩
    | un => exact .inl q.symm
    | own _ => exact .inl q.symm
    | dct _ => exact .inl q.symm
    | slf _ _ _ _ => exact .inl q.symm
  refine ⟨R.enter, by unfold hideR; rw [List.length_map]; exact R.len, fun i s h => ?_, fun i j a _ ⟨s, h1, h2, _⟩ => ?_⟩
  · rcases sh h with e | ⟨d, e, q⟩
    · exact .inl e
    · subst e
      obtain ⟨v, e1, r⟩ := R.slot q (by intro z; cases z)
      exact .inr ⟨v, e1, r⟩
  · rcases sh h1 with e | ⟨d, e, _⟩ <;> (subst e; cases h2)
theorem rep_vals (w : WOk W F H) (hl : ρ.length = σ.length) (h : ∀ (i : Nat) (s : DL.S), ρ[i]? = some s → s = .un ∨ ∃ d v, s = .val d ∧ σ[i]? = some (some v) ∧ DV K mg W d v) : Rep K mg W F H σ ρ :=
  ⟨w, hl, fun i s hs => by
    rcases h i s hs with e | ⟨d, v, e, e1, r⟩
    · exact .inl e
    · subst e; exact .inr ⟨v, e1, r⟩, fun i j a _ ⟨s, h1, h2, _⟩ => by
    rcases h i s h1 with e | ⟨d, v, e, _⟩ <;> (subst e; cases h2)⟩
end
def lX (K : PySem.W.Frag) (mg : Str → Option Value) (E : XK) (τ : TD) : TE := fun σ H Q => ∃ (W : Wd) (F : Hp) (ρ : Rho) (kx : KX) (k : KE), (∀ xd cls dx σ' ρ' H' W', kx xd ρ' → W.le W' → Rep K mg W' F H' σ' ρ' → XV K mg W' xd cls dx → E cls dx H') ∧ Rep K mg W F H σ ρ ∧ τ ρ kx k ∧
  ∀ d ρ' v H' W', k d ρ' → W.le W' → Rep K mg W' F H' σ ρ' → DV K mg W' d v → Q v H'
theorem lX.to {X : Cx} {E : XK} {τ : TD} (tk : Takes X fun cls d _ H => E cls d H) : ∀ σ H Q, lX X.K X.mg E τ σ H Q → lE X τ σ H Q := fun σ H Q ⟨W, F, ρ, kx, k, hx, R, h, hQ⟩ =>
  ⟨W, F, ρ, kx, k, Takes.imp tk fun cls d σ' H' ⟨xd, ρ', W', q, l, R', x⟩ => hx xd cls d σ' ρ' H' W' q l R' x, R, h, hQ⟩
theorem pe_deed {X : Cx} {pins : List (Addr × Obj)} {σ σ1 : L2.St} {H : Hp} {s : Shared} {CXg : CXT} {Eg : XK} {Ng : List Str} {qg : Str} {sg : Scope} {g f c' : Addr} {cdg pm ctv : Value} {params : Arguments} {body : Expr} {scope : Scope} {k i : Nat} {a : Str} {pn : List (Addr × Obj)} {xe : Value → Shared → Prop} {W : WX} {E : XK} {tb : TE} {p1 p2 : Pos}
    (I : Inv X pins σ H s) (L : LamS X.env.scope scope) (hf : s.heap.get? f = some (PySem.W.kla_obj "<lambda>" (X.env.qual ++ "<lambda>") params body scope (cloFrom X.env.cells scope.names []) pm c' ctv)) (hfn : H f = none) (hfr : f ∉ frs X.stack)
    (hbind : bindArgs (PySem.W.kla_fn "<lambda>" (X.env.qual ++ "<lambda>") params body scope (cloFrom X.env.cells scope.names []) pm (.ref c') ctv) ⟨[], []⟩ = pure [])
    (tk : Takes ((cxOf CXg X.prog X.w X.K X.mg X.base Ng qg sg g cdg X.A X.stack s H Eg).tr pn xe) W) (hW : ∀ cls d H', E cls d H' → W cls d σ1 H') (hr : Room (k + 1) (X.A.deeper (envOfC qg sg s.heap.objs.size g cdg)))
    (hbody : ∀ (A : Around) (outer : List Env) (s : Shared) (H : Hp), Room k (A.deeper (lamEnv X scope s.heap.objs.size f c')) → PE (lamCx X A outer s H E scope f c') body tb)
    (hN : Ng[i]? = some a) (hv : Vis sg a) (hd : (a == ("__debug__" : Str)) = false := by decide) (hcd : (a == ("__classdict__" : Str)) = false := by decide) :
    PE ((cxOf CXg X.prog X.w X.K X.mg X.base Ng qg sg g cdg X.A X.stack s H Eg).tr pn xe) (.Call (.Name a p1) [] [] p2)
      (fun σZ HZ Q => σZ = σ1 ∧ σ1[i]? = some (some (.ref f)) ∧ HZ c' = some (CodeO c' (X.env.qual ++ "<lambda>")) ∧ tb σ HZ Q) := by
  refine ⟨fun pinsZ sZ σZ HZ Q IZ h => ?_⟩
  obtain ⟨eZ, hs, hc, ht⟩ := h
  subst eZ
  refine wpAny_Call_Name_kw (thn ((pe_var (pos := p1) (i := i) hN hv hd hcd).run pinsZ sZ σZ HZ (fun v H1 => v = .ref f ∧ H1 = HZ) IZ ⟨.ref f, hs, rfl, rfl⟩) fun u s1 ⟨v, H1, I1, r1, q1⟩ => ?_)
  obtain ⟨ev, eH⟩ := q1
  subst ev
  rw [eH] at I1
  obtain rfl : u = Value.ref f := r1
  have of1 : s1.heap.get? f = some (PySem.W.kla_obj "<lambda>" (X.env.qual ++ "<lambda>") params body scope (cloFrom X.env.cells scope.names []) pm c' ctv) := I1.base.keep f _ hf hfn hfr (fun z => nomatch (show f ∈ ([] : List Addr) from z))
  refine PySem.W.callWith_F0 ⟨_, _, _, _, of1⟩ ?_
  have un : Un (frs X.stack) [] H HZ s.heap s1.heap := I1.base
  obtain ⟨⟨oc, vs, t, hoc, hdc, hvc⟩, _, _⟩ := I1.hok c' _ hc
  have rc : codeAny (model X.prog X.w) (X.A.deeper (envOfC qg sg s.heap.objs.size g cdg)) (.call (.ref f) ⟨[], []⟩) (CR (L2.CX X.prog X.w) (envOfC qg sg s.heap.objs.size g cdg :: X.stack) X.prog X.w HZ s1 Q E) s1 := by
    refine PySem.W.kla_callFunE hr.depth of1 rfl L.co L.gen rfl ⟨c', oc, vs, t, rfl, hoc, hdc, hvc⟩ ?_
    rw [hbind]
    refine wpAny_pure (wpAny_newFunctionEnv (fun y hy => (L.own y hy).2) (fun y hy => absurd hy (by simp)) (fun h₁ hns hsb => ⟨I1.nolimit.fresh _ hsb, ?_⟩) L.kind)
    show codeAny _ _ (.expr body (lamEnv X scope s1.heap.objs.size f c')) _ _
    have kp : ∀ b o, s1.heap.get? b = some o → h₁.get? b = some o := fun b o e => hsb.extBut b o (Nat.ne_of_lt (Heap.lt_size e)) (Heap.get?_push_of_some _ e)
    have J : Inv (lamCx X (X.A.deeper (envOfC qg sg s.heap.objs.size g cdg)) (envOfC qg sg s.heap.objs.size g cdg :: X.stack) s1 HZ E scope f c') [] σ HZ { s1 with heap := h₁, toks := s1.toks + ([] : List (Str × Value)).length } :=
      lam_start2 I L I1.env0 hr.hd un hns kp
    refine PySem.W.kla_codeExpr (wpAny_mono ((hbody _ _ s1 HZ (hr.deeper _)).run [] _ _ HZ Q J ht) (fun v s' hq => ?_) fun e s' hq => hq)
    obtain ⟨w', H', J', rv, q⟩ := hq
    exact ⟨w', H', J'.os, J'.bare, J'.base, J'.hok, rv, q⟩
  refine wpAny_call (codeAny_mono rc fun r s' hq => ?_)
  cases r with
  | error e => exact tk e s' (XE.of_call I1 (fun cls d H' h => hW cls d H' h) hq)
  | ok fl =>
    cases fl with
    | ret u => exact I1.after hq
    | next => exact False.elim hq
    | brk => exact False.elim hq
    | cont => exact False.elim hq
def hRest (τr : TDS) (ρ : Rho) (kx : KX) (k : KE) (ρh : Rho) : Prop := τr ρh (fun x _ => kx x ρ) ⟨fun _ => k .non ρ, fun d _ => k d ρ, fun _ => False, fun _ => False⟩
def hExc (known : List Str) (sub : Str → Bool) (τr : TDS) (ρ : Rho) (kx : KX) (k : KE) : KX := fun xd _ => known.contains xd.c = true ∧ if sub xd.c = true then hRest τr ρ kx k [.un, .val (.exc xd.c xd.fs xd.xs), .val .non, .un, .un] else kx xd ρ
def hVal (τr : TDS) (ρ : Rho) (kx : KX) (k : KE) : KE := fun d _ => hRest τr ρ kx k [.un, .val .non, .val d, .un, .un]
def dHeard (known : List Str) (sub : Str → Bool) (τr : TDS) (τ : TD) : TD := fun ρ kx k => τ (hideR ρ) (hExc known sub τr ρ kx k) (hVal τr ρ kx k)
abbrev NH : List Str := ["_law_deed", "_law_kept", "_law_found", "e", "_law_name"]
theorem pd_heard {X : Cx} {g CS c P : Addr} {fdh : FuncData} {pa params : Arguments} {bd rest : List Stmt} {sc scope : Scope} {known : List Str} {sub : Str → Bool} {τr : TDS} {τ : TD} {body : Expr} {k : Nat} {p lpos pos : Pos}
    {p1 p2 p3 p4 p5 p6 p7 p8 p9 p10 p11 p12 p13 p14 p15 p16 p17 : Pos} {kt j1 j2 k2 : Nat}
    (Fh : FunD X.K "_law_heard" "_law_heard" pa bd sc [] [] g fdh) (Sh : FnScope NH ["_law_deed"] sc) (hbi : BindD X.K fdh ["_law_deed"] 1 [] [0] []) (hm : X.mg "_law_heard" = some (.ref g))
    (hbd : bd = .Assign [.Tuple [.Name "_law_kept" p1, .Name "_law_found" p2] kt p3] (.Tuple [.Constant .none j1 p4, .Constant .none j2 p5] k2 p6) p7 ::
      .Try [.Assign [.Name "_law_found" p8] (.Call (.Name "_law_deed" p9) [] [] p10) p11] [.ExceptHandler (some (.Name "StrokeError" p12)) (some "e") [.Assign [.Name "_law_kept" p13] (.Name "e" p14) p15] p16] [] [] p17 :: rest)
    (ld : sc.names.lookup ("_law_deed" : Str) = some .local) (lk1 : sc.names.lookup ("_law_kept" : Str) = some .local) (lf : sc.names.lookup ("_law_found" : Str) = some .local) (le : sc.names.lookup ("e" : Str) = some .local) (lg : sc.names.lookup ("StrokeError" : Str) = some .globalImplicit)
    (mS : X.mg "StrokeError" = some (.ref CS)) (hsub : ∀ (n : Str) (C : Addr), known.contains n = true → X.mg n = some (.ref C) → PySem.W.exmOne X.K (.ref C) (.ref CS) = some (sub n))
    (sw1 : ∀ L cdv, swappedStores [.Tuple [.Name "_law_kept" p1, .Name "_law_found" p2] kt p3] (.Tuple [.Constant .none j1 p4, .Constant .none j2 p5] k2 p6) (envOfC "_law_heard" sc L g cdv) = pure none)
    (sw2 : ∀ L cdv, swapsWithSole [.Tuple [.Name "_law_kept" p1, .Name "_law_found" p2] kt p3] (.Tuple [.Constant .none j1 p4, .Constant .none j2 p5] k2 p6) p7.line (envOfC "_law_heard" sc L g cdv) = pure false)
    (sw3 : ∀ L cdv, swapsWith (.Call (.Name "_law_deed" p9) [] [] p10) (some (.Name "_law_found" p8)) p11.line (envOfC "_law_heard" sc L g cdv) = pure false)
    (sw4 : ∀ L cdv, swapsWith (.Name "e" p14) (some (.Name "_law_kept" p13)) p15.line (envOfC "_law_heard" sc L g cdv) = pure false)
    (hrest : ∀ (cdv : Value) (A : Around) (outer : List Env) (s : Shared) (H : Hp) (E : XK), Room (k + 1) (A.deeper (envOfC "_law_heard" sc s.heap.objs.size g cdv)) → PBd (cxOf (L2.CX X.prog X.w) X.prog X.w X.K X.mg X.base NH "_law_heard" sc g cdv A outer s H E) rest τr)
    (TB : TabB X.base X.mg c P) (hcode : X.env.code = .ref c) (htb : TabC.tb P = some (X.env.qual ++ "<lambda>")) (hr : Room (k + 2) X.A) (hg : Gl X "_law_heard") (L : LamS X.env.scope scope) (hdef : defaultsOf params X.env = ([], []))
    (hbind : ∀ (q : Str) (cl : List (Str × Addr)) (pm cv ctv : Value), bindArgs (PySem.W.kla_fn "<lambda>" q params body scope cl pm cv ctv) ⟨[], []⟩ = pure [])
    (hbody : ∀ (A : Around) (outer : List Env) (s : Shared) (H : Hp) (E : XK) (f c' : Addr), Room k (A.deeper (lamEnv X scope s.heap.objs.size f c')) → PEd (lamCx X A outer s H E scope f c') body τ) :
    PEd X (.Call (.Name "_law_heard" p) [.Lambda params body scope lpos] [] pos) (dHeard known sub τr τ) := by
  refine ⟨⟨fun pins s σ H Q I ⟨W, F, ρ, kx, kk, tk, R, h, hQ⟩ => ?_⟩⟩
  have twP : W.tw ⟨P, P, some (X.env.qual ++ "<lambda>")⟩ := .inr ⟨rfl, _, rfl, htb⟩
  obtain ⟨t0, _⟩ := R.w.t _ twP
  obtain ⟨ps, hP, ht, ha⟩ := (show TabAt W.G H P (X.env.qual ++ "<lambda>") from t0)
  refine wpAny_Call_Name_kw (ld_glob I hg hm ?_)
  refine PySem.W.callWith_K (h₀ := X.base) I.ok.mod.kin Fh.kp ?_ (by rfl) (by rfl)
  show wpAny _ _ (spliced ((false, eval (.Lambda params body scope lpos) X.env) :: backTo pos (starEach [] X.env))) _ _ s
  refine Calls.spliced_cons (lam_make3 I TB hcode hP ht (fun pos cv hc => (ha pos cv hc).imp fun c e => ⟨e.1, R.w.g _ _ e.2⟩) hdef (L.has I.ok) fun f c' pm ctv H1 s1 I1 hf hfn hfr hh => ?_)
  obtain ⟨W1, le1, R1, hco⟩ := lam_world R htb hP ha hh
  refine Calls.spliced_nil ⟨I1.kIn, ?_⟩
  obtain ⟨its, ri, hbt⟩ := hbi.b
  cases ri
  have hbt1 := hbt s1 [.ref f] [] I1.kIn rfl rfl
  obtain ⟨oc, od, dV, kV, doc, pm2, an, cdv, ct, osl, rfl, lk, hcd, _, _⟩ := Fh.ex
  have rc : codeAny (model X.prog X.w) X.A (.call (.ref g) ⟨[.ref f], []⟩) (CR (L2.CX X.prog X.w) X.stack X.prog X.w H1 s1 Q (fun cls dx H' => ∃ xd W', kx xd ρ ∧ W.le W' ∧ Rep X.K X.mg W' F H' σ ρ ∧ XV X.K X.mg W' xd cls dx)) s1 := by
    refine run_ofS (N := NH) (ps := ["_law_deed"]) (us := [.ref f]) (vs := [.ref f]) lk hcd Sh hr I1.env0 hbt1 (.cons rfl .nil) rfl fun hr' => ?_
    -- from a world behind the deed on: the rest of heard
    have go : ∀ {W2 : Wd} {H2 : Hp} {σh : L2.St} {ρh : Rho}, W.le W2 → ∀ (R2 : Rep X.K X.mg W2 F H2 σ ρ), Rep X.K X.mg W2 (FO σ ρ H2 F) H2 σh ρh → hRest τr ρ kx kk ρh →
        lS (cxOf (L2.CX X.prog X.w) X.prog X.w X.K X.mg X.base NH "_law_heard" sc g cdv X.A X.stack s1 H1 (fun cls dx H' => ∃ xd W', kx xd ρ ∧ W.le W' ∧ Rep X.K X.mg W' F H' σ ρ ∧ XV X.K X.mg W' xd cls dx)) τr { nx := fun _ H' => Q .non H', rt := Q } σh H2 := by
      intro W2 H2 σh ρh le2 R2 Rh hk
      refine ⟨W2, FO σ ρ H2 F, ρh, fun x _ => kx x ρ, _, Takes.imp (takes_of rfl rfl rfl rfl) fun cls dx σ' H' ⟨xd, ρ', W3, q, l, R3, x⟩ => ⟨xd, W3, q, le2.trans l, R2.back l R3.w, x⟩, Rh, hk, ⟨fun ρ' σ' H' W3 hk l R3 => ?_, fun d ρ' v σ' H' W3 hk l R3 dv => ?_, fun _ _ _ _ z => z.elim, fun _ _ _ _ z => z.elim⟩⟩
      · exact hQ .non ρ .non H' W3 hk (le2.trans l) (R2.back l R3.w) (by simp only [DV])
      · exact hQ d ρ v H' W3 hk (le2.trans l) (R2.back l R3.w) dv
    have hrp := (hrest cdv X.A X.stack s1 H1 (fun cls dx H' => ∃ xd W', kx xd ρ ∧ W.le W' ∧ Rep X.K X.mg W' F H' σ ρ ∧ XV X.K X.mg W' xd cls dx) hr').p
    rw [hbd]
    refine ⟨_, pss_cons (ps_asg (pe_tup (pa_cons pe_non (pa_cons pe_non pa_nil))) (pg_tup rfl (pn_cons 1 Sh.nd rfl (.inl lk1) (pn_cons 2 Sh.nd rfl (.inl lf) pn_nil)).p) (sw2 _ _) (sw1 _ _))
      (pss_cons (ps_try_keep (i := 3) (j := 1) (Wout := fun cls dx _ H' => ∃ xd W', kx xd ρ ∧ W.le W' ∧ Rep X.K X.mg W' F H' σ ρ ∧ XV X.K X.mg W' xd cls dx) (c := .ref CS)
        (tb := fun Wx D σZ HZ => ∃ E : XK, (∀ cls d H', E cls d H' → Wx cls d [some (.ref f), some .non, some .non, none, none] H') ∧ σZ = [some (.ref f), some .non, some .non, none, none] ∧ HZ c' = some (CodeO c' (X.env.qual ++ "<lambda>")) ∧ lX X.K X.mg E τ σ HZ (fun v H' => D.nx ([some (.ref f), some .non, some .non, none, none].set 2 (some v)) H'))
        rfl rfl rfl Sh.nd rfl le rfl lk1 ⟨lg, by decide, .inl mS⟩ (takes_of rfl rfl rfl rfl) (by decide) (by decide) (sw4 _ _) (fun Wx pn xe tkx _ => ?_)) hrp), ?_⟩
    · refine ⟨fun pins' s' σZ HZ D IZ hz => ?_⟩
      obtain ⟨E, hE, eZ, hc, hl⟩ := hz
      subst eZ
      have hp := pe_deed (i := 0) (a := "_law_deed") (tb := lX X.K X.mg E τ) (p1 := p9) (p2 := p10) I1 L hf hfn hfr (hbind _ _ _ _ _) tkx hE hr' (fun A outer s H hr2 => PE.imp (hbody A outer s H E f c' hr2).p (lX.to (X := lamCx X A outer s H E scope f c') (E := E) (takes_of rfl rfl rfl rfl))) rfl (.inl ld)
      have hq := pss_one (ps_set (i := 2) (pos := p11) (pos' := p8) Sh.nd rfl (.inl lf) hp (sw3 _ _) (.inr lf))
      exact hq.run pins' s' _ HZ D IZ ⟨rfl, rfl, hc, hl⟩
    · refine ⟨by show 2 ≤ sizeLine; rw [sizeLine_eq]; decide, fun pT hpT => ⟨pT, [.non, .non], rfl, .inl (.inl upd_same), rfl, rfl, ?_⟩⟩
      have leT := Wd.add_le (W := W1) (o := HO.tup [.non, .non]) (free.fresh R1.w hpT).1
      have RT := R1.add (o := HO.tup [.non, .non]) hpT
      have le1 := le1.trans leT
      have hco := leT.g _ _ hco
      refine ⟨fun cls d H' => ∃ xd W', W.le W' ∧ Rep X.K X.mg W' F H' σ ρ ∧ XV X.K X.mg W' xd cls d ∧ known.contains xd.c = true ∧ (if sub xd.c = true then hRest τr ρ kx kk [.un, .val (.exc xd.c xd.fs xd.xs), .val .non, .un, .un] else kx xd ρ), fun cls d H' ⟨xd, W', l, R', xv, hk, hi⟩ => ?_, rfl, RT.w.g _ _ hco, ?_⟩
      · have xv' := xv
        obtain ⟨C, vs, hC, rfl, hlen, dvs, hdx⟩ := xv'
        refine ⟨sub xd.c, hsub _ C hk hC, fun b a na => ?_, fun b => ?_⟩
        · rw [if_pos b] at hi
          have R2 := R'.add (o := ExO (.ref C) d a) na
          have le2 := Wd.add_le (W := W') (o := ExO (.ref C) d a) (free.fresh R'.w na).1
          refine go (l.trans le2) R2 (rep_vals R2.enter rfl fun i st hst => ?_) hi
          match i, hst with
          | 0, hst => cases hst; exact .inl rfl
          | 1, hst =>
            cases hst
            refine .inr ⟨_, .ref a, rfl, rfl, ?_⟩
            simp only [DV]
            refine ⟨a, C, d, vs, rfl, hC, upd_same, hlen, ?_, DVs.mono le2 _ _ dvs⟩
            cases d with
            | none => exact hdx
            | some dd => exact le2.g _ _ hdx
          | 2, hst => cases hst; exact .inr ⟨_, .non, rfl, rfl, by simp only [DV]⟩
          | 3, hst => cases hst; exact .inl rfl
          | 4, hst => cases hst; exact .inl rfl
          | n + 5, hst => simp at hst
        · rw [if_neg (by rw [b]; decide)] at hi
          exact ⟨xd, W', hi, l, R', xv⟩
      · refine ⟨_, _, _, _, _, fun xd cls dx σ' ρ' H' W' hk l R' xv => ⟨xd, W', le1.trans l, RT.back l R'.w, xv, hk⟩, RT.hide, h, fun d ρ' v H' W' hk l R' dv => ?_⟩
        have R2 := RT.back l R'.w
        refine go (le1.trans l) R2 (rep_vals R2.enter rfl fun i st hst => ?_) hk
        match i, hst with
        | 0, hst => cases hst; exact .inl rfl
        | 1, hst => cases hst; exact .inr ⟨_, .non, rfl, rfl, by simp only [DV]⟩
        | 2, hst => cases hst; exact .inr ⟨_, v, rfl, rfl, dv⟩
        | 3, hst => cases hst; exact .inl rfl
        | 4, hst => cases hst; exact .inl rfl
        | n + 5, hst => simp at hst
  refine wpAny_call (codeAny_mono rc fun r s2 hq => ?_)
  cases r with
  | error e => exact tk e s2 (XE.of_call I1 (fun cls d H' ⟨xd, W', hk, l, R', xv⟩ => ⟨xd, ρ, W', hk, l, R', xv⟩) hq)
  | ok fl =>
    cases fl with
    | ret u => exact I1.after hq
    | next => exact False.elim hq
    | brk => exact False.elim hq
    | cont => exact False.elim hq
end DL
set_option maxHeartbeats 4000000
/-! DL52: own exceptions of a law: raised, asked; the law's own table; tuple constants of the module. -/
namespace DL
open PySem PySem.Spec PyProof.Rows L2 LamX
variable [TabC]
def KnX (mg : Str → Option Value) (Pr : Str → Addr → Prop) : List Str → Prop
  | [] => True
  | n :: r => (∃ C, mg n = some (.ref C) ∧ Pr n C) ∧ KnX mg Pr r
theorem KnX.get {mg : Str → Option Value} {Pr : Str → Addr → Prop} {n : Str} {C : Addr} : ∀ {known : List Str}, KnX mg Pr known → known.contains n = true → mg n = some (.ref C) → Pr n C
  | [], _, h, _ => by simp at h
  | m :: r, ⟨⟨C', h1, h2⟩, hr⟩, h, hm => by
    by_cases e : n = m
    · subst e
      rw [h1] at hm
      cases hm
      exact h2
    · refine KnX.get hr ?_ hm
      rw [List.contains_cons] at h
      rcases Bool.or_eq_true_iff.mp h with h | h
      · exact absurd (beq_iff_eq.mp h) e
      · exact h
def gIsX (known : List Str) (sub : Str → Bool) (d : D) (k : D → Prop) : Prop := match d with | .exc c _ _ => known.contains c = true ∧ k (.bl (sub c)) | _ => False
section
variable {X : Cx} {e : Expr} {es : List Expr} {τ : TD} {τs : TDa} {pos pos' p p2 pn : Pos} {x y f : Str}
theorem pe_ty {T : String} (hg : Gl X y) (hm : X.mg y = none) (hv : bootBuiltins y = some (.type T)) (hn : y ≠ "__name__" := by decide) (hdb : (y == ("__debug__" : Str)) = false := by decide) : PE X (.Name y p) (tC (.ty T)) :=
  ⟨fun pins s σ H Q I h => ld_blt I hg hm hv ⟨.ty T, H, I, rfl, h⟩ hn hdb⟩
theorem pd_isX {known : List Str} {sub : Str → Bool} {c : V} {cv : Value} (he : PEd X e τ) (hg : Gl X "isinstance") (hm : X.mg "isinstance" = none) (hy : PE X (.Name y p2) (tC c)) (hcv : ∀ u, RelV c u → u = cv) (hk : KnX X.mg (fun n C => XcC X.K C ∧ PySem.W.kitOne X.K (.ref C) cv = some (sub n)) known)
    (hs1 : starEach [e, .Name y p2] X.env = (false, eval e X.env) :: starEach [.Name y p2] X.env := by rfl) (hs2 : starEach [.Name y p2] X.env = (false, eval (.Name y p2) X.env) :: starEach [] X.env := by rfl)
    (hpl : (backTo pos (starEach [.Name y p2] X.env)).any (·.1) = false := by rfl) : PEd X (.Call (.Name "isinstance" pn) [e, .Name y p2] [] pos) (dUn (gIsX known sub) τ) := by
  refine ⟨PE.imp (pe_callB cr_isX hg hm (by rfl) (pa_cons he.p (pa_cons hy pa_nil hs2) hs1) (by decide) (by decide) hs1 hpl) fun σ H Q ⟨W, F, ρ, kx, k, tk, R, h, hQ⟩ => ?_⟩
  refine ⟨W, F, ρ, kx, _, tk, R, h, fun d ρ1 v1 H1 W1 h1 le1 R1 d1 => ?_⟩
  cases d <;> try exact h1.elim
  rename_i cn fs xs
  obtain ⟨hc, q⟩ := h1
  simp only [DV] at d1
  obtain ⟨a, C, dx, vs, rfl, m, g, l, hdx, dv⟩ := d1
  obtain ⟨xc, ki⟩ := hk.get hc m
  refine ⟨a, C, dx, c, cv, _, rfl, R1.w.g _ _ g, fun dd e => ?_, xc, hcv, ki, hQ _ ρ1 _ H1 W1 q le1 R1 (by simp only [DV])⟩
  subst e
  exact ⟨_, R1.w.g _ _ hdx⟩
theorem pe_exf {te : TE} (he : PE X e te) (hb : attributeBase e f X.env (eval e X.env) = eval e X.env := by rfl) :
    PE X (.Attribute e f pos) (fun σ H Q => te σ H fun x H1 => ∃ (a C dd : Addr) (fs : List (Str × V)) (v : V), x = .ref a ∧ H1 a = some (ExO (.ref C) (some dd) a) ∧ H1 dd = some (.xd fs) ∧ fs.lookup f = some v ∧ XfC X.K C ∧ PySem.W.findIn X.K (.ref C) f = some none ∧ Q v H1) := by
  refine ⟨fun pins s σ H Q I h => ?_⟩
  refine attr_of hb (thn (he.run pins s σ H _ I h) fun u s1 hh => ?_)
  obtain ⟨x, H1, I1, rx, a, C, dd, fs, v, ex, ha, ea, l, T, hno, q⟩ := hh
  subst ex
  obtain rfl : u = Value.ref a := rx
  obtain ⟨⟨oe, fl, hget, hz, hd⟩, _, _⟩ := I1.hok a _ ha
  obtain ⟨mA, hns, hr⟩ := I1.hok dd _ ea
  obtain ⟨od, ho, hl⟩ := lookIn_ns hns
  obtain ⟨u, hu, ru⟩ := RelO.some_of (v := v) (o := mA f) (by rw [← l]; exact hr f)
  have J : PySem.W.InstAt s1.heap a oe C (some od) := ⟨hget, hz.1, by unfold PySem.W.notCls; rw [hd] <;> rfl, by rw [hz.2]; exact ho⟩
  exact HandSPX.exc_get I1.kIn J T.ga T.gg T.exC (PySem.W.findObj_own T.hdC hno rfl (by rw [hl, hu])) (handed_of ru) ⟨v, H1, I1.tok _, ru, q⟩
def fldXK (known : List Str) (f : Str) (k : KE) : KE := fun d ρ => match d with | .exc c fs xs => known.contains c = true ∧ ∃ d', (fs.zip xs).lookup f = some d' ∧ k d' ρ | _ => False
def dFldX (known : List Str) (f : Str) (τ : TD) : TD := fun ρ kx k => τ ρ kx (fldXK known f k)
theorem pd_fldX {known : List Str} (he : PEd X e τ) (hk : KnX X.mg (fun _ C => XfC X.K C ∧ PySem.W.findIn X.K (.ref C) f = some none) known) (hb : attributeBase e f X.env (eval e X.env) = eval e X.env := by rfl) : PEd X (.Attribute e f pos) (dFldX known f τ) :=
  ⟨PE.imp (pe_exf he.p hb) fun σ H Q ⟨W, F, ρ, kx, k, tk, R, h, hQ⟩ => ⟨W, F, ρ, kx, _, tk, R, h, fun d ρ1 v1 H1 W1 h1 le1 R1 d1 => by
    cases d <;> try exact h1.elim
    rename_i cn fs xs
    obtain ⟨hc, d', hl, q⟩ := h1
    simp only [DV] at d1
    obtain ⟨a, C, dx, vs, rfl, m, g, l, hdx, dv⟩ := d1
    obtain ⟨xf, no⟩ := hk.get hc m
    cases dx with
    | none =>
      have hdx : fs = [] := hdx
      subst hdx
      simp at hl
    | some dd =>
      obtain ⟨v, ev, r⟩ := lookup_dv l dv hl
      exact ⟨a, C, dd, _, v, rfl, R1.w.g _ _ g, R1.w.g _ _ hdx, ev, xf, no, hQ d' ρ1 v H1 W1 q le1 R1 r⟩⟩⟩
def sRaise0 (c : Str) : TDS := fun ρ kx _ => kx ⟨c, [], []⟩ ρ
end
/-! ### tuple constants -/
section
variable {known : List Str} {sub : Str → Bool} {ρ : Rho} {kx : KX} {k : KE} {kd : D → Prop} {τ : TD} {τr : TDS} {c f : Str} {fs : List Str} {xs : List D} {ds : List D} {τs : TDa} {n b cc : Rho → Prop} {r : D → Rho → Prop}
theorem x_fldX (h : τ ρ kx (fldXK known f k)) : dFldX known f τ ρ kx k := h
theorem x_fldXK {d : D} (h : known.contains c = true) (e : (fs.zip xs).lookup f = some d) (h2 : k d ρ) : fldXK known f k (.exc c fs xs) ρ := ⟨h, d, e, h2⟩
theorem x_raise0 (h : kx ⟨c, [], []⟩ ρ) : sRaise0 c ρ kx ⟨n, r, b, cc⟩ := h
def raiseK (c f : Str) (kx : KX) : List D → Rho → Prop := fun ds ρ => ds.length = 1 ∧ kx ⟨c, [f], ds⟩ ρ
theorem x_raise (h : τs ρ kx (raiseK c f kx)) : sRaise c f τs ρ kx ⟨n, r, b, cc⟩ := h
theorem x_raiseK {d : D} (h : kx ⟨c, [f], [d]⟩ ρ) : raiseK c f kx [d] ρ := ⟨rfl, h⟩
theorem x_heard {ρ' : Rho} (e : hideR ρ = ρ') (h : τ ρ' (hExc known sub τr ρ kx k) (hVal τr ρ kx k)) : dHeard known sub τr τ ρ kx k := by unfold dHeard; rw [e]; exact h
theorem x_hVal {d : D} {ρ1 : Rho} (h : hRest τr ρ kx k [.un, .val .non, .val d, .un, .un]) : hVal τr ρ kx k d ρ1 := h
theorem x_hExc {ρ1 : Rho} (h1 : known.contains c = true) (h2 : sub c = true) (h : hRest τr ρ kx k [.un, .val (.exc c fs xs), .val .non, .un, .un]) : hExc known sub τr ρ kx k ⟨c, fs, xs⟩ ρ1 := ⟨h1, by rw [if_pos h2]; exact h⟩
theorem x_hRest {ρh : Rho} (h : τr ρh (fun x _ => kx x ρ) ⟨fun _ => k .non ρ, fun d _ => k d ρ, fun _ => False, fun _ => False⟩) : hRest τr ρ kx k ρh := h
end
end DL
namespace DL
open PySem PySem.Spec PyProof.Rows L2 LamX
@[reducible] def tabOf (cs : List (Addr × Addr × Str)) : TabC := ⟨fun b => (cs.find? fun p => p.2.1 == b).map (·.2.2)⟩
theorem walkLT {l : PySem.W.OpenLaw} {q : Program} {loose : List Str} {XP : (Str → Option Value) → Heap → Prop} {YP : World → Heap → Prop} {d : DefRec} {K : Params → PySem.W.Frag} {k : Nat} (hr : Room k callerA) (hn : l.most = some 63) (hdf : d.params.defaults = [])
    (hY : ∀ (w : World) (h : Heap), YP w h → (K w.params).In h)
    (F : ∀ (w : World) (mg : Str → Option Value) (fa : Addr) (h : Heap), (K w.params).In h → h.Ns mainGlobals mg → mg d.name = some (.ref fa) →
      (∀ (nm : Str) (fb : Addr), ((recsOf q).any fun e => e.name == nm) = true → mg nm = some (.ref fb) → OwnTab (K w.params) fb h) →
      ∃ (cs : List (Addr × Addr × Str)) (fd : FuncData), (∀ p ∈ cs, h.get? p.2.1 = some { cls := .none, data := .fields #[] }) ∧ (∀ p ∈ cs, (K w.params).lookup p.2.1 = none) ∧ (∀ p ∈ cs, PySem.W.CodeHd h p.1 p.2.1) ∧ (∀ (s : Shared) (u : Value), BindsTo s fd ⟨[u], []⟩ [("_law_script", u)]) ∧
        ∀ base : Heap, (K w.params).In base → base.Ns mainGlobals mg → (∀ p ∈ cs, TabB base mg p.1 p.2.1) → FnOk l.prog w (K w.params) mg base (L2.CX l.prog w) k fa fd ["_law_script"] (@spLaw (tabOf cs) (K w.params))) :
    PySem.W.WalkO q loose XP YP l.row.toRowW d [] (fun f vs => PySem.call f vs) := by
  refine Att.attach_callB hn hdf fun w s₀ s₁ mg mb fa o pm cd doc a vs ns G Y ho hd hcd hmg hobj hints hlen hbits hg => ?_
  have KX := hY w _ Y
  have own : ∀ (nm : Str) (fb : Addr), ((recsOf q).any fun e => e.name == nm) = true → mg nm = some (.ref fb) → OwnTab (K w.params) fb s₁.heap := fun nm fb hrec hfb c P o1 fd1 e dd vs1 sl k1 k2 k3 k4 k5 => by
    obtain ⟨dL, hm, hn1⟩ := List.any_eq_true.mp hrec
    have hn2 : dL.name = nm := beq_iff_eq.mp hn1
    obtain ⟨a', o', fd', c', P', h1, h2, h3, h4, h5, h6⟩ := G.T.tab dL hm
    rw [hn2, hfb] at h1
    cases h1
    have g1 := KX _ _ k1
    rw [g1] at h2
    cases h2
    rw [k2] at h3
    cases h3
    rw [k3] at h4
    cases h4
    obtain ⟨⟨oc, vc, e1, _, e3, e4⟩, hP⟩ := h6
    have g2 := KX _ _ k4
    rw [g2] at e1
    cases e1
    cases e3
    rw [k5] at e4
    cases e4
    exact hP
  obtain ⟨cs, fd, hT, nT, C, hb, hF⟩ := F w mg fa _ KX G.T.g hmg own
  refine law_callTs (cs := cs.map fun p => (p.1, p.2.1)) KX G.T.g G.T.b G.T.builtins G.T.nolimit hg (fun p hp => ?_) (fun p hp => ?_) (fun p hp => ?_) G.T.bmain hobj hints (Nat.le_trans hlen (by rw [sizeLine_eq]; decide)) hr (fun base h1 h2 h3 => hF base h1 h2 fun p hp => h3 (p.1, p.2.1) (List.mem_map.mpr ⟨p, hp, rfl⟩)) hb (fun H hH hS => ?_) fun H e s' => law_nox
  · obtain ⟨p', hp', e⟩ := List.mem_map.mp hp
    rw [← e]; exact hT p' hp'
  · obtain ⟨p', hp', e⟩ := List.mem_map.mp hp
    rw [← e]; exact nT p' hp'
  · obtain ⟨p', hp', e⟩ := List.mem_map.mp hp
    rw [← e]; exact C p' hp'
  · refine ⟨a, ns, rfl, hS, hlen, fun P q e => ?_, fun _ => rfl⟩
    have e : (cs.find? fun p => p.2.1 == P).map (·.2.2) = some q := e
    obtain ⟨p, hp, _⟩ := Option.map_eq_some_iff.mp e
    have h1 := List.mem_of_find?_eq_some hp
    have h2 : (p.2.1 == P) = true := by have := List.find?_some hp; simpa using this
    rw [← beq_iff_eq.mp h2]
    exact hH (p.1, p.2.1) (List.mem_map.mpr ⟨p, h1, rfl⟩)
end DL
set_option maxHeartbeats 4000000
/-! DL53: small parts for generated texts with exceptions. -/
namespace DL
open PySem PySem.Spec PyProof.Rows L2 LamX
variable [TabC]
theorem pass_none {X : Cx} : Passes (L2.CX X.prog X.w) X (fun _ _ _ => False) := fun _ _ _ _ e s' _ h => by
  obtain ⟨_, _, _, _, _, _, _, _, _, _, _, _, z⟩ := h
  exact z.elim
theorem binds_of2 {K : PySem.W.Frag} {fd : FuncData} {s0 s1 : Str} (B : BindD K fd [s0, s1] 2 [] [0, 1] []) : Binds K fd [s0, s1] [] := fun s us X hl => by
  obtain ⟨its, r, h⟩ := B.b
  cases r
  match us, hl with
  | [a, b], _ => exact h s [a, b] [] X rfl rfl
theorem binds_of1K {K : PySem.W.Frag} {fd : FuncData} {s0 s1 f : Str} (B : BindD K fd [s0, s1] 1 [f] [0, 1] []) : ∀ (s : Shared) (us ws : List Value), K.In s.heap → us.length = 1 → ws.length = ([f] : List Str).length → BindsTo s fd ⟨us, ([f] : List Str).zip ws⟩ (([s0, s1] : List Str).zip (us ++ ws)) := fun s us ws X h1 h2 => by
  obtain ⟨its, r, h⟩ := B.b
  cases r
  match us, ws, h1, h2 with
  | [a], [b], _, _ => exact h s [a] [b] X rfl rfl
theorem kit_self {K : PySem.W.Frag} {C : Addr} : PySem.W.kitOne K (.ref C) (.ref C) = some true := by
  unfold PySem.W.kitOne
  rw [if_pos (by simp)]
theorem kit_other {K : PySem.W.Frag} {D C : Addr} {b : Bool} (ne : (Value.ref D == Value.ref C) = false) (h1 : PySem.W.isClsIn K C = true) (h2 : PySem.W.typeIn K (.ref C) = some (.type "type")) (h3 : PySem.W.subIn K (.ref D) (.ref C) = some b) : PySem.W.kitOne K (.ref D) (.ref C) = some b := by
  have e : ((PySem.W.clsIn K C).isSome && PySem.W.typeIn K (.ref C) == some (.type "type")) = true := by
    have h1' : (PySem.W.clsIn K C).isSome = true := h1
    rw [h1', h2] <;> rfl
  unfold PySem.W.kitOne PySem.W.kitCls
  rw [if_neg (by rw [ne]; decide)]
  dsimp only
  rw [if_pos e]
  exact h3
theorem kit_type {K : PySem.W.Frag} {D : Addr} {T : String} {b : Bool} (h1 : PySem.W.kitMeta T = true) (h3 : PySem.W.subIn K (.ref D) (.type T) = some b) : PySem.W.kitOne K (.ref D) (.type T) = some b := by
  have ne : (Value.ref D == Value.type T) = false := by
    cases e : (Value.ref D == Value.type T) with
    | false => rfl
    | true => exact nomatch (beq_iff_eq.mp e)
  unfold PySem.W.kitOne PySem.W.kitCls
  rw [if_neg (by rw [ne]; decide)]
  dsimp only
  rw [if_pos h1]
  exact h3
theorem exm_own {K : PySem.W.Frag} {C : Addr} {cls : Value} {b : Bool} (h1 : PySem.W.subIn K (.ref C) (.type "BaseException") = some true) (h2 : PySem.W.isClsIn K C = true) (h3 : PySem.W.typeIn K (.ref C) = some (.type "type")) (h4 : PySem.W.subIn K cls (.ref C) = some b) :
    PySem.W.exmOne K cls (.ref C) = some b := by
  have e1 : (PySem.W.subIn K (.ref C) (.type "BaseException") == some true) = true := by rw [h1] <;> rfl
  have e2 : ((PySem.W.clsIn K C).isSome && PySem.W.typeIn K (.ref C) == some (.type "type")) = true := by
    have h2' : (PySem.W.clsIn K C).isSome = true := h2
    rw [h2', h3] <;> rfl
  show (if (PySem.W.subIn K (.ref C) (.type "BaseException") == some true) = true then (if ((PySem.W.clsIn K C).isSome && PySem.W.typeIn K (.ref C) == some (.type "type")) = true then PySem.W.subIn K cls (.ref C) else none) else none) = some b
  rw [if_pos e1, if_pos e2]
  exact h4
section
variable {known : List Str} {sub : Str → Bool} {ρ : Rho} {kx : KX} {τ τh : TDS} {n b cc : Rho → Prop} {r : D → Rho → Prop} {c : Str} {fs : List Str} {xs : List D}
def tryX (known : List Str) (sub : Str → Bool) (τh : TDS) (kx : KX) (k : KS) : KX := fun xd ρ1 => known.contains xd.c = true ∧ if sub xd.c = true then τh ρ1 (fun _ _ => False) k else kx xd ρ1
theorem x_try (h : τ ρ (tryX known sub τh kx ⟨n, r, b, cc⟩) ⟨n, r, b, cc⟩) : sTry known sub τ τh ρ kx ⟨n, r, b, cc⟩ := h
theorem x_tryX {k : KS} (h1 : known.contains c = true) (h2 : sub c = true) (h : τh ρ (fun _ _ => False) k) : tryX known sub τh kx k ⟨c, fs, xs⟩ ρ := ⟨h1, by rw [if_pos h2]; exact h⟩
end
end DL
namespace DL
open PySem PySem.Spec PyProof.Rows L2
theorem x_isXb {known : List Str} {sub : Str → Bool} {c : Str} {fs : List Str} {xs : List D} {kd : D → Prop} (b : Bool) (h : known.contains c = true) (e : sub c = b) (h2 : kd (.bl b)) : gIsX known sub (.exc c fs xs) kd := ⟨h, by rw [e]; exact h2⟩
end DL
namespace DL
open PySem PySem.Spec PyProof.Rows L2
theorem x_countC {ds : List D} {d : D} {kd : D → Prop} (n : Nat) (f1 : flatD d = true) (f2 : ds.all flatD = true) (e : ds.countP (fun z => eqf z d) = n) (h : kd (.int (n : Nat))) : gCountF ds d kd := ⟨f1, f2, by rw [e]; exact h⟩
theorem x_indexC {ds : List D} {d : D} {kd : D → Prop} (j : Nat) (z : D) (f1 : flatD d = true) (f2 : ds.all flatD = true) (e1 : ds[j]? = some z) (e2 : eqf z d = true) (e3 : (ds.take j).all (fun z => !eqf z d) = true) (h : kd (.int (j : Nat))) : gIndexF ds d kd :=
  ⟨f1, f2, j, z, e1, e2, fun m z' hm hz => by
    have h1 := List.all_eq_true.mp e3 z' (List.mem_iff_getElem?.mpr ⟨m, by rw [List.getElem?_take, if_pos hm]; exact hz⟩)
    simpa using h1, h⟩
theorem x_inC {x : D} {ds : List D} {kd : D → Prop} (b : Bool) (f1 : flatD x = true) (f2 : ds.all flatD = true) (e : inV (vOf x) (ds.map vOf) = b) (h : kd (.bl b)) : gIn x (.tup ds) kd := ⟨f1, f2, by rw [e]; exact h⟩
theorem x_ninC {x : D} {ds : List D} {kd : D → Prop} (b : Bool) (f1 : flatD x = true) (f2 : ds.all flatD = true) (e : inV (vOf x) (ds.map vOf) = b) (h : kd (.bl (!b))) : gNin x (.tup ds) kd := ⟨f1, f2, by show kd (.bl (!inV (vOf x) (ds.map vOf))); rw [e]; exact h⟩
theorem x_neC {x y : D} {kd : D → Prop} (b : Bool) (p : pln 9 x = true) (q : pln 9 y = true) (e : deq x y = b) (h : kd (.bl (!b))) : gNe x y kd := ⟨p, q, by rw [e]; exact h⟩
end DL
set_option maxHeartbeats 4000000
/-! DL54: plain parts for several laws: sorted ints, dot, near. -/
namespace CS
open PySem PySem.Spec PyProof.Rows L2 DL
def srt (l : List Int) : List Int := l.mergeSort fun a b => decide (a ≤ b)
theorem srt_perm (l : List Int) : (srt l).Perm l := List.mergeSort_perm _ _
theorem srt_le (l : List Int) : (srt l).Pairwise (· ≤ ·) := by
  have h := List.pairwise_mergeSort (le := fun a b : Int => decide (a ≤ b)) (fun a b c h1 h2 => by simp only [decide_eq_true_eq] at *; omega) (fun a b => by simp only [Bool.or_eq_true, decide_eq_true_eq]; omega) l
  exact h.imp fun h => of_decide_eq_true h
theorem srt_of {a l : List Int} (h : a.Perm l) (hs : a.Pairwise (· ≤ ·)) : a = srt l := sorted_uniq (h.trans (srt_perm l).symm) hs (srt_le l)
theorem x_srtL {ns : List Int} {ks : DL.S → Prop} (l : ns.length ≤ BIG) (h : ks (.own ((srt ns).map D.int))) : cSortedI [.lst (ns.map D.int)] ks := ⟨ns, rfl, l, fun ms hp hs => by rw [srt_of hp hs]; exact h⟩
theorem All2.ex {α : Type} {β : Type} {f : β → D} {P : β → Prop} {xs : List α} {ys : List D} (h : All2 (fun _ y => ∃ a, y = f a ∧ P a) xs ys) : ∃ l : List β, ys = l.map f ∧ l.length = xs.length ∧ ∀ a ∈ l, P a := by
  induction h with
  | nil => exact ⟨[], rfl, rfl, fun _ h => by cases h⟩
  | cons h _ ih =>
    obtain ⟨a, rfl, ha⟩ := h
    obtain ⟨l, rfl, hl, hp⟩ := ih
    refine ⟨a :: l, rfl, by simp [hl], fun b hb => ?_⟩
    rcases List.mem_cons.mp hb with rfl | hb
    · exact ha
    · exact hp b hb
end CS
set_option maxHeartbeats 4000000
/-! DZ7: zip(a, b) of lists and tuples, the first not the longer one, as a thing to walk, by data. -/
namespace DZ
open PySem PySem.Spec PyProof.Rows L2 DL
variable [DL.TabC]
section
variable {X : Cx} {e e2 : Expr} {ta : TA} {tk : TA} {p pos tpos kp cp : Pos} {elts : List Expr} {kk kj : Nat}
variable {τa τb : TD}
def iZpN (τa τb : TD) : TDi := fun ρ kx k => τa ρ kx fun d ρ1 => τb ρ1 kx fun d2 ρ2 => ∃ ds es, seqD d = some ds ∧ seqD d2 = some es ∧ ds.length ≤ es.length ∧ k (zipD ds es) ρ2
end
end DZ
namespace DL
open PySem PySem.Spec PyProof.Rows L2
section
variable {ρ : Rho} {kx : KX} {ds es : List D} {τa τb : TD} {ka : List D → Rho → Prop}
def zpQ (ka : List D → Rho → Prop) (d : D) : KE := fun d2 ρ2 => ∃ ds es, DZ.seqD d = some ds ∧ DZ.seqD d2 = some es ∧ ds.length ≤ es.length ∧ ka (zipD ds es) ρ2
theorem x_zpQ (h : τa ρ kx fun d ρ1 => τb ρ1 kx (zpQ ka d)) : DZ.iZpN τa τb ρ kx ka := h
end
end DL
set_option maxHeartbeats 4000000
namespace CS
open PySem PySem.Spec PyProof.Rows L2 DL
end CS
set_option maxHeartbeats 4000000
/-! DL56: while. -/
namespace DL
open PySem PySem.Spec PyProof.Rows L2
variable [TabC]
variable {X : Cx} {pos : Pos}
def sWhile (τc : TDt) (tb : TDS) : TDS := fun ρ kx k => ∃ W : Nat → Rho → Prop, (∃ m, W m ρ) ∧ ∀ m ρ, W m ρ →
  τc ρ kx fun b ρ1 => if b = true then tb ρ1 kx { nx := fun ρ' => ∃ m', m' < m ∧ W m' ρ', ct := fun ρ' => ∃ m', m' < m ∧ W m' ρ', bk := k.nx, rt := k.rt } else k.nx ρ1
theorem sd_while {c : Expr} {τc : TDt} {body : List Stmt} {tb : TDS} (hp : PassesOwn (model X.prog X.w) X.A X.env X.xe) (hc : PTd X c τc) (hb : PBd X body tb) : PSd X (.While c body [] pos) (sWhile τc tb) := by
  refine ⟨PS.imp (ps_while hp hc.p hb.p) fun D σ H ⟨W0, F, ρ, kx, k, tk, R, ⟨W, ⟨m0, w0⟩, turn⟩, L⟩ => ?_⟩
  refine ⟨fun m σ' H' => ∃ W1 ρ', W0.le W1 ∧ Rep X.K X.mg W1 F H' σ' ρ' ∧ W m ρ', ⟨m0, W0, ρ, Wd.le.refl _, R, w0⟩, ?_⟩
  rintro m σ' H' ⟨W1, ρ', le, R', w⟩
  refine ⟨W1, F, ρ', kx, _, tk.mono le, R', turn m ρ' w, fun b ρ2 H2 W2 h2 le2 R2 => ?_⟩
  cases b with
  | true =>
    rw [if_pos rfl] at h2 ⊢
    refine ⟨fun σ3 H3 => ∃ W3 ρ3, W0.le W3 ∧ Rep X.K X.mg W3 F H3 σ3 ρ3 ∧ ∃ m', m' < m ∧ W m' ρ3, fun σ3 H3 ⟨W3, ρ3, le3, R3, n3⟩ => ?_, ?_⟩
    · obtain ⟨m', hm, w3⟩ := n3
      exact ⟨m', hm, W3, ρ3, le3, R3, w3⟩
    · refine ⟨W2, F, ρ2, kx, _, tk.mono (le.trans le2), R2, h2, ⟨fun ρ5 σ5 H5 W5 h5 le5 R5 => ⟨W5, ρ5, (le.trans le2).trans le5, R5, h5⟩, fun d5 ρ5 v5 σ5 H5 W5 h5 le5 R5 dv5 => L.rt d5 ρ5 v5 σ5 H5 W5 h5 ((le.trans le2).trans le5) R5 dv5,
        fun ρ5 σ5 H5 W5 h5 le5 R5 => L.nx ρ5 σ5 H5 W5 h5 ((le.trans le2).trans le5) R5, fun ρ5 σ5 H5 W5 h5 le5 R5 => ⟨W5, ρ5, (le.trans le2).trans le5, R5, h5⟩⟩⟩
  | false =>
    rw [if_neg Bool.false_ne_true] at h2 ⊢
    exact L.nx ρ2 σ' H2 W2 h2 (le.trans le2) R2
theorem x_while {τc : TDt} {tb : TDS} {ρ : Rho} {kx : KX} {k : KS} (J : Nat → Rho → Prop) {m0 : Nat} (h0 : J m0 ρ)
    (hs : ∀ m ρ (P : Rho → Prop), J m ρ → (∀ m' ρ', m' < m → J m' ρ' → P ρ') → P = (fun ρ' => ∃ m', m' < m ∧ J m' ρ') → τc ρ kx fun b ρ1 => if b = true then tb ρ1 kx { nx := P, rt := k.rt, bk := k.nx, ct := P } else k.nx ρ1) : sWhile τc tb ρ kx k :=
  ⟨J, ⟨m0, h0⟩, fun m ρ1 w => hs m ρ1 _ w (fun m' ρ' l j => ⟨m', l, j⟩) rfl⟩
end DL
set_option maxHeartbeats 4000000
/-! DL57: range with a step above 0; the reading of a def that calls itself. -/
namespace DL
open PySem PySem.Spec PyProof.Rows L2
variable [TabC]
variable {X : Cx} {pos : Pos} {tg : Expr}
def rngC (lo c : Int) (n : Nat) : List D := (List.range n).map fun i => D.int (lo + (i : Nat) * c)
theorem rngC_len (lo c : Int) (n : Nat) : (rngC lo c n).length = n := by simp [rngC]
theorem rngC_get {lo c : Int} {n i : Nat} (h : i < n) : (rngC lo c n)[i]? = some (D.int (lo + (i : Nat) * c)) := by simp [rngC, h]
def stp (i j c : Int) : Nat := (if i < j then (j - i - 1) / c + 1 else 0).toNat
theorem rgC_pos {i j c : Int} (hc : 1 ≤ c) (hc2 : c ≤ 1000) (h1 : -1000000 ≤ i ∧ i ≤ 1000000) (h2 : -1000000 ≤ j ∧ j ≤ 1000000) : RgC i j c (stp i j c) := by
  have hs : Builtin.Range.rangeSize i j c = (stp i j c : Int) := by
    unfold Builtin.Range.rangeSize stp
    rw [if_pos (by omega)]
    by_cases h : i < j
    · rw [if_pos h]
      have := Int.ediv_nonneg (show 0 ≤ j - i - 1 by omega) (show 0 ≤ c by omega)
      omega
    · rw [if_neg h]
      rfl
  have hle : (stp i j c : Int) ≤ 3000000 := by
    unfold stp
    by_cases h : i < j
    · rw [if_pos h]
      have := Int.ediv_nonneg (show 0 ≤ j - i - 1 by omega) (show 0 ≤ c by omega)
      have := Int.ediv_le_self (a := j - i - 1) c (by omega)
      omega
    · rw [if_neg h]
      decide
  refine ⟨by omega, by omega, ?_, hs⟩
  unfold Builtin.Range.small
  rw [hs]
  simp only [Builtin.Range.rangeFitsLong, Bool.and_eq_true, Bool.or_eq_true, decide_eq_true_eq, beq_iff_eq, show c > 0 by omega, if_true]
  omega
def iRg3 (τs : TDa) : TDi := fun ρ kx k => τs ρ kx fun ds ρ' => match ds with
  | [.int i, .int j, .int c] => (1 ≤ c ∧ c ≤ 1000 ∧ -1000000 ≤ i ∧ i ≤ 1000000 ∧ -1000000 ≤ j ∧ j ≤ 1000000 ∧ stp i j c ≤ BIG) ∧ k (rngC i c (stp i j c)) ρ'
  | _ => False
theorem dvs3 {K : PySem.W.Frag} {mg : Str → Option Value} {W : Wd} {d d2 d3 : D} {vs : List V} (h : DVs K mg W [d, d2, d3] vs) : ∃ v v2 v3, vs = [v, v2, v3] ∧ DV K mg W d v ∧ DV K mg W d2 v2 ∧ DV K mg W d3 v3 := by
  simp only [DVs] at h
  obtain ⟨v, vr, e, r, v2, vr2, e2, r2, v3, vr3, e3, r3, t⟩ := h
  subst t
  subst e3
  subst e2
  exact ⟨v, v2, v3, e, r, r2, r3⟩
theorem id_range3 {a b c : Expr} {τs : TDa} {p : Pos} (hg : Gl X "range") (hm : X.mg "range" = none) (ha : PAd X [a, b, c] τs) (hs : starEach [a, b, c] X.env = (false, eval a X.env) :: starEach [b, c] X.env := by rfl) (hpl : (backTo pos (starEach [b, c] X.env)).any (·.1) = false := by rfl) :
    PId X tg (.Call (.Name "range" p) [a, b, c] [] pos) (iRg3 τs) :=
  ⟨⟨_, pi_range3 hg hm ha.p hs hpl, fun σ H R W F ρ kx k tk Rp hτ hR => ⟨W, F, ρ, kx, _, tk, Rp, hτ, fun ds ρ1 vs H1 W1 h1 le1 R1 d1 => by
    match ds, h1, d1 with
    | [.int i, .int j, .int c], h1, d1 =>
      obtain ⟨v, v2, v3, e, r, r2, r3⟩ := dvs3 d1
      simp only [DV] at r r2 r3
      subst r
      subst r2
      subst r3
      obtain ⟨⟨b1, b2, b3, b4, b5, b6, b7⟩, h1⟩ := h1
      refine ⟨i, j, c, stp i j c, e, rgC_pos b1 b2 ⟨b3, b4⟩ ⟨b5, b6⟩, hR _ ρ1 H1 W1 _ h1 le1 R1 ?_⟩
      exact ⟨by rw [rngC_len]; exact big_le b7, _, _, by rw [rngC_len]; exact walk_rangeC, fun _ _ => trivial, fun i H2 H3 x W2 F2 σ2 ρ2 hi le2 R2 y => by
        rw [rngC_len] at hi
        obtain ⟨e3, hx⟩ := y
        subst e3
        subst hx
        exact ⟨_, W2, rngC_get hi, Wd.le.refl _, R2, by simp only [DV]⟩⟩⟩⟩⟩
def rg3K (ka : List D → Rho → Prop) : List D → Rho → Prop := fun ds ρ' => match ds with
  | [.int i, .int j, .int c] => (1 ≤ c ∧ c ≤ 1000 ∧ -1000000 ≤ i ∧ i ≤ 1000000 ∧ -1000000 ≤ j ∧ j ≤ 1000000 ∧ stp i j c ≤ BIG) ∧ ka (rngC i c (stp i j c)) ρ'
  | _ => False
section
variable {τl : TDa} {ρ : Rho} {kx : KX} {ka : List D → Rho → Prop}
theorem x_rg3 (h : τl ρ kx (rg3K ka)) : iRg3 τl ρ kx ka := h
theorem x_rg3K {i j c : Int} (b : 1 ≤ c ∧ c ≤ 1000 ∧ -1000000 ≤ i ∧ i ≤ 1000000 ∧ -1000000 ≤ j ∧ j ≤ 1000000 ∧ stp i j c ≤ BIG) (h : ka (rngC i c (stp i j c)) ρ) : rg3K ka [.int i, .int j, .int c] ρ := ⟨b, h⟩
end
end DL
set_option maxHeartbeats 4000000
/-! DL58: x in a tuple, by deep equality. -/
namespace DL
open PySem PySem.Spec PyProof.Rows L2
variable [TabC]
section
variable {X : Cx} {a b : Expr} {τa τb : TD} {pos : Pos}
def rInT (K : PySem.W.Frag) (neg : Bool) : R2 := fun x y H Q => ∃ d ds, Dp K H x d ∧ Dp K H y (.tuple ds) ∧ SeqAt.shaped d = true ∧ SeqAt.shaped (.tuple ds) = true ∧ PyData.depth d ≤ 60 ∧ Q (.bl (if neg then !ds.any fun z => PyData.eqv z d else ds.any fun z => PyData.eqv z d)) H
theorem op_ninT (hu : X.A.units + 64 < cLine) : OpR X (compareOp .NotIn) (rInT X.K true) := by
  intro pins s σ H x y v u Q I rx ry h
  obtain ⟨d, ds, hd, he, sd, se, dp, q⟩ := h
  have hr : X.A.units + 1 + min (PyData.depthAll ds) d.depth < cLine := by have := Nat.min_le_right (PyData.depthAll ds) d.depth; omega
  obtain ⟨as, r1⟩ := Dp.reads I d x v hd rx
  obtain ⟨bs, r2⟩ := Dp.reads I (.tuple ds) y u he ry
  exact SeqAt.notIn_tuple_reads r2 r1 (SeqAt.canLay_of_shaped se) (SeqAt.canLay_of_shaped sd) hr ⟨.bl _, H, I, rfl, q⟩
def gInD (neg : Bool) : G2 := fun x y k => match y with
  | .tup ds => pln 9 x = true ∧ pln 9 (.tup ds) = true ∧ k (.bl (if neg then !ds.any fun z => deq z x else ds.any fun z => deq z x))
  | _ => False
theorem any_toPys (f : PyData → Bool) : ∀ ds : List D, (toPys ds).any f = ds.any fun z => f (toPy z)
  | [] => by simp only [toPys]; rfl
  | d :: ds => by
    simp only [toPys]
    rw [List.any_cons, List.any_cons, any_toPys f ds]
theorem od_inD (neg : Bool) : OpD X (rInT X.K neg) (gInD neg) := by
  intro W F H σ ρ x y dx dy k Q R hx hy hg hQ
  cases dy <;> try exact hg.elim
  rename_i ds
  obtain ⟨p1, p2, hk⟩ := hg
  obtain ⟨h1, h2, h3⟩ := hx.dp R.w.g dx 9 x p1
  obtain ⟨k1, k2, k3⟩ := hy.dp R.w.g (.tup ds) 9 y p2
  refine ⟨toPy dx, toPys ds, h1, by simpa only [toPy] using k1, shaped_of (by decide) h2 h3, by simpa only [toPy] using shaped_of (d := .tup ds) (by decide) k2 k3, Nat.le_trans h3 (by decide), hQ _ _ H W hk (Wd.le.refl W) R ?_⟩
  simp only [DV, any_toPys]
  rfl
theorem td_ninD {k : Nat} (hr : Room k X.A) (ha : PEd X a τa) (hb : PEd X b τb) (hm : behindInMarks .NotIn b = false := by with_unfolding_all rfl) : PTd X (.Compare a [.NotIn] [b] pos) (dTest (dOp (gInD true) τa τb)) := td_cmp (op_ninT hr.units) (od_inD true) ha hb hm
theorem x_ninDC {x : D} {ds : List D} {kd : D → Prop} (b : Bool) (p : pln 9 x = true) (q : pln 9 (.tup ds) = true) (e : (ds.any fun z => deq z x) = b) (h : kd (.bl (!b))) : gInD true x (.tup ds) kd := ⟨p, q, by
  show kd (.bl (!ds.any fun z => deq z x))
  rw [e]; exact h⟩
end
end DL
set_option maxHeartbeats 4000000
namespace L68
open PySem PySem.Spec PyProof.Rows L2 DL
variable [TabC]
def top (i : Nat) : Stmt := PySem.Challenge.pw_strokesgiven_k68_whole_the_strongest_mee.main.body.getD i (.Pass ⟨0, 0, 0, 0⟩)
/-! the draw, the beginning -/
abbrev s_draw : Stmt := top 18
abbrev N_draw : List Str := ["_law_script", "_law_town", "_law_many", "_law_at", "_law_rest", "_law_number"]
abbrev ps_draw : List Str := ["_law_script", "_law_town", "_law_many"]
theorem sc_draw : FnScope N_draw ps_draw (defScope s_draw) := ⟨rfl, rfl, rfl, by decide +kernel, rfl, by decide +kernel, by decide +kernel⟩
section
variable {P : Program} {w : World} {K : PySem.W.Frag} {mg : Str → Option Value} {base : Heap}
theorem ok_draw {fa : Addr} {fd : FuncData} (F : FunD K "_law_draw" "_law_draw" (defArgs s_draw) (defBody s_draw) (defScope s_draw) [] [] fa fd) (lenN : mg "len" = none) : FnOk P w K mg base (L2.CX P w) 1 fa fd ps_draw (SpD K mg 3 drawM) := by
  refine F.ok sc_draw (fun vs H Q E h => h.1) fun cdv A outer s H vs Q E hr h => ?_
  obtain ⟨hl, W, Fx, ds, kx, kk, wok, dv, hm, hQ, _⟩ := h
  have hu := hu_of hr
  match ds, hm, dv with
  | [.scr ns, .town, .int n], hm, dv =>
    obtain ⟨⟨hn0, hn1⟩, hk⟩ := hm
    simp only [DVs, DV] at dv
    obtain ⟨_, _, e1, ⟨sa, e2, hS, lS⟩, _, _, e3, ⟨ta, tr, e4, hT⟩, _, _, e5, e6, e7⟩ := dv
    subst e2 e4 e6 e7 e5 e3 e1
    obtain ⟨tn, c, kvs, h1, h2, _, h3, h4⟩ := (wok.t _ hT).1
    have hS0 : SqL K H sa (ns.map V.int) := seqL_mono wok.g hS
    have ntr : tr ≠ ta := Ne.symm tn
    have rs : Rests kvs := ⟨h3, h4⟩
    -- the script is none of the town's dicts
    have keepS : ∀ {H' : Hp}, (∀ b, b ≠ ta → b ≠ tr → H' b = H b) → SqL K H' sa (ns.map V.int) := fun {H'} hb => by
      obtain ⟨_, g1, g2, _, _⟩ := wok.t _ hT
      have ne : ∀ {o : HO}, W.G sa = some o → sa ≠ ta ∧ sa ≠ tr := fun e => ⟨(fun z => by rw [z, g1] at e; cases e), (fun z => by rw [z, g2] at e; cases e)⟩
      rcases hS with (z | ⟨o, z⟩) | z
      · exact .inl (.inl ((hb sa (ne z).1 (ne z).2).trans (wok.g _ _ z)))
      · exact .inl (.inr ⟨o, (hb sa (ne z).1 (ne z).2).trans (wok.g _ _ z)⟩)
      · exact .inr z
    let H1 : Hp := upd H ta (.dK (tk (c + 1) tr))
    have a1 : H1 ta = some (.dK (tk (c + 1) tr)) := upd_same
    have a2 : H1 tr = some (.dK kvs) := (upd_ne ntr).trans h2
    have aS : SqL K H1 sa (ns.map V.int) := keepS fun b b1 _ => upd_ne b1
    have done : ∀ (H' : Hp) (kvs' : List (Key × V)) (v : Int), Rests kvs' → H' ta = some (.dK (tk (c + 1) tr)) → H' tr = some (.dK kvs') → (∀ b, b ≠ ta → b ≠ tr → H' b = H b) → 0 ≤ v → v < n → Q (.int v) H' := fun H' kvs' v rs' b1 b2 b3 v0 v1 =>
      hQ (.int v) (.int v) H' W (hk v v0 v1) (Wd.le.refl W) (wok.town hT b3 (townAt_of tn b1 b2 rs'.1 rs'.2)) (by simp only [DV])
    refine ⟨_, (pss_cons (ps_dput hu (pv 1) pe_str (pe_op op_add (pe_dget hu (pv 1) pe_str (fun _ _ => rfl)) pe_int) rfl)
      (pss_cons (ps_set (i := 3) sc_draw.nd rfl (Or.inl rfl) (pe_ifExp (pt_truth (pv 0) (by intro _; rfl)) (pe_op op_mod (pe_dget hu (pv 1) pe_str (fun _ _ => rfl)) (pe_callB call_len (by rfl) lenN PySem.boot_len (pa_cons (pv 0) pa_nil))) pe_int))
      (pss_cons (ps_set (i := 4) sc_draw.nd rfl (Or.inl rfl) (pe_dget2 hu (pe_dget hu (pv 1) pe_str (fun _ _ => rfl)) (pv 3) (pe_ifExp (pt_truth (pv 0) (by intro _; rfl)) (pe_ix ix_list (pv 0) (pv 3) (fun _ _ => rfl)) pe_int) ⟨rfl, rfl, rfl, rfl⟩))
      (pss_cons (ps_if (pt_cmpR op_ge (pv 4) (pe_op op_pow pe_int pe_int) (nomark _))
          (pss_cons (ps_dput hu (pe_dget hu (pv 1) pe_str (fun _ _ => rfl)) (pv 3) (pe_op op_fdivN (pv 4) (pv 2)) rfl)
          (pss_one (ps_ret (pe_op op_mod (pv 4) (pv 2))))) pss_nil)
      (pss_cons (ps_set (i := 5) sc_draw.nd rfl (Or.inl rfl) (pe_op op_mod (pe_op op_add (pv 4) (pe_op op_mul pe_int (pe_dget hu (pv 1) pe_str (fun _ _ => rfl)))) pe_int))
      (pss_cons (ps_set (i := 5) sc_draw.nd rfl (Or.inl rfl) (pe_op op_mod (pe_op op_pow (pv 5) pe_int) pe_int))
      (pss_one (ps_ret (pe_op op_mod (pe_op op_fdivN (pe_op op_mod (pe_op op_add (pe_op op_mul (pe_op op_fdivN (pv 5) pe_int) pe_int) (pv 5)) pe_int) pe_int) (pv 2)))))))))), ?_⟩
    refine ⟨_, rfl, ta, _, rfl, (by have q := DGet.k (k := kCount) h1; rw [show valV ([(kCount, V.int c), (kRests, V.ref tr)] : List (Key × V)) kCount = some (.int c) from tk_count c tr] at q; exact q), _, _, rfl, rfl, _, rfl, ta, _, rfl,
      (by have q := DPut.k (k := kCount) (v := V.int (c + 1)) h1 (by show 2 < sizeLine; rw [sizeLine_eq]; decide); rw [show putK ([(kCount, V.int c), (kRests, V.ref tr)] : List (Key × V)) kCount (.int (c + 1)) = tk (c + 1) tr from tk_put c (c + 1) tr] at q; exact q), ?_⟩
    have gC : DGet H1 ta (.str "count") (some (.int (c + 1))) := by have q := DGet.k (k := kCount) a1; rw [tk_count] at q; exact q
    have gR : DGet H1 ta (.str "rests") (some (.ref tr)) := by have q := DGet.k (k := kRests) a1; rw [tk_rests] at q; exact q
    -- from a place and a rest on
    have tail : ∀ (i m : Int), 0 ≤ i → i < 64 → ∀ σ : L2.St, σ[0]? = some (some (.ref sa)) → σ[1]? = some (some (.ref ta)) → σ[2]? = some (some (.int n)) → σ[3]? = some (some (.int i)) → σ[4]? = some (some (.int m)) → σ.length = 6 →
        tSeq (tIfS (tTest (tOp (rI0 fun i j => .bl (decide (j ≤ i))) (tVar 4) (tOp (rI CPow fun i j => .int (i ^ j.toNat)) (tC (.int 10)) (tC (.int 18)))))
          (tSeq (sDPut (tDGet (tVar 1) (tC (.str "rests"))) (tVar 3) (tOp (rI CDivN fun i j => .int (i.fdiv j)) (tVar 4) (tVar 2))) (tRet (tOp (rI (fun _ j => 0 < j) fun i j => .int (i % j)) (tVar 4) (tVar 2)))) tNext)
          (tSeq (tAsg (tOp (rI (fun _ j => 0 < j) fun i j => .int (i % j)) (tOp (rI0 fun i j => .int (i + j)) (tVar 4) (tOp (rI CMul fun i j => .int (i * j)) (tC (.int 104729)) (tDGet (tVar 1) (tC (.str "count"))))) (tC (.int 4294967291))) (gName 5))
          (tSeq (tAsg (tOp (rI (fun _ j => 0 < j) fun i j => .int (i % j)) (tOp (rI CPow fun i j => .int (i ^ j.toNat)) (tVar 5) (tC (.int 5))) (tC (.int 4294967279))) (gName 5))
          (tRet (tOp (rI (fun _ j => 0 < j) fun i j => .int (i % j)) (tOp (rI CDivN fun i j => .int (i.fdiv j)) (tOp (rI (fun _ j => 0 < j) fun i j => .int (i % j)) (tOp (rI0 fun i j => .int (i + j)) (tOp (rI CMul fun i j => .int (i * j)) (tOp (rI CDivN fun i j => .int (i.fdiv j)) (tVar 5) (tC (.int 64))) (tC (.int 69621))) (tVar 5)) (tC (.int 4294967231))) (tC (.int 8))) (tVar 2)))))
          { nx := fun _ H' => Q .non H', rt := Q } σ H1 := by
      intro i m i0 i1 σ s0 s1 s2 s3 s4 sl
      refine ⟨_, s4, _, _, rfl, rfl, (by unfold CPow; decide), _, _, rfl, rfl, _, rfl, ite2 (fun _ => ?_) (fun _ => ?_)⟩
      · refine ⟨_, s4, _, s2, _, _, rfl, rfl, ⟨by omega, by omega⟩, _, s1, ta, _, rfl, gR, _, s3, tr, _, rfl, DPut.k (k := Sum.inl i) a2 (by have := rs.len; rw [sizeLine_eq]; omega), ?_⟩
        refine ⟨_, s4, _, s2, _, _, rfl, rfl, hn0, ?_⟩
        exact done _ (putK kvs (Sum.inl i) (.int (m.fdiv n))) _ (rs.put i0 i1) ((upd_ne tn).trans a1) upd_same (fun b b1 b2 => (upd_ne b2).trans (upd_ne b1)) (emod_lt' m hn0).1 (emod_lt' m hn0).2
      · refine ⟨_, s4, _, s1, ta, _, rfl, gC, _, _, rfl, rfl, (.inl ⟨by decide, by decide⟩), _, _, rfl, rfl, _, _, rfl, rfl, (by show (0 : Int) < 4294967291; decide), ?_⟩
        have r1 := emod_lt' (m + 104729 * (c + 1)) (n := 4294967291) (by decide)
        have t5 : (σ.set 5 (some (V.int ((m + 104729 * (c + 1)) % 4294967291))))[5]? = some (some (.int ((m + 104729 * (c + 1)) % 4294967291))) := List.getElem?_set_self (by rw [sl]; decide)
        refine ⟨_, t5, _, _, rfl, rfl, ⟨by decide, by decide, (by show ((m + 104729 * (c + 1)) % 4294967291).natAbs < 2 ^ 64; omega)⟩, _, _, rfl, rfl, (by show (0 : Int) < 4294967279; decide), ?_⟩
        have u5 : ((σ.set 5 (some (V.int ((m + 104729 * (c + 1)) % 4294967291)))).set 5 (some (V.int (((m + 104729 * (c + 1)) % 4294967291) ^ (5 : Int).toNat % 4294967279))))[5]? = some (some (.int (((m + 104729 * (c + 1)) % 4294967291) ^ (5 : Int).toNat % 4294967279))) := List.getElem?_set_self (by rw [List.length_set, sl]; decide)
        have u2 : ((σ.set 5 (some (V.int ((m + 104729 * (c + 1)) % 4294967291)))).set 5 (some (V.int (((m + 104729 * (c + 1)) % 4294967291) ^ (5 : Int).toNat % 4294967279))))[2]? = some (some (.int n)) := by rw [List.getElem?_set_ne (by decide), List.getElem?_set_ne (by decide)]; exact s2
        refine ⟨_, u5, _, _, rfl, rfl, ⟨by decide, by decide⟩, _, _, rfl, rfl, (.inr ⟨by decide, by decide⟩), _, u5, _, _, rfl, rfl, _, _, rfl, rfl, (by show (0 : Int) < 4294967231; decide), _, _, rfl, rfl, ⟨by decide, by decide⟩, _, u2, _, _, rfl, rfl, hn0, ?_⟩
        exact done H1 kvs _ rs a1 a2 (fun b b1 _ => upd_ne b1) (emod_lt' _ hn0).1 (emod_lt' _ hn0).2
    have place : 0 ≤ (c + 1) % ((ns.map V.int).length : Nat) ∨ True := .inr trivial
    cases hE : ns with
    | nil =>
      subst hE
      refine ⟨_, rfl, false, .inl ⟨_, aS, rfl⟩, ?_⟩
      refine ⟨_, rfl, ta, _, rfl, gR, tr, rfl, .inl ⟨_, .inl a2⟩, _, rfl, _, rfl, false, .inl ⟨_, aS, rfl⟩, _, DGet.k (k := Sum.inl 0) a2, ?_⟩
      obtain ⟨m, em⟩ := rs.get 0 0
      rw [em]
      exact tail 0 m (by decide) (by decide) _ rfl rfl rfl rfl rfl rfl
    | cons n0 nr =>
      have ne : (!(ns.map V.int).isEmpty) = true := by rw [hE]; rfl
      have lp : 0 < ns.length := by rw [hE]; exact Nat.succ_pos _
      have lI : (0 : Int) < ((ns.map V.int).length : Nat) := by rw [List.length_map]; omega
      have rp := emod_lt' (c + 1) lI
      refine ⟨_, rfl, true, .inl ⟨_, aS, ne.symm⟩, ?_⟩
      refine ⟨_, rfl, ta, _, rfl, gC, _, rfl, _, (ns.map V.int).length, rfl, .inl ⟨_, aS, rfl⟩, _, _, rfl, rfl, lI, ?_⟩
      have lI2 : ((ns.map V.int).length : Int) = ns.length := by rw [List.length_map]
      obtain ⟨j, hj2⟩ : ∃ j : Nat, (c + 1) % ((ns.map V.int).length : Int) = (j : Int) := ⟨((c + 1) % ((ns.map V.int).length : Int)).toNat, by omega⟩
      have hj : j < ns.length := by omega
      have at_ : atI (ns.map V.int) ((j : Nat) : Int) = some (.int ns[j]) := atI_nat (by rw [List.getElem?_map, List.getElem?_eq_getElem hj]; rfl)
      refine ⟨_, rfl, ta, _, rfl, gR, tr, rfl, .inl ⟨_, .inl a2⟩, _, rfl, _, rfl, true, .inl ⟨_, aS, ne.symm⟩, ?_⟩
      refine ⟨_, rfl, _, rfl, sa, _, _, _, rfl, rfl, aS, (by rw [hj2]; exact at_), _, (by show DGet H1 tr (.int ((c + 1) % ((ns.map V.int).length : Int))) _; rw [hj2]; exact DGet.k (k := Sum.inl (j : Int)) a2), ?_⟩
      obtain ⟨m, em⟩ := rs.get (j : Int) ns[j]
      rw [em]
      exact tail ((c + 1) % ((ns.map V.int).length : Int)) m (by omega) (by omega) _ rfl rfl rfl rfl rfl rfl
end
abbrev dv_law_draw : List V := []
abbrev s_law_draw : Stmt := s_draw
abbrev ps_law_draw : List Str := ps_draw
abbrev m_law_draw : FD := drawM
abbrev s_law_begun : Stmt := top 19
abbrev N_law_begun : List Str := []
abbrev ps_law_begun : List Str := []
theorem sc_law_begun : FnScope N_law_begun ps_law_begun (defScope s_law_begun) := ⟨rfl, rfl, rfl, by decide +kernel, rfl, by decide +kernel, by decide +kernel⟩
abbrev dv_law_begun : List V := []
abbrev s_places_of : Stmt := top 12
abbrev N_places_of : List Str := ["many", "row", "longer", "place"]
abbrev ps_places_of : List Str := ["many"]
theorem sc_places_of : FnScope N_places_of ps_places_of (defScope s_places_of) := ⟨rfl, rfl, rfl, by decide +kernel, rfl, by decide +kernel, by decide +kernel⟩
abbrev dv_places_of : List V := []
abbrev s_by_twos : Stmt := top 13
abbrev N_by_twos : List Str := ["row", "at"]
abbrev ps_by_twos : List Str := ["row"]
theorem sc_by_twos : FnScope N_by_twos ps_by_twos (defScope s_by_twos) := ⟨rfl, rfl, rfl, by decide +kernel, rfl, by decide +kernel, by decide +kernel⟩
abbrev dv_by_twos : List V := []
abbrev s_draw_up : Stmt := top 14
abbrev N_draw_up : List Str := ["names", "places", "place"]
abbrev ps_draw_up : List Str := ["names"]
theorem sc_draw_up : FnScope N_draw_up ps_draw_up (defScope s_draw_up) := ⟨rfl, rfl, rfl, by decide +kernel, rfl, by decide +kernel, by decide +kernel⟩
abbrev dv_draw_up : List V := []
abbrev s_law_stronger : Stmt := top 22
abbrev N_law_stronger : List Str := ["_law_names", "_law_pairs", "_law_won", "_law_many", "_law_one_here", "_law_other_here", "_law_some", "_law_name"]
abbrev ps_law_stronger : List Str := ["_law_names", "_law_pairs"]
theorem sc_law_stronger : FnScope N_law_stronger ps_law_stronger (defScope s_law_stronger) := ⟨rfl, rfl, rfl, by decide +kernel, rfl, by decide +kernel, by decide +kernel⟩
abbrev dv_law_stronger : List V := []
abbrev s_NoName_init_m : Stmt := inClass (top 6) 0
abbrev N_NoName_init_m : List Str := ["self", "name"]
abbrev ps_NoName_init_m : List Str := ["self", "name"]
theorem sc_NoName_init_m : FnScope N_NoName_init_m ps_NoName_init_m (defScope s_NoName_init_m) := ⟨rfl, rfl, rfl, by decide +kernel, rfl, by decide +kernel, by decide +kernel⟩
abbrev dv_NoName_init_m : List V := []
abbrev s_play_on : Stmt := top 15
abbrev N_play_on : List Str := ["pairs", "won", "pair", "name"]
abbrev ps_play_on : List Str := ["pairs", "won"]
theorem sc_play_on : FnScope N_play_on ps_play_on (defScope s_play_on) := ⟨rfl, rfl, rfl, by decide +kernel, rfl, by decide +kernel, by decide +kernel⟩
abbrev dv_play_on : List V := []
abbrev s_rounds_to : Stmt := top 16
abbrev N_rounds_to : List Str := ["names", "one", "other", "name", "row", "mine", "yours", "rounds"]
abbrev ps_rounds_to : List Str := ["names", "one", "other"]
theorem sc_rounds_to : FnScope N_rounds_to ps_rounds_to (defScope s_rounds_to) := ⟨rfl, rfl, rfl, by decide +kernel, rfl, by decide +kernel, by decide +kernel⟩
abbrev dv_rounds_to : List V := []
abbrev s_law_class : Stmt := top 20
abbrev N_law_class : List Str := ["_law_kept", "_law_kinds", "_law_names"]
abbrev ps_law_class : List Str := ["_law_kept"]
theorem sc_law_class : FnScope N_law_class ps_law_class (defScope s_law_class) := ⟨rfl, rfl, rfl, by decide +kernel, rfl, by decide +kernel, by decide +kernel⟩
abbrev dv_law_class : List V := []
abbrev s_law_heard : Stmt := top 21
abbrev N_law_heard : List Str := ["_law_deed", "_law_kept", "_law_found", "e", "_law_name"]
abbrev ps_law_heard : List Str := ["_law_deed"]
theorem sc_law_heard : FnScope N_law_heard ps_law_heard (defScope s_law_heard) := ⟨rfl, rfl, rfl, by decide +kernel, rfl, by decide +kernel, by decide +kernel⟩
abbrev dv_law_heard : List V := []
abbrev s_law_round_of : Stmt := top 23
abbrev N_law_round_of : List Str := ["_law_script", "_law_town", "_law_names", "_law_one_here", "_law_other_here", "_law_pairs", "_law_rounds", "_law_won", "_law_pair", "_law_some", "_law_mine", "_law_name"]
abbrev ps_law_round_of : List Str := ["_law_script", "_law_town", "_law_names", "_law_one_here", "_law_other_here"]
theorem sc_law_round_of : FnScope N_law_round_of ps_law_round_of (defScope s_law_round_of) := ⟨rfl, rfl, rfl, by decide +kernel, rfl, by decide +kernel, by decide +kernel⟩
abbrev dv_law_round_of : List V := []
abbrev s_law : Stmt := top 24
abbrev N_law : List Str := ["_law_script", "_law_town", "_law_names", "_law_pairs", "_law_left", "_law_won", "_law_k", "_law_one_here", "_law_other_here", "_law_told", "_law_at", "_law_name"]
abbrev ps_law : List Str := ["_law_script"]
theorem sc_law : FnScope N_law ps_law (defScope s_law) := ⟨rfl, rfl, rfl, by decide +kernel, rfl, by decide +kernel, by decide +kernel⟩
abbrev dv_law : List V := []
abbrev kn : List Str := ["NoName"]
abbrev kf_at : List Str := []
abbrev kf_lacks : List Str := []
abbrev kf_name : List Str := ["NoName"]
abbrev lawQ : Str := (envOfC "law" (defScope s_law) 0 0 .none).qual ++ "<lambda>"
structure Txt (K : PySem.W.Frag) (mg : Str → Option Value) where
  a_law_draw : Addr
  d_law_draw : FuncData
  F_law_draw : FunD K "_law_draw" "_law_draw" (defArgs s_law_draw) (defBody s_law_draw) (defScope s_law_draw) dv_law_draw [] a_law_draw d_law_draw
  g_law_draw : mg "_law_draw" = some (.ref a_law_draw)
  a_law_begun : Addr
  d_law_begun : FuncData
  F_law_begun : FunD K "_law_begun" "_law_begun" (defArgs s_law_begun) (defBody s_law_begun) (defScope s_law_begun) dv_law_begun [] a_law_begun d_law_begun
  g_law_begun : mg "_law_begun" = some (.ref a_law_begun)
  a_places_of : Addr
  d_places_of : FuncData
  F_places_of : FunD K "places_of" "places_of" (defArgs s_places_of) (defBody s_places_of) (defScope s_places_of) dv_places_of [] a_places_of d_places_of
  g_places_of : mg "places_of" = some (.ref a_places_of)
  a_by_twos : Addr
  d_by_twos : FuncData
  F_by_twos : FunD K "by_twos" "by_twos" (defArgs s_by_twos) (defBody s_by_twos) (defScope s_by_twos) dv_by_twos [] a_by_twos d_by_twos
  g_by_twos : mg "by_twos" = some (.ref a_by_twos)
  a_draw_up : Addr
  d_draw_up : FuncData
  F_draw_up : FunD K "draw_up" "draw_up" (defArgs s_draw_up) (defBody s_draw_up) (defScope s_draw_up) dv_draw_up [] a_draw_up d_draw_up
  g_draw_up : mg "draw_up" = some (.ref a_draw_up)
  a_law_stronger : Addr
  d_law_stronger : FuncData
  F_law_stronger : FunD K "_law_stronger" "_law_stronger" (defArgs s_law_stronger) (defBody s_law_stronger) (defScope s_law_stronger) dv_law_stronger [] a_law_stronger d_law_stronger
  g_law_stronger : mg "_law_stronger" = some (.ref a_law_stronger)
  a_NoName_init_m : Addr
  d_NoName_init_m : FuncData
  F_NoName_init_m : FunD K "__init__" "NoName.__init__" (defArgs s_NoName_init_m) (defBody s_NoName_init_m) (defScope s_NoName_init_m) dv_NoName_init_m [] a_NoName_init_m d_NoName_init_m
  a_play_on : Addr
  d_play_on : FuncData
  F_play_on : FunD K "play_on" "play_on" (defArgs s_play_on) (defBody s_play_on) (defScope s_play_on) dv_play_on [] a_play_on d_play_on
  g_play_on : mg "play_on" = some (.ref a_play_on)
  a_rounds_to : Addr
  d_rounds_to : FuncData
  F_rounds_to : FunD K "rounds_to" "rounds_to" (defArgs s_rounds_to) (defBody s_rounds_to) (defScope s_rounds_to) dv_rounds_to [] a_rounds_to d_rounds_to
  g_rounds_to : mg "rounds_to" = some (.ref a_rounds_to)
  a_law_class : Addr
  d_law_class : FuncData
  F_law_class : FunD K "_law_class" "_law_class" (defArgs s_law_class) (defBody s_law_class) (defScope s_law_class) dv_law_class [] a_law_class d_law_class
  g_law_class : mg "_law_class" = some (.ref a_law_class)
  a_law_heard : Addr
  d_law_heard : FuncData
  F_law_heard : FunD K "_law_heard" "_law_heard" (defArgs s_law_heard) (defBody s_law_heard) (defScope s_law_heard) dv_law_heard [] a_law_heard d_law_heard
  g_law_heard : mg "_law_heard" = some (.ref a_law_heard)
  a_law_round_of : Addr
  d_law_round_of : FuncData
  F_law_round_of : FunD K "_law_round_of" "_law_round_of" (defArgs s_law_round_of) (defBody s_law_round_of) (defScope s_law_round_of) dv_law_round_of [] a_law_round_of d_law_round_of
  g_law_round_of : mg "_law_round_of" = some (.ref a_law_round_of)
  a_law : Addr
  d_law : FuncData
  F_law : FunD K "law" "law" (defArgs s_law) (defBody s_law) (defScope s_law) dv_law [] a_law d_law
  g_law : mg "law" = some (.ref a_law)
  n_ValueError : mg "ValueError" = none
  n_isinstance : mg "isinstance" = none
  n_len : mg "len" = none
  n_list : mg "list" = none
  n_min : mg "min" = none
  n_range : mg "range" = none
  n_sorted : mg "sorted" = none
  n_str : mg "str" = none
  n_sum : mg "sum" = none
  n_tuple : mg "tuple" = none
  n_zip : mg "zip" = none
  C_StrokeError : Addr
  gC_StrokeError : mg "StrokeError" = some (.ref C_StrokeError)
  C_NoCourse : Addr
  gC_NoCourse : mg "NoCourse" = some (.ref C_NoCourse)
  C_NoHalf : Addr
  gC_NoHalf : mg "NoHalf" = some (.ref C_NoHalf)
  C_NoAbility : Addr
  gC_NoAbility : mg "NoAbility" = some (.ref C_NoAbility)
  C_NoShare : Addr
  gC_NoShare : mg "NoShare" = some (.ref C_NoShare)
  C_NoName : Addr
  gC_NoName : mg "NoName" = some (.ref C_NoName)
  C_Twice : Addr
  gC_Twice : mg "Twice" = some (.ref C_Twice)
  C_NoCard : Addr
  gC_NoCard : mg "NoCard" = some (.ref C_NoCard)
  C_NoText : Addr
  gC_NoText : mg "NoText" = some (.ref C_NoText)
  C_NoBack : Addr
  gC_NoBack : mg "NoBack" = some (.ref C_NoBack)
  xc_NoName : XcC K C_NoName
  ex_NoName : PySem.W.exmOne K (.ref C_NoName) (.ref C_StrokeError) = some true
  ki_NoName_NoAbility : PySem.W.kitOne K (.ref C_NoName) (.ref C_NoAbility) = some false
  ki_NoName_NoBack : PySem.W.kitOne K (.ref C_NoName) (.ref C_NoBack) = some false
  ki_NoName_NoCard : PySem.W.kitOne K (.ref C_NoName) (.ref C_NoCard) = some false
  ki_NoName_NoCourse : PySem.W.kitOne K (.ref C_NoName) (.ref C_NoCourse) = some false
  ki_NoName_NoHalf : PySem.W.kitOne K (.ref C_NoName) (.ref C_NoHalf) = some false
  ki_NoName_NoName : PySem.W.kitOne K (.ref C_NoName) (.ref C_NoName) = some true
  ki_NoName_NoShare : PySem.W.kitOne K (.ref C_NoName) (.ref C_NoShare) = some false
  ki_NoName_NoText : PySem.W.kitOne K (.ref C_NoName) (.ref C_NoText) = some false
  ki_NoName_Twice : PySem.W.kitOne K (.ref C_NoName) (.ref C_Twice) = some false
  ki_NoName_ValueError : PySem.W.kitOne K (.ref C_NoName) (.type "ValueError") = some true
  xf_NoName_name : XfC K C_NoName ∧ PySem.W.findIn K (.ref C_NoName) "name" = some none
  ox_NoName : OexC K C_NoName
  ic_NoName : PySem.W.findIn K (.ref C_NoName) "__init__" = some (some (.ref a_NoName_init_m))
  nf_NoName : PySem.W.findIn K (.ref C_NoName) "name" = some none
  ti_NoName : PySem.W.typeIn K (.ref a_NoName_init_m) = some (.type "function")
  cc_law : Addr
  pl_law : Addr
  code_law : d_law.code = .ref cc_law
  tb_law : TabC.tb pl_law = some lawQ
section
variable {P : Program} {w : World} {K : PySem.W.Frag} {mg : Str → Option Value} {base : Heap}
theorem b_places_of_0 (T : Txt K mg) : BindD K T.d_places_of ps_places_of 1 [] [0] [] := bind_all T.F_places_of 1 [] [0] rfl (fun _ _ _ _ _ _ us ws l0 l2 => match us, ws, l0, l2 with | [_], [], _, _ => rfl)
theorem b_by_twos_0 (T : Txt K mg) : BindD K T.d_by_twos ps_by_twos 1 [] [0] [] := bind_all T.F_by_twos 1 [] [0] rfl (fun _ _ _ _ _ _ us ws l0 l2 => match us, ws, l0, l2 with | [_], [], _, _ => rfl)
theorem b_NoName_init_m_0 (T : Txt K mg) : BindD K T.d_NoName_init_m ps_NoName_init_m 2 [] (0 :: ([0] : List Nat).map (· + 1)) [] := bind_all T.F_NoName_init_m 2 [] (0 :: ([0] : List Nat).map (· + 1)) rfl (fun _ _ _ _ _ _ us ws l0 l2 => match us, ws, l0, l2 with | [_, _], [], _, _ => rfl)
theorem b_NoName_init_m_1 (T : Txt K mg) : BindD K T.d_NoName_init_m ps_NoName_init_m 1 ["name"] (0 :: ([0] : List Nat).map (· + 1)) [] := bind_all T.F_NoName_init_m 1 ["name"] (0 :: ([0] : List Nat).map (· + 1)) rfl (fun _ _ _ _ _ _ us ws l0 l2 => match us, ws, l0, l2 with | [_], [_], _, _ => rfl)
theorem b_law_class_0 (T : Txt K mg) : BindD K T.d_law_class ps_law_class 1 [] [0] [] := bind_all T.F_law_class 1 [] [0] rfl (fun _ _ _ _ _ _ us ws l0 l2 => match us, ws, l0, l2 with | [_], [], _, _ => rfl)
theorem b_draw_up_0 (T : Txt K mg) : BindD K T.d_draw_up ps_draw_up 1 [] [0] [] := bind_all T.F_draw_up 1 [] [0] rfl (fun _ _ _ _ _ _ us ws l0 l2 => match us, ws, l0, l2 with | [_], [], _, _ => rfl)
theorem b_law_draw_0 (T : Txt K mg) : BindD K T.d_law_draw ps_law_draw 3 [] [0, 1, 2] [] := bind_all T.F_law_draw 3 [] [0, 1, 2] rfl (fun _ _ _ _ _ _ us ws l0 l2 => match us, ws, l0, l2 with | [_, _, _], [], _, _ => rfl)
theorem b_play_on_0 (T : Txt K mg) : BindD K T.d_play_on ps_play_on 2 [] [0, 1] [] := bind_all T.F_play_on 2 [] [0, 1] rfl (fun _ _ _ _ _ _ us ws l0 l2 => match us, ws, l0, l2 with | [_, _], [], _, _ => rfl)
theorem b_law_stronger_0 (T : Txt K mg) : BindD K T.d_law_stronger ps_law_stronger 2 [] [0, 1] [] := bind_all T.F_law_stronger 2 [] [0, 1] rfl (fun _ _ _ _ _ _ us ws l0 l2 => match us, ws, l0, l2 with | [_, _], [], _, _ => rfl)
theorem b_rounds_to_0 (T : Txt K mg) : BindD K T.d_rounds_to ps_rounds_to 3 [] [0, 1, 2] [] := bind_all T.F_rounds_to 3 [] [0, 1, 2] rfl (fun _ _ _ _ _ _ us ws l0 l2 => match us, ws, l0, l2 with | [_, _, _], [], _, _ => rfl)
theorem b_law_round_of_0 (T : Txt K mg) : BindD K T.d_law_round_of ps_law_round_of 5 [] [0, 1, 2, 3, 4] [] := bind_all T.F_law_round_of 5 [] [0, 1, 2, 3, 4] rfl (fun _ _ _ _ _ _ us ws l0 l2 => match us, ws, l0, l2 with | [_, _, _, _, _], [], _, _ => rfl)
theorem b_rounds_to_1 (T : Txt K mg) : BindD K T.d_rounds_to ps_rounds_to 1 ["other", "one"] [0, 2, 1] [] := bind_all T.F_rounds_to 1 ["other", "one"] [0, 2, 1] rfl (fun _ _ _ _ _ _ us ws l0 l2 => match us, ws, l0, l2 with | [_], [_, _], _, _ => rfl)
theorem b_law_heard_0 (T : Txt K mg) : BindD K T.d_law_heard ps_law_heard 1 [] [0] [] := bind_all T.F_law_heard 1 [] [0] rfl (fun _ _ _ _ _ _ us ws l0 l2 => match us, ws, l0, l2 with | [_], [], _, _ => rfl)
theorem kn_heard (T : Txt K mg) : KnX mg (fun _ C => PySem.W.exmOne K (.ref C) (.ref T.C_StrokeError) = some true) ["NoName"] := ⟨⟨T.C_NoName, T.gC_NoName, T.ex_NoName⟩, trivial⟩
theorem ki_NoAbility (T : Txt K mg) : KnX mg (fun n C => XcC K C ∧ PySem.W.kitOne K (.ref C) (.ref T.C_NoAbility) = some ((fun (n : Str) => n == "NoAbility") n)) ["NoName"] := ⟨⟨T.C_NoName, T.gC_NoName, ⟨T.xc_NoName, T.ki_NoName_NoAbility⟩⟩, trivial⟩
theorem ki_NoBack (T : Txt K mg) : KnX mg (fun n C => XcC K C ∧ PySem.W.kitOne K (.ref C) (.ref T.C_NoBack) = some ((fun (n : Str) => n == "NoBack") n)) ["NoName"] := ⟨⟨T.C_NoName, T.gC_NoName, ⟨T.xc_NoName, T.ki_NoName_NoBack⟩⟩, trivial⟩
theorem ki_NoCard (T : Txt K mg) : KnX mg (fun n C => XcC K C ∧ PySem.W.kitOne K (.ref C) (.ref T.C_NoCard) = some ((fun (n : Str) => n == "NoCard") n)) ["NoName"] := ⟨⟨T.C_NoName, T.gC_NoName, ⟨T.xc_NoName, T.ki_NoName_NoCard⟩⟩, trivial⟩
theorem ki_NoCourse (T : Txt K mg) : KnX mg (fun n C => XcC K C ∧ PySem.W.kitOne K (.ref C) (.ref T.C_NoCourse) = some ((fun (n : Str) => n == "NoCourse") n)) ["NoName"] := ⟨⟨T.C_NoName, T.gC_NoName, ⟨T.xc_NoName, T.ki_NoName_NoCourse⟩⟩, trivial⟩
theorem ki_NoHalf (T : Txt K mg) : KnX mg (fun n C => XcC K C ∧ PySem.W.kitOne K (.ref C) (.ref T.C_NoHalf) = some ((fun (n : Str) => n == "NoHalf") n)) ["NoName"] := ⟨⟨T.C_NoName, T.gC_NoName, ⟨T.xc_NoName, T.ki_NoName_NoHalf⟩⟩, trivial⟩
theorem ki_NoName (T : Txt K mg) : KnX mg (fun n C => XcC K C ∧ PySem.W.kitOne K (.ref C) (.ref T.C_NoName) = some ((fun (n : Str) => n == "NoName") n)) ["NoName"] := ⟨⟨T.C_NoName, T.gC_NoName, ⟨T.xc_NoName, T.ki_NoName_NoName⟩⟩, trivial⟩
theorem ki_NoShare (T : Txt K mg) : KnX mg (fun n C => XcC K C ∧ PySem.W.kitOne K (.ref C) (.ref T.C_NoShare) = some ((fun (n : Str) => n == "NoShare") n)) ["NoName"] := ⟨⟨T.C_NoName, T.gC_NoName, ⟨T.xc_NoName, T.ki_NoName_NoShare⟩⟩, trivial⟩
theorem ki_NoText (T : Txt K mg) : KnX mg (fun n C => XcC K C ∧ PySem.W.kitOne K (.ref C) (.ref T.C_NoText) = some ((fun (n : Str) => n == "NoText") n)) ["NoName"] := ⟨⟨T.C_NoName, T.gC_NoName, ⟨T.xc_NoName, T.ki_NoName_NoText⟩⟩, trivial⟩
theorem ki_Twice (T : Txt K mg) : KnX mg (fun n C => XcC K C ∧ PySem.W.kitOne K (.ref C) (.ref T.C_Twice) = some ((fun (n : Str) => n == "Twice") n)) ["NoName"] := ⟨⟨T.C_NoName, T.gC_NoName, ⟨T.xc_NoName, T.ki_NoName_Twice⟩⟩, trivial⟩
theorem ki_ValueError (T : Txt K mg) : KnX mg (fun n C => XcC K C ∧ PySem.W.kitOne K (.ref C) (.type "ValueError") = some ((fun _ => true) n)) ["NoName"] := ⟨⟨T.C_NoName, T.gC_NoName, ⟨T.xc_NoName, T.ki_NoName_ValueError⟩⟩, trivial⟩
theorem kx_at (T : Txt K mg) : KnX mg (fun _ C => XfC K C ∧ PySem.W.findIn K (.ref C) "at" = some none) [] := trivial
theorem kx_lacks (T : Txt K mg) : KnX mg (fun _ C => XfC K C ∧ PySem.W.findIn K (.ref C) "lacks" = some none) [] := trivial
theorem kx_name (T : Txt K mg) : KnX mg (fun _ C => XfC K C ∧ PySem.W.findIn K (.ref C) "name" = some none) ["NoName"] := ⟨⟨T.C_NoName, T.gC_NoName, T.xf_NoName_name⟩, trivial⟩
theorem ok_law_draw (T : Txt K mg) : FnOk P w K mg base (L2.CX P w) 1 T.a_law_draw T.d_law_draw ps_law_draw (SpD K mg 3 drawM) := ok_draw T.F_law_draw T.n_len
theorem ok_law_begun (T : Txt K mg) : FnOk P w K mg base (L2.CX P w) 1 T.a_law_begun T.d_law_begun [] SpB := by
  refine T.F_law_begun.ok sc_law_begun (fun vs H Q E h => by rw [h.1]; rfl) fun cdv A outer s H vs Q E hr h => ?_
  exact ⟨_, pss_one (ps_ret (pe_disp (pps_cons pe_str pe_int (pps_cons pe_str pe_dnewK pps_nil)) (by rfl) (by rfl) (fun z => by cases z) (by decide))), begun_read h.2⟩
def lp_places_of_1 : TDS :=
  (sDrop (dMt mExtend 2 (dCons (dFz (vLst (dCons (dVar 3) (dCons (dOp gSub (dOp gAddA (dOp gMult (dC (D.int 2)) (dBC cLen (dCons (dVar 1) dNil))) (dC (D.int 1))) (dVar 3)) dNil)))) dNil)))
def lp_places_of_2 : TDS :=
  (sSeq (sAsg 2 (vLst dNil))
  (sSeq (sFor (iSeq (dVar 1)) (gN 3) lp_places_of_1)
  (sFz 2 (sAsg 1 (vVal (dVar 2))))))
def tl_places_of_1 : TDS :=
  (sRet (dVar 1))
def body_places_of : TDS :=
  (sSeq (sAsg 1 (vVal (dFz (vLst (dCons (dC (D.int 1)) (dCons (dC (D.int 2)) dNil))))))
  (sSeq (sWhile (dTest (dOp gLt (dBC cLen (dCons (dVar 1) dNil)) (dVar 0))) lp_places_of_2)
  tl_places_of_1))
def m_places_of : FD := fnm 4 body_places_of
theorem go_places_of {x0 : D} {kx : XD → Prop} {k : D → Prop} (h : body_places_of [.val x0, .un, .un, .un] (fun x _ => kx x) ⟨fun _ => k .non, fun d _ => k d, fun _ => False, fun _ => False⟩) : m_places_of [x0] kx k := h
theorem ok_places_of (T : Txt K mg) : FnOk P w K mg base (L2.CX P w) 1 T.a_places_of T.d_places_of ps_places_of (SpD K mg ps_places_of.length m_places_of) := fn_d T.F_places_of sc_places_of fun cdv A outer s H E hr =>
  (bd_cons (sd_asg 1 sc_places_of.nd rfl (.inl rfl) (PEd.v (PEv.d (vd_lst (ad_cons pd_int (ad_cons pd_int ad_nil))))))
  (bd_cons (sd_while (passes_of rfl) (td_lt hr (pd_bc call_len cd_len rfl T.n_len PySem.boot_len (ad_cons (pd_var 1) ad_nil)) (pd_var 0)) (bd_cons (sd_asg 2 sc_places_of.nd rfl (.inl rfl) (vd_lst ad_nil))
  (bd_cons (sd_for (passes_of rfl) rfl (id_list (pd_var 1)) (gd_name 3 sc_places_of.nd rfl (.inl rfl)) (bd_one (sd_expr (pd_mt 2 PySem.F.slot_list_extend PySem.F.type_list_extend mt_extend md_extend (ad_cons (PEv.d (vd_lst (ad_cons (pd_var 3) (ad_cons (pd_sub (pd_addA (pd_mult pd_int (pd_bc call_len cd_len rfl T.n_len PySem.boot_len (ad_cons (pd_var 1) ad_nil))) pd_int) (pd_var 3)) ad_nil)))) ad_nil)))))
  (bd_one (sd_fz 2 (sd_asg 1 sc_places_of.nd rfl (.inl rfl) (PEd.v (pd_var 2))))))))
  (bd_one (sd_ret (pd_var 1)))))
def body_by_twos : TDS :=
  (sRet (dBC cTuple (dCons (dFz (vLc (iRg3 (dCons (dC (D.int 0)) (dCons (dOp gSub (dBC cLen (dCons (dVar 0) dNil)) (dC (D.int 1))) (dCons (dC (D.int 2)) dNil)))) (gN 1) tYesD (dTup (dCons (dOp gIdx (dVar 0) (dVar 1)) (dCons (dOp gIdx (dVar 0) (dOp gAddA (dVar 1) (dC (D.int 1)))) dNil))) [1])) dNil)))
def m_by_twos : FD := fnm 2 body_by_twos
theorem go_by_twos {x0 : D} {kx : XD → Prop} {k : D → Prop} (h : body_by_twos [.val x0, .un] (fun x _ => kx x) ⟨fun _ => k .non, fun d _ => k d, fun _ => False, fun _ => False⟩) : m_by_twos [x0] kx k := h
theorem ok_by_twos (T : Txt K mg) : FnOk P w K mg base (L2.CX P w) 1 T.a_by_twos T.d_by_twos ps_by_twos (SpD K mg ps_by_twos.length m_by_twos) := fn_d T.F_by_twos sc_by_twos fun cdv A outer s H E hr =>
  (bd_one (sd_ret (pd_tc call_tuple_ofF cd_tuple rfl T.n_tuple (by decide +kernel) (ad_cons (PEv.d (vd_lc (own := [("at", 1)]) rfl sc_by_twos.nd (id_range3 rfl T.n_range (ad_cons pd_int (ad_cons (pd_sub (pd_bc call_len cd_len rfl T.n_len PySem.boot_len (ad_cons (pd_var 0) ad_nil)) pd_int) (ad_cons pd_int ad_nil)))) (blkOk_by (by with_unfolding_all rfl)) (by decide) (fun _ _ _ _ _ => (gd_name 1 sc_by_twos.nd rfl (.inl rfl))) (fun _ _ _ _ _ => tsd_nil) (fun _ _ _ _ _ => (pd_tup (ad_cons (pd_ix (pd_var 0) (pd_var 1)) (ad_cons (pd_ix (pd_var 0) (pd_addA (pd_var 1) pd_int)) ad_nil)))))) ad_nil))))
def body_draw_up : TDS :=
  (sSeq (sAsg 1 (vVal (dCall m_places_of [0] [] (cnt 1 (dCons (dBC cLen (dCons (dVar 0) dNil)) dNil)) dNil)))
  (sRet (dCall m_by_twos [0] [] (cnt 1 (dCons (dFz (vLc (iSeq (dVar 1)) (gN 2) tYesD (dIf (dTest (dOp gLeI (dVar 2) (dBC cLen (dCons (dVar 0) dNil)))) (dOp gIdx (dVar 0) (dOp gSub (dVar 2) (dC (D.int 1)))) (dC D.non)) [2])) dNil)) dNil)))
def m_draw_up : FD := fnm 3 body_draw_up
theorem go_draw_up {x0 : D} {kx : XD → Prop} {k : D → Prop} (h : body_draw_up [.val x0, .un, .un] (fun x _ => kx x) ⟨fun _ => k .non, fun d _ => k d, fun _ => False, fun _ => False⟩) : m_draw_up [x0] kx k := h
theorem ok_draw_up (T : Txt K mg) : FnOk P w K mg base (L2.CX P w) 2 T.a_draw_up T.d_draw_up ps_draw_up (SpD K mg ps_draw_up.length m_draw_up) := fn_d T.F_draw_up sc_draw_up fun cdv A outer s H E hr =>
  (bd_cons (sd_asg 1 sc_draw_up.nd rfl (.inl rfl) (PEd.v (pd_call (ok_places_of T) (hr.mono (by decide)) rfl T.g_places_of T.F_places_of.kp (b_places_of_0 T) (fun _ => dvs_nil) (ad_cons (pd_bc call_len cd_len rfl T.n_len PySem.boot_len (ad_cons (pd_var 0) ad_nil)) ad_nil))))
  (bd_one (sd_ret (pd_call (ok_by_twos T) (hr.mono (by decide)) rfl T.g_by_twos T.F_by_twos.kp (b_by_twos_0 T) (fun _ => dvs_nil) (ad_cons (PEv.d (vd_lc (own := [("place", 2)]) rfl sc_draw_up.nd (id_list (pd_var 1)) (blkOk_by (by with_unfolding_all rfl)) (by decide) (fun _ _ _ _ _ => (gd_name 2 sc_draw_up.nd rfl (.inl rfl))) (fun _ _ _ _ _ => tsd_nil) (fun _ _ _ _ _ => (pd_if (td_cmp op_le od_leI (pd_var 2) (pd_bc call_len cd_len rfl T.n_len PySem.boot_len (ad_cons (pd_var 0) ad_nil)) (nomark _)) (pd_ix (pd_var 0) (pd_sub (pd_var 2) pd_int)) pd_non)))) ad_nil)))))
def lp_law_stronger_1 : TDS :=
  (sSeq (sAsg 6 (vLc (iTupD (dTup (dCons (dVar 4) (dCons (dVar 5) dNil)))) (gN 7) (dTest (dUn gNotIs (dVar 7))) (dOp gAddA (dMvT gIndexF (dVarS 0) (dCons (dVar 7) dNil)) (dC (D.int 1))) [7]))
  (sSeq (sFz 6 (sIf (dOr (dAnd (dTest (dOp gEq (dAlt (dLenO 6) (dBC cLen (dCons (dVar 6) dNil))) (dC (D.int 2)))) (dTest (dOp gNe (dBC cSum (dCons (dVar 6) dNil)) (dOp gAddA (dVar 3) (dC (D.int 1)))))) (dAnd (dTest (dOp gEq (dAlt (dLenO 6) (dBC cLen (dCons (dVar 6) dNil))) (dC (D.int 1)))) (dTest (dOp gLeI (dOp gSub (dOp gAddA (dVar 3) (dC (D.int 1))) (dAlt (dIxO 6 (dC (D.int 0))) (dOp gIdx (dVar 6) (dC (D.int 0))))) (dBC cLen (dCons (dVar 0) dNil)))))) (sRet (dC D.non)) sNext))
  (sFz 6 (sDrop (dMt mAppend 2 (dCons (dOp gIdx (dVar 0) (dOp gSub (dBC cMinA (dCons (dVar 6) dNil)) (dC (D.int 1)))) dNil))))))
def body_law_stronger : TDS :=
  (sSeq (sPar [2, 3] (mCons (vLst dNil) (mCons (vVal (dOp gMult (dC (D.int 2)) (dBC cLen (dCons (dVar 1) dNil)))) mNil)))
  (sSeq (sFor (iTupD (dVar 1)) (gT 2 (gsC (gN 4) (gsC (gN 5) gsN))) lp_law_stronger_1)
  (sFz 2 (sRet (dBC cTuple (dCons (dVar 2) dNil))))))
def m_law_stronger : FD := fnm 8 body_law_stronger
theorem go_law_stronger {x0 x1 : D} {kx : XD → Prop} {k : D → Prop} (h : body_law_stronger [.val x0, .val x1, .un, .un, .un, .un, .un, .un] (fun x _ => kx x) ⟨fun _ => k .non, fun d _ => k d, fun _ => False, fun _ => False⟩) : m_law_stronger [x0, x1] kx k := h
theorem ok_law_stronger (T : Txt K mg) : FnOk P w K mg base (L2.CX P w) 1 T.a_law_stronger T.d_law_stronger ps_law_stronger (SpD K mg ps_law_stronger.length m_law_stronger) := fn_d T.F_law_stronger sc_law_stronger fun cdv A outer s H E hr =>
  (bd_cons (sd_par2 2 3 rfl sc_law_stronger.nd rfl rfl (by decide) rfl rfl (md_cons (vd_lst ad_nil) (md_cons (PEd.v (pd_mult pd_int (pd_bc call_len cd_len rfl T.n_len PySem.boot_len (ad_cons (pd_var 1) ad_nil)))) md_nil)) (by rfl))
  (bd_cons (sd_for (passes_of rfl) rfl (id_tup (pd_var 1)) (gd_tup rfl (gsd_cons (gd_name 4 sc_law_stronger.nd rfl (.inl rfl)) (gsd_cons (gd_name 5 sc_law_stronger.nd rfl (.inl rfl)) gsd_nil))) (bd_cons (sd_lc (i := 6) rfl sc_law_stronger.nd rfl rfl (sw_true rfl rfl rfl (by decide +kernel)) (own := [("_law_name", 7)]) (id_tup (pd_tup (ad_cons (pd_var 4) (ad_cons (pd_var 5) ad_nil)))) (blkOk_by (by with_unfolding_all rfl)) (by decide) (fun _ _ _ _ _ => (gd_name 7 sc_law_stronger.nd rfl (.inl rfl))) (fun _ _ _ _ _ => (tsd_one (td_notN (pd_var 7)))) (fun _ _ _ _ _ => (pd_addA (pd_mvT PySem.F.slot_tuple_index PySem.F.type_tuple_index mt_indexT qm_indexT (pd_varS 0) (ad_cons (pd_var 7) ad_nil)) pd_int)))
  (bd_cons (sd_fz 6 (sd_if (PWd.t (wd_or (PWd.t (wd_and (td_eq hr (PEd.alt (pd_lenO 6 rfl T.n_len) (pd_bc call_len cd_len rfl T.n_len PySem.boot_len (ad_cons (pd_var 6) ad_nil))) pd_int) (wd_and1 (td_ne hr (pd_bc (cr_sumA rfl) cd_sum rfl T.n_sum (by decide +kernel) (ad_cons (pd_var 6) ad_nil)) (pd_addA (pd_var 3) pd_int))))) (wd_or1 (PWd.t (wd_and (td_eq hr (PEd.alt (pd_lenO 6 rfl T.n_len) (pd_bc call_len cd_len rfl T.n_len PySem.boot_len (ad_cons (pd_var 6) ad_nil))) pd_int) (wd_and1 (td_cmp op_le od_leI (pd_sub (pd_addA (pd_var 3) pd_int) (PEd.alt (pd_ixO 6 pd_int) (pd_ix (pd_var 6) pd_int))) (pd_bc call_len cd_len rfl T.n_len PySem.boot_len (ad_cons (pd_var 0) ad_nil)) (nomark _)))))))) (bd_one (sd_ret pd_non)) bd_nil))
  (bd_one (sd_fz 6 (sd_expr (pd_mt 2 PySem.F.slot_list_append PySem.F.type_list_append mt_append md_append (ad_cons (pd_ix (pd_var 0) (pd_sub (pd_bc (cr_minA rfl hr) cd_minA rfl T.n_min (by decide +kernel) (ad_cons (pd_var 6) ad_nil)) pd_int)) ad_nil))))))))
  (bd_one (sd_fz 2 (sd_ret (pd_tc call_tuple_ofF cd_tuple rfl T.n_tuple (by decide +kernel) (ad_cons (pd_var 2) ad_nil)))))))
theorem ok_NoName_init_m (T : Txt K mg) : FnOk P w K mg base (L2.CX P w) 1 T.a_NoName_init_m T.d_NoName_init_m ps_NoName_init_m (SpX K T.C_NoName "name") := fn_x T.F_NoName_init_m sc_NoName_init_m T.ox_NoName T.nf_NoName fun cdv A outer s H E hr => pss_one (ps_ost (pe_var (i := 0) rfl (Or.inl rfl)) (pe_var (i := 1) rfl (Or.inl rfl)))
def lp_play_on_1 : TDS :=
  (sIf (dOr (dTest (dUn gIs (dVar 3))) (dTest (dOp gNin (dVar 3) (dVar 2)))) (sRaise "NoName" "name" (dCons (dVar 3) dNil)) sNext)
def body_play_on : TDS :=
  (sSeq (sFor (DZ.iZpS (dVar 0) (dVar 1)) (gT 2 (gsC (gN 2) (gsC (gN 3) gsN))) lp_play_on_1)
  (sRet (dCall m_by_twos [0] [] (cnt 1 (dCons (dVar 1) dNil)) dNil)))
def m_play_on : FD := fnm 4 body_play_on
theorem go_play_on {x0 x1 : D} {kx : XD → Prop} {k : D → Prop} (h : body_play_on [.val x0, .val x1, .un, .un] (fun x _ => kx x) ⟨fun _ => k .non, fun d _ => k d, fun _ => False, fun _ => False⟩) : m_play_on [x0, x1] kx k := h
theorem ok_play_on (T : Txt K mg) : FnOk P w K mg base (L2.CX P w) 3 T.a_play_on T.d_play_on ps_play_on (SpD K mg ps_play_on.length m_play_on) := fn_d T.F_play_on sc_play_on fun cdv A outer s H E hr =>
  (bd_cons (sd_for (passes_of rfl) rfl (DZ.id_zipS rfl T.n_zip (pd_var 0) (pd_var 1)) (gd_tup rfl (gsd_cons (gd_name 2 sc_play_on.nd rfl (.inl rfl)) (gsd_cons (gd_name 3 sc_play_on.nd rfl (.inl rfl)) gsd_nil))) (bd_one (sd_if (PWd.t (wd_or (td_isN (pd_var 3)) (wd_or1 (td_nin hr (pd_var 3) (pd_var 2))))) (bd_one (sd_raise (f := "name") rfl T.ox_NoName T.ic_NoName T.ti_NoName (ok_NoName_init_m T) (hr.mono (by decide)) (binds_of2 (b_NoName_init_m_0 T)) pass_none rfl T.gC_NoName (ad_cons (pd_var 3) ad_nil))) bd_nil)))
  (bd_one (sd_ret (pd_call (ok_by_twos T) (hr.mono (by decide)) rfl T.g_by_twos T.F_by_twos.kp (b_by_twos_0 T) (fun _ => dvs_nil) (ad_cons (pd_var 1) ad_nil)))))
def lp_rounds_to_1 : TDS :=
  (sIf (dTest (dOp gNin (dVar 3) (dVar 0))) (sRaise "NoName" "name" (dCons (dVar 3) dNil)) sNext)
def lp_rounds_to_2 : TDS :=
  (sPar [5, 6, 7] (mCons (vVal (dOp gDiv (dVar 5) (dC (D.int 2)))) (mCons (vVal (dOp gDiv (dVar 6) (dC (D.int 2)))) (mCons (vVal (dOp gAddA (dVar 7) (dC (D.int 1)))) mNil))))
def tl_rounds_to_1 : TDS :=
  (sRet (dVar 7))
def body_rounds_to : TDS :=
  (sSeq (sFor (iTupD (dTup (dCons (dVar 1) (dCons (dVar 2) dNil)))) (gN 3) lp_rounds_to_1)
  (sSeq (sAsg 4 (vVal (dCall m_places_of [0] [] (cnt 1 (dCons (dBC cLen (dCons (dVar 0) dNil)) dNil)) dNil)))
  (sSeq (sPar [5, 6] (mCons (vVal (dMv gIndexF (dVar 4) (dCons (dOp gAddA (dMvT gIndexF (dVarS 0) (dCons (dVar 1) dNil)) (dC (D.int 1))) dNil))) (mCons (vVal (dMv gIndexF (dVar 4) (dCons (dOp gAddA (dMvT gIndexF (dVarS 0) (dCons (dVar 2) dNil)) (dC (D.int 1))) dNil))) mNil)))
  (sSeq (sAsg 7 (vVal (dC (D.int 0))))
  (sSeq (sWhile (dTest (dOp gNe (dVar 5) (dVar 6))) lp_rounds_to_2)
  tl_rounds_to_1)))))
def m_rounds_to : FD := fnm 8 body_rounds_to
theorem go_rounds_to {x0 x1 x2 : D} {kx : XD → Prop} {k : D → Prop} (h : body_rounds_to [.val x0, .val x1, .val x2, .un, .un, .un, .un, .un] (fun x _ => kx x) ⟨fun _ => k .non, fun d _ => k d, fun _ => False, fun _ => False⟩) : m_rounds_to [x0, x1, x2] kx k := h
theorem ok_rounds_to (T : Txt K mg) : FnOk P w K mg base (L2.CX P w) 3 T.a_rounds_to T.d_rounds_to ps_rounds_to (SpD K mg ps_rounds_to.length m_rounds_to) := fn_d T.F_rounds_to sc_rounds_to fun cdv A outer s H E hr =>
  (bd_cons (sd_for (passes_of rfl) rfl (id_tup (pd_tup (ad_cons (pd_var 1) (ad_cons (pd_var 2) ad_nil)))) (gd_name 3 sc_rounds_to.nd rfl (.inl rfl)) (bd_one (sd_if (td_nin hr (pd_var 3) (pd_var 0)) (bd_one (sd_raiseK (f := "name") (ks := ["name"]) rfl T.ox_NoName T.ic_NoName T.ti_NoName (ok_NoName_init_m T) (hr.mono (by decide)) (binds_of1K (b_NoName_init_m_1 T)) pass_none rfl T.gC_NoName (kd_cons (pd_var 3) kd_nil) rfl)) bd_nil)))
  (bd_cons (sd_asg 4 sc_rounds_to.nd rfl (.inl rfl) (PEd.v (pd_call (ok_places_of T) (hr.mono (by decide)) rfl T.g_places_of T.F_places_of.kp (b_places_of_0 T) (fun _ => dvs_nil) (ad_cons (pd_bc call_len cd_len rfl T.n_len PySem.boot_len (ad_cons (pd_var 0) ad_nil)) ad_nil))))
  (bd_cons (sd_par2 5 6 rfl sc_rounds_to.nd rfl rfl (by decide) rfl rfl (md_cons (PEd.v (pd_mv PySem.F.slot_list_index PySem.F.type_list_index mt_index qm_indexL (pd_var 4) (ad_cons (pd_addA (pd_mvT PySem.F.slot_tuple_index PySem.F.type_tuple_index mt_indexT qm_indexT (pd_varS 0) (ad_cons (pd_var 1) ad_nil)) pd_int) ad_nil))) (md_cons (PEd.v (pd_mv PySem.F.slot_list_index PySem.F.type_list_index mt_index qm_indexL (pd_var 4) (ad_cons (pd_addA (pd_mvT PySem.F.slot_tuple_index PySem.F.type_tuple_index mt_indexT qm_indexT (pd_varS 0) (ad_cons (pd_var 2) ad_nil)) pd_int) ad_nil))) md_nil)) (by rfl))
  (bd_cons (sd_asg 7 sc_rounds_to.nd rfl (.inl rfl) (PEd.v pd_int))
  (bd_cons (sd_while (passes_of rfl) (td_ne hr (pd_var 5) (pd_var 6)) (bd_one (sd_par3 5 6 7 rfl sc_rounds_to.nd rfl rfl rfl (by decide) (by decide) (by decide) rfl rfl rfl (md_cons (PEd.v (pd_div (pd_var 5) pd_int)) (md_cons (PEd.v (pd_div (pd_var 6) pd_int)) (md_cons (PEd.v (pd_addA (pd_var 7) pd_int)) md_nil))) (by rfl))))
  (bd_one (sd_ret (pd_var 7))))))))
def body_law_class : TDS :=
  (sSeq (sAsg 1 (vVal (dFz (vLst (dCons (dUn (gIsX kn (fun (n : Str) => n == "NoCourse")) (dVar 0)) (dCons (dUn (gIsX kn (fun (n : Str) => n == "NoHalf")) (dVar 0)) (dCons (dUn (gIsX kn (fun (n : Str) => n == "NoAbility")) (dVar 0)) dNil)))))))
  (sSeq (sAsg 1 (vVal (dFz (vCat (dVar 1) (dFz (vLst (dCons (dUn (gIsX kn (fun (n : Str) => n == "NoShare")) (dVar 0)) (dCons (dUn (gIsX kn (fun (n : Str) => n == "NoName")) (dVar 0)) (dCons (dUn (gIsX kn (fun (n : Str) => n == "Twice")) (dVar 0)) dNil)))))))))
  (sSeq (sAsg 1 (vVal (dFz (vCat (dVar 1) (dFz (vLst (dCons (dUn (gIsX kn (fun (n : Str) => n == "NoCard")) (dVar 0)) (dCons (dUn (gIsX kn (fun (n : Str) => n == "NoText")) (dVar 0)) (dCons (dUn (gIsX kn (fun (n : Str) => n == "NoBack")) (dVar 0)) dNil)))))))))
  (sSeq (sIf (dOr (dTest (dOp gNe (dMv gCountF (dVar 1) (dCons (dC (D.bl true)) dNil)) (dC (D.int 1)))) (dNot (dTest (dUn (gIsX kn (fun _ => true)) (dVar 0))))) (sRet (dC (D.str "is wrong"))) sNext)
  (sSeq (sAsg 2 (vVal (dFz (vLst (dCons (dC (D.str "no course")) (dCons (dC (D.str "no half")) (dCons (dC (D.str "no ability")) (dCons (dC (D.str "no share")) (dCons (dC (D.str "no name")) (dCons (dC (D.str "twice")) (dCons (dC (D.str "no card")) (dCons (dC (D.str "no text")) dNil))))))))))))
  (sRet (dOp gIdx (dFz (vCat (dVar 2) (dFz (vLst (dCons (dC (D.str "no back")) dNil))))) (dMv gIndexF (dVar 1) (dCons (dC (D.bl true)) dNil)))))))))
def m_law_class : FD := fnm 3 body_law_class
theorem go_law_class {x0 : D} {kx : XD → Prop} {k : D → Prop} (h : body_law_class [.val x0, .un, .un] (fun x _ => kx x) ⟨fun _ => k .non, fun d _ => k d, fun _ => False, fun _ => False⟩) : m_law_class [x0] kx k := h
theorem ok_law_class (T : Txt K mg) : FnOk P w K mg base (L2.CX P w) 1 T.a_law_class T.d_law_class ps_law_class (SpD K mg ps_law_class.length m_law_class) := fn_d T.F_law_class sc_law_class fun cdv A outer s H E hr =>
  (bd_cons (sd_asg 1 sc_law_class.nd rfl (.inl rfl) (PEd.v (PEv.d (vd_lst (ad_cons (pd_isX (pd_var 0) rfl T.n_isinstance (pe_glob (v := .ref T.C_NoCourse) rfl T.gC_NoCourse rfl) (fun _ h => h) (ki_NoCourse T)) (ad_cons (pd_isX (pd_var 0) rfl T.n_isinstance (pe_glob (v := .ref T.C_NoHalf) rfl T.gC_NoHalf rfl) (fun _ h => h) (ki_NoHalf T)) (ad_cons (pd_isX (pd_var 0) rfl T.n_isinstance (pe_glob (v := .ref T.C_NoAbility) rfl T.gC_NoAbility rfl) (fun _ h => h) (ki_NoAbility T)) ad_nil)))))))
  (bd_cons (sd_asg 1 sc_law_class.nd rfl (.inl rfl) (PEd.v (PEv.d (vd_cat (pd_var 1) (PEv.d (vd_lst (ad_cons (pd_isX (pd_var 0) rfl T.n_isinstance (pe_glob (v := .ref T.C_NoShare) rfl T.gC_NoShare rfl) (fun _ h => h) (ki_NoShare T)) (ad_cons (pd_isX (pd_var 0) rfl T.n_isinstance (pe_glob (v := .ref T.C_NoName) rfl T.gC_NoName rfl) (fun _ h => h) (ki_NoName T)) (ad_cons (pd_isX (pd_var 0) rfl T.n_isinstance (pe_glob (v := .ref T.C_Twice) rfl T.gC_Twice rfl) (fun _ h => h) (ki_Twice T)) ad_nil)))))))))
  (bd_cons (sd_asg 1 sc_law_class.nd rfl (.inl rfl) (PEd.v (PEv.d (vd_cat (pd_var 1) (PEv.d (vd_lst (ad_cons (pd_isX (pd_var 0) rfl T.n_isinstance (pe_glob (v := .ref T.C_NoCard) rfl T.gC_NoCard rfl) (fun _ h => h) (ki_NoCard T)) (ad_cons (pd_isX (pd_var 0) rfl T.n_isinstance (pe_glob (v := .ref T.C_NoText) rfl T.gC_NoText rfl) (fun _ h => h) (ki_NoText T)) (ad_cons (pd_isX (pd_var 0) rfl T.n_isinstance (pe_glob (v := .ref T.C_NoBack) rfl T.gC_NoBack rfl) (fun _ h => h) (ki_NoBack T)) ad_nil)))))))))
  (bd_cons (sd_if (PWd.t (wd_or (td_ne hr (pd_mv PySem.F.slot_list_count PySem.F.type_list_count mt_countL qm_countL (pd_var 1) (ad_cons pd_bl ad_nil)) pd_int) (wd_or1 (td_not (td_val (pd_isX (pd_var 0) rfl T.n_isinstance (pe_ty rfl T.n_ValueError (by decide +kernel)) (fun _ h => h) (ki_ValueError T))))))) (bd_one (sd_ret pd_str)) bd_nil)
  (bd_cons (sd_asg 2 sc_law_class.nd rfl (.inl rfl) (PEd.v (PEv.d (vd_lst (ad_cons pd_str (ad_cons pd_str (ad_cons pd_str (ad_cons pd_str (ad_cons pd_str (ad_cons pd_str (ad_cons pd_str (ad_cons pd_str ad_nil))))))))))))
  (bd_one (sd_ret (pd_ix (PEv.d (vd_cat (pd_var 2) (PEv.d (vd_lst (ad_cons pd_str ad_nil))))) (pd_mv PySem.F.slot_list_index PySem.F.type_list_index mt_index qm_indexL (pd_var 1) (ad_cons pd_bl ad_nil))))))))))
def tr_law_heard : TDS :=
  (sSeq (sIf (dTest (dUn gIs (dVar 1))) (sRet (dTup (dCons (dC (D.str "told")) (dCons (dVar 2) dNil)))) sNext)
  (sSeq (sAsg 4 (vVal (dCall m_law_class [0] [] (cnt 1 (dCons (dVar 1) dNil)) dNil)))
  (sSeq (sIf (dTest (dOp gIn (dVar 4) (dTup (dCons (dC (D.str "no course")) (dCons (dC (D.str "no card")) (dCons (dC (D.str "no text")) dNil)))))) (sRet (dTup (dCons (dVar 4) (dCons (dFldX kf_at "at" (dVar 1)) dNil)))) sNext)
  (sSeq (sIf (dTest (dOp gIn (dVar 4) (dTup (dCons (dC (D.str "no name")) (dCons (dC (D.str "twice")) dNil))))) (sRet (dTup (dCons (dVar 4) (dCons (dFldX kf_name "name" (dVar 1)) dNil)))) sNext)
  (sRet (dIf (dTest (dOp gEq (dVar 4) (dC (D.str "no ability")))) (dTup (dCons (dVar 4) (dCons (dFldX kf_lacks "lacks" (dVar 1)) dNil))) (dTup (dCons (dVar 4) dNil))))))))
theorem or_law_heard (T : Txt K mg) (cdv : Value) (A : Around) (outer : List Env) (s : Shared) (H : Hp) (E : XK) (hr : Room 1 (A.deeper (envOfC "_law_heard" (defScope s_law_heard) s.heap.objs.size T.a_law_heard cdv))) : PBd (cxOf (L2.CX P w) P w K mg base NH "_law_heard" (defScope s_law_heard) T.a_law_heard cdv A outer s H E) (defBody s_law_heard).tail.tail tr_law_heard :=
  (bd_cons (sd_if (td_isN (pd_var 1)) (bd_one (sd_ret (pd_tup (ad_cons pd_str (ad_cons (pd_var 2) ad_nil))))) bd_nil)
  (bd_cons (sd_asg 4 sc_law_heard.nd rfl (.inl rfl) (PEd.v (pd_call (ok_law_class T) (hr.mono (by decide)) rfl T.g_law_class T.F_law_class.kp (b_law_class_0 T) (fun _ => dvs_nil) (ad_cons (pd_var 1) ad_nil))))
  (bd_cons (sd_if (td_in hr (pd_var 4) (pd_tup (ad_cons pd_str (ad_cons pd_str (ad_cons pd_str ad_nil))))) (bd_one (sd_ret (pd_tup (ad_cons (pd_var 4) (ad_cons (pd_fldX (pd_var 1) (kx_at T)) ad_nil))))) bd_nil)
  (bd_cons (sd_if (td_in hr (pd_var 4) (pd_tup (ad_cons pd_str (ad_cons pd_str ad_nil)))) (bd_one (sd_ret (pd_tup (ad_cons (pd_var 4) (ad_cons (pd_fldX (pd_var 1) (kx_name T)) ad_nil))))) bd_nil)
  (bd_one (sd_ret (pd_if (td_eq hr (pd_var 4) pd_str) (pd_tup (ad_cons (pd_var 4) (ad_cons (pd_fldX (pd_var 1) (kx_lacks T)) ad_nil))) (pd_tup (ad_cons (pd_var 4) ad_nil)))))))))
def tl_law_round_of_1 : TDS :=
  (sAsg 7 (vVal (dOp gAddA (dVar 7) (dTup (dCons (dAlt (dIxO 9 (dCall m_law_draw [0, 1, 2] [] (cnt 3 (dCons (dVar 0) (dCons (dVar 1) (dCons (dAlt (dLenO 9) (dBC cLen (dCons (dVar 9) dNil))) dNil)))) dNil)) (dOp gIdx (dVar 9) (dCall m_law_draw [0, 1, 2] [] (cnt 3 (dCons (dVar 0) (dCons (dVar 1) (dCons (dAlt (dLenO 9) (dBC cLen (dCons (dVar 9) dNil))) dNil)))) dNil))) dNil)))))
def lp_law_round_of_1 : TDS :=
  (sSeq (sAsg 9 (vLc (iTupD (dVar 8)) (gN 11) (dTest (dUn gNotIs (dVar 11))) (dVar 11) [11]))
  (sSeq (sFz 9 (sAsg 10 (vLc (iSeq (dVar 9)) (gN 11) (dTest (dOp gIn (dVar 11) (dTup (dCons (dVar 3) (dCons (dVar 4) dNil))))) (dVar 11) [11])))
  (sSeq (sFz 9 (sFz 10 (sAsg 9 (vVal (dIf (dTest (dOp gNe (dVar 10) (dFz (vLst dNil)))) (dVar 10) (dVar 9))))))
  tl_law_round_of_1)))
def lp_law_round_of_2 : TDS :=
  (sSeq (sAsg 7 (vVal (dTup dNil)))
  (sSeq (sFor (iTupD (dVar 5)) (gN 8) lp_law_round_of_1)
  (sPar [5, 6] (mCons (vVal (dCall m_play_on [0, 1] [] (cnt 2 (dCons (dVar 5) (dCons (dVar 7) dNil))) dNil)) (mCons (vVal (dOp gAddA (dVar 6) (dC (D.int 1)))) mNil)))))
def tl_law_round_of_2 : TDS :=
  (sRet (dVar 6))
def body_law_round_of : TDS :=
  (sSeq (sPar [5, 6] (mCons (vVal (dCall m_draw_up [0] [] (cnt 1 (dCons (dVar 2) dNil)) dNil)) (mCons (vVal (dC (D.int 1))) mNil)))
  (sSeq (sWhile (dAnd (dTest (dOp (gInD true) (dTup (dCons (dVar 3) (dCons (dVar 4) dNil))) (dVar 5))) (dTest (dOp (gInD true) (dTup (dCons (dVar 4) (dCons (dVar 3) dNil))) (dVar 5)))) lp_law_round_of_2)
  tl_law_round_of_2))
def m_law_round_of : FD := fnm 12 body_law_round_of
theorem go_law_round_of {x0 x1 x2 x3 x4 : D} {kx : XD → Prop} {k : D → Prop} (h : body_law_round_of [.val x0, .val x1, .val x2, .val x3, .val x4, .un, .un, .un, .un, .un, .un, .un] (fun x _ => kx x) ⟨fun _ => k .non, fun d _ => k d, fun _ => False, fun _ => False⟩) : m_law_round_of [x0, x1, x2, x3, x4] kx k := h
theorem ok_law_round_of (T : Txt K mg) : FnOk P w K mg base (L2.CX P w) 4 T.a_law_round_of T.d_law_round_of ps_law_round_of (SpD K mg ps_law_round_of.length m_law_round_of) := fn_d T.F_law_round_of sc_law_round_of fun cdv A outer s H E hr =>
  (bd_cons (sd_par2 5 6 rfl sc_law_round_of.nd rfl rfl (by decide) rfl rfl (md_cons (PEd.v (pd_call (ok_draw_up T) (hr.mono (by decide)) rfl T.g_draw_up T.F_draw_up.kp (b_draw_up_0 T) (fun _ => dvs_nil) (ad_cons (pd_var 2) ad_nil))) (md_cons (PEd.v pd_int) md_nil)) (by rfl))
  (bd_cons (sd_while (passes_of rfl) (PWd.t (wd_and (td_ninD hr (pd_tup (ad_cons (pd_var 3) (ad_cons (pd_var 4) ad_nil))) (pd_var 5)) (wd_and1 (td_ninD hr (pd_tup (ad_cons (pd_var 4) (ad_cons (pd_var 3) ad_nil))) (pd_var 5))))) (bd_cons (sd_asg 7 sc_law_round_of.nd rfl (.inl rfl) (PEd.v (pd_tup ad_nil)))
  (bd_cons (sd_for (passes_of rfl) rfl (id_tup (pd_var 5)) (gd_name 8 sc_law_round_of.nd rfl (.inl rfl)) (bd_cons (sd_lc (i := 9) rfl sc_law_round_of.nd rfl rfl (sw_true rfl rfl rfl (by decide +kernel)) (own := [("_law_name", 11)]) (id_tup (pd_var 8)) (blkOk_by (by with_unfolding_all rfl)) (by decide) (fun _ _ _ _ _ => (gd_name 11 sc_law_round_of.nd rfl (.inl rfl))) (fun _ _ _ _ _ => (tsd_one (td_notN (pd_var 11)))) (fun _ _ _ _ _ => (pd_var 11)))
  (bd_cons (sd_fz 9 (sd_lc (i := 10) rfl sc_law_round_of.nd rfl rfl (sw_true rfl rfl rfl (by decide +kernel)) (own := [("_law_name", 11)]) (id_list (pd_var 9)) (blkOk_by (by with_unfolding_all rfl)) (by decide) (fun _ _ _ _ _ => (gd_name 11 sc_law_round_of.nd rfl (.inl rfl))) (fun _ _ _ _ _ => (tsd_one (td_in hr (pd_var 11) (pd_tup (ad_cons (pd_var 3) (ad_cons (pd_var 4) ad_nil)))))) (fun _ _ _ _ _ => (pd_var 11))))
  (bd_cons (sd_fz 9 (sd_fz 10 (sd_asg 9 sc_law_round_of.nd rfl (.inl rfl) (PEd.v (pd_if (td_ne hr (pd_var 10) (PEv.d (vd_lst ad_nil))) (pd_var 10) (pd_var 9))))))
  (bd_one (sd_asg 7 sc_law_round_of.nd rfl (.inl rfl) (PEd.v (pd_addA (pd_var 7) (pd_tup (ad_cons (PEd.alt (pd_ixO 9 (pd_call (ok_law_draw T) (hr.mono (by decide)) rfl T.g_law_draw T.F_law_draw.kp (b_law_draw_0 T) (fun _ => dvs_nil) (ad_cons (pd_var 0) (ad_cons (pd_var 1) (ad_cons (PEd.alt (pd_lenO 9 rfl T.n_len) (pd_bc call_len cd_len rfl T.n_len PySem.boot_len (ad_cons (pd_var 9) ad_nil))) ad_nil))))) (pd_ix (pd_var 9) (pd_call (ok_law_draw T) (hr.mono (by decide)) rfl T.g_law_draw T.F_law_draw.kp (b_law_draw_0 T) (fun _ => dvs_nil) (ad_cons (pd_var 0) (ad_cons (pd_var 1) (ad_cons (PEd.alt (pd_lenO 9 rfl T.n_len) (pd_bc call_len cd_len rfl T.n_len PySem.boot_len (ad_cons (pd_var 9) ad_nil))) ad_nil)))))) ad_nil))))))))))
  (bd_one (sd_par2 5 6 rfl sc_law_round_of.nd rfl rfl (by decide) rfl rfl (md_cons (PEd.v (pd_call (ok_play_on T) (hr.mono (by decide)) rfl T.g_play_on T.F_play_on.kp (b_play_on_0 T) (fun _ => dvs_nil) (ad_cons (pd_var 5) (ad_cons (pd_var 7) ad_nil)))) (md_cons (PEd.v (pd_addA (pd_var 6) pd_int)) md_nil)) (by rfl))))))
  (bd_one (sd_ret (pd_var 6)))))
def lp_law_1 : TDS :=
  (sSeq (sAsg 5 (vVal (dCall m_law_stronger [0, 1] [] (cnt 2 (dCons (dVarS 2) (dCons (dVar 3) dNil))) dNil)))
  (sSeq (sAsg 4 (vVal (dBC cLen (dCons (dVar 3) dNil))))
  (sSeq (sIf (dOr (dTest (dUn gIs (dVar 5))) (dTest (dOp gNe (dFz (vBC cSortedI (dCons (dFz (vLc (iTupD (dVar 5)) (gN 11) tYesD (dMvT gIndexF (dVarS 2) (dCons (dVar 11) dNil)) [11])) dNil))) (dFz (rgL1 (dVar 4)))))) (sRet (dC (D.bl false))) sNext)
  (sAsg 3 (vVal (dCall m_play_on [0, 1] [] (cnt 2 (dCons (dVar 3) (dCons (dVar 5) dNil))) dNil))))))
def lp_law_2 : TDS :=
  (sSeq (sAsg 7 (vVal (dOp gIdx (dVar 2) (dCall m_law_draw [0, 1, 2] [] (cnt 3 (dCons (dVar 0) (dCons (dVar 1) (dCons (dBC cLen (dCons (dVar 2) dNil)) dNil)))) dNil))))
  (sSeq (sAsg 8 (vVal (dOp gIdx (dVar 2) (dOp gSub (dOp gSub (dMvT gIndexF (dVarS 2) (dCons (dVar 7) dNil)) (dC (D.int 1))) (dCall m_law_draw [0, 1, 2] [] (cnt 3 (dCons (dVar 0) (dCons (dVar 1) (dCons (dOp gSub (dBC cLen (dCons (dVar 2) dNil)) (dC (D.int 1))) dNil)))) dNil)))))
  (sSeq (sAsg 9 (vVal (dCall m_rounds_to [0, 1, 2] [] (cnt 3 (dCons (dVarS 2) (dCons (dVar 7) (dCons (dVar 8) dNil)))) dNil)))
  (sSeq (sIf (dTest (dOp gNe (dVar 9) (dCall m_law_round_of [0, 1, 2, 3, 4] [] (cnt 5 (dCons (dVar 0) (dCons (dVar 1) (dCons (dVar 2) (dCons (dVar 7) (dCons (dVar 8) dNil)))))) dNil))) (sRet (dC (D.bl false))) sNext)
  (sIf (dTest (dOp gNe (dCall m_rounds_to [0, 2, 1] [] (cnt 1 (dCons (dVarS 2) dNil)) (cnt 2 (dCons (dVar 7) (dCons (dVar 8) dNil)))) (dVar 9))) (sRet (dC (D.bl false))) sNext)))))
def tl_law_1 : TDS :=
  (sSeq (sFor (iRg1 (dCons (dC (D.int 3)) dNil)) (gN 6) lp_law_2)
  (sSeq (sIf (dTest (dOp gNe (dHeard kn (fun _ => true) tr_law_heard (dCall m_rounds_to [0, 1, 2] [] (cnt 3 (dCons (dVarS 2) (dCons (dC (D.str "y")) (dCons (dC (D.str "z")) dNil)))) dNil)) (dTup (dCons (dC (D.str "no name")) (dCons (dC (D.str "y")) dNil))))) (sRet (dC (D.bl false))) sNext)
  (sRet (dAndV (dOp gEq (dVar 4) (dC (D.int 1))) (dOp gEq (dHeard kn (fun _ => true) tr_law_heard (dCall m_rounds_to [0, 1, 2] [] (cnt 3 (dCons (dVarS 2) (dCons (dOp gIdx (dVar 2) (dC (D.int 0))) (dCons (dC (D.str "z")) dNil)))) dNil)) (dTup (dCons (dC (D.str "no name")) (dCons (dC (D.str "z")) dNil))))))))
def t_law : TDS :=
  (sSeq (sAsg 2 (vVal (dBC cTuple (dCons (dFz (vLc (iRg1 (dCons (dOp gAddA (dC (D.int 2)) (dCall m_law_draw [0, 1, 2] [] (cnt 3 (dCons (dVar 0) (dCons (dVar 1) (dCons (dC (D.int 39)) dNil)))) dNil)) dNil)) (gN 10) tYesD (dOp gAddA (dC (D.str "n")) (dBC cStr (dCons (dVar 10) dNil))) [10])) dNil))))
  (sSeq (sPar [3, 4] (mCons (vVal (dCall m_draw_up [0] [] (cnt 1 (dCons (dVar 2) dNil)) dNil)) (mCons (vVal (dBC cLen (dCons (dVar 2) dNil))) mNil)))
  (sSeq (sWhile (dTest (dOp gNe (dVar 3) (dTup dNil))) lp_law_1)
  tl_law_1)))
theorem ok_law (T : Txt K mg) (TB : LamX.TabB base mg T.cc_law T.pl_law) (hτ : ∀ ns : List Int, ns.length ≤ 63 → t_law (rhoL N_law.length ns) nokx KL) : FnOk P w K mg base (L2.CX P w) 6 T.a_law T.d_law ["_law_script"] (spLaw K) := by
  refine fn_law (s0 := (defBody s_law).headD (.Pass ⟨0, 0, 0, 0⟩)) (rest := (defBody s_law).tail) T.F_law sc_law (by decide) hτ fun cdv A outer s H E hcd hr => ⟨?_, ?_⟩
  · exact ps_set (i := 1) sc_law.nd rfl (.inl rfl) (pe_call0 (ok_law_begun T) (hr.mono (by decide)) rfl T.g_law_begun T.F_law_begun.kp (Fun_binds0 T.F_law_begun rfl) .nil passL)
  · exact (bd_cons (sd_asg 2 sc_law.nd rfl (.inr rfl) (PEd.v (pd_tc call_tuple_ofF cd_tuple rfl T.n_tuple (by decide +kernel) (ad_cons (PEv.d (vd_lc (own := [("_law_at", 10)]) rfl sc_law.nd (id_range1 rfl T.n_range (ad_cons (pd_addA pd_int (pd_call (ok_law_draw T) (hr.mono (by decide)) rfl T.g_law_draw T.F_law_draw.kp (b_law_draw_0 T) (fun _ => dvs_nil) (ad_cons (pd_var 0) (ad_cons (pd_var 1) (ad_cons pd_int ad_nil))))) ad_nil)) (blkOk_by (by with_unfolding_all rfl)) (by decide) (fun _ _ _ _ _ => (gd_name 10 sc_law.nd rfl (.inl rfl))) (fun _ _ _ _ _ => tsd_nil) (fun _ _ _ _ _ => (pd_addA pd_str (pd_tc (CallR.or call_str_int SkE.call_str_str) cd_str rfl T.n_str (by decide +kernel) (ad_cons (pd_var 10) ad_nil)))))) ad_nil))))
  (bd_cons (sd_par2 3 4 rfl sc_law.nd rfl rfl (by decide) rfl rfl (md_cons (PEd.v (pd_call (ok_draw_up T) (hr.mono (by decide)) rfl T.g_draw_up T.F_draw_up.kp (b_draw_up_0 T) (fun _ => dvs_nil) (ad_cons (pd_var 2) ad_nil))) (md_cons (PEd.v (pd_bc call_len cd_len rfl T.n_len PySem.boot_len (ad_cons (pd_var 2) ad_nil))) md_nil)) (by rfl))
  (bd_cons (sd_while (passes_of rfl) (td_ne hr (pd_var 3) (pd_tup ad_nil)) (bd_cons (sd_asg 5 sc_law.nd rfl (.inl rfl) (PEd.v (pd_call (ok_law_stronger T) (hr.mono (by decide)) rfl T.g_law_stronger T.F_law_stronger.kp (b_law_stronger_0 T) (fun _ => dvs_nil) (ad_cons (pd_varS 2) (ad_cons (pd_var 3) ad_nil)))))
  (bd_cons (sd_asg 4 sc_law.nd rfl (.inl rfl) (PEd.v (pd_bc call_len cd_len rfl T.n_len PySem.boot_len (ad_cons (pd_var 3) ad_nil))))
  (bd_cons (sd_if (PWd.t (wd_or (td_isN (pd_var 5)) (wd_or1 (td_ne hr (PEv.d (vd_bc cr_sortedA cv_sortedI rfl T.n_sorted (by decide +kernel) (ad_cons (PEv.d (vd_lc (own := [("_law_name", 11)]) rfl sc_law.nd (id_tup (pd_var 5)) (blkOk_by (by with_unfolding_all rfl)) (by decide) (fun _ _ _ _ _ => (gd_name 11 sc_law.nd rfl (.inl rfl))) (fun _ _ _ _ _ => tsd_nil) (fun _ _ _ _ _ => (pd_mvT PySem.F.slot_tuple_index PySem.F.type_tuple_index mt_indexT qm_indexT (pd_varS 2) (ad_cons (pd_var 11) ad_nil))))) ad_nil))) (PEv.d (vd_rg1 rfl T.n_list rfl T.n_range rfl (pd_var 4))))))) (bd_one (sd_ret pd_bl)) bd_nil)
  (bd_one (sd_asg 3 sc_law.nd rfl (.inl rfl) (PEd.v (pd_call (ok_play_on T) (hr.mono (by decide)) rfl T.g_play_on T.F_play_on.kp (b_play_on_0 T) (fun _ => dvs_nil) (ad_cons (pd_var 3) (ad_cons (pd_var 5) ad_nil))))))))))
  (bd_cons (sd_for (passes_of rfl) rfl (id_range1 rfl T.n_range (ad_cons pd_int ad_nil)) (gd_name 6 sc_law.nd rfl (.inl rfl)) (bd_cons (sd_asg 7 sc_law.nd rfl (.inl rfl) (PEd.v (pd_ix (pd_var 2) (pd_call (ok_law_draw T) (hr.mono (by decide)) rfl T.g_law_draw T.F_law_draw.kp (b_law_draw_0 T) (fun _ => dvs_nil) (ad_cons (pd_var 0) (ad_cons (pd_var 1) (ad_cons (pd_bc call_len cd_len rfl T.n_len PySem.boot_len (ad_cons (pd_var 2) ad_nil)) ad_nil)))))))
  (bd_cons (sd_asg 8 sc_law.nd rfl (.inl rfl) (PEd.v (pd_ix (pd_var 2) (pd_sub (pd_sub (pd_mvT PySem.F.slot_tuple_index PySem.F.type_tuple_index mt_indexT qm_indexT (pd_varS 2) (ad_cons (pd_var 7) ad_nil)) pd_int) (pd_call (ok_law_draw T) (hr.mono (by decide)) rfl T.g_law_draw T.F_law_draw.kp (b_law_draw_0 T) (fun _ => dvs_nil) (ad_cons (pd_var 0) (ad_cons (pd_var 1) (ad_cons (pd_sub (pd_bc call_len cd_len rfl T.n_len PySem.boot_len (ad_cons (pd_var 2) ad_nil)) pd_int) ad_nil))))))))
  (bd_cons (sd_asg 9 sc_law.nd rfl (.inl rfl) (PEd.v (pd_call (ok_rounds_to T) (hr.mono (by decide)) rfl T.g_rounds_to T.F_rounds_to.kp (b_rounds_to_0 T) (fun _ => dvs_nil) (ad_cons (pd_varS 2) (ad_cons (pd_var 7) (ad_cons (pd_var 8) ad_nil))))))
  (bd_cons (sd_if (td_ne hr (pd_var 9) (pd_call (ok_law_round_of T) (hr.mono (by decide)) rfl T.g_law_round_of T.F_law_round_of.kp (b_law_round_of_0 T) (fun _ => dvs_nil) (ad_cons (pd_var 0) (ad_cons (pd_var 1) (ad_cons (pd_var 2) (ad_cons (pd_var 7) (ad_cons (pd_var 8) ad_nil))))))) (bd_one (sd_ret pd_bl)) bd_nil)
  (bd_one (sd_if (td_ne hr (pd_callK (ok_rounds_to T) (hr.mono (by decide)) rfl T.g_rounds_to T.F_rounds_to.kp (b_rounds_to_1 T) (fun _ => dvs_nil) (ad_cons (pd_varS 2) ad_nil) (kd_cons (pd_var 7) (kd_cons (pd_var 8) kd_nil))) (pd_var 9)) (bd_one (sd_ret pd_bl)) bd_nil)))))))
  (bd_cons (sd_if (td_ne hr (pd_heard (k := 3) (known := kn) (sub := fun _ => true) (rest := (defBody s_law_heard).tail.tail) T.F_law_heard sc_law_heard (b_law_heard_0 T) T.g_law_heard rfl rfl rfl rfl rfl rfl T.gC_StrokeError (fun _ _ h m => KnX.get (kn_heard T) h m) (fun _ _ => by rfl) (fun _ _ => by rfl) (fun _ _ => by rfl) (fun _ _ => by rfl) (fun cdv A outer s H E hr => or_law_heard T cdv A outer s H E (hr.mono (by decide))) TB (hcd.symm.trans T.code_law) T.tb_law (hr.mono (by decide)) rfl (LamX.lamS_by (by with_unfolding_all rfl)) rfl (fun _ _ _ _ _ => rfl) (fun A outer s H E f c' hr => (pd_call (ok_rounds_to T) (hr.mono (by decide)) rfl T.g_rounds_to T.F_rounds_to.kp (b_rounds_to_0 T) (fun _ => dvs_nil) (ad_cons (pd_varS 2) (ad_cons pd_str (ad_cons pd_str ad_nil)))))) (pd_tup (ad_cons pd_str (ad_cons pd_str ad_nil)))) (bd_one (sd_ret pd_bl)) bd_nil)
  (bd_one (sd_ret (pd_and (pd_eq hr (pd_var 4) pd_int) (pd_one (pd_eq hr (pd_heard (k := 3) (known := kn) (sub := fun _ => true) (rest := (defBody s_law_heard).tail.tail) T.F_law_heard sc_law_heard (b_law_heard_0 T) T.g_law_heard rfl rfl rfl rfl rfl rfl T.gC_StrokeError (fun _ _ h m => KnX.get (kn_heard T) h m) (fun _ _ => by rfl) (fun _ _ => by rfl) (fun _ _ => by rfl) (fun _ _ => by rfl) (fun cdv A outer s H E hr => or_law_heard T cdv A outer s H E (hr.mono (by decide))) TB (hcd.symm.trans T.code_law) T.tb_law (hr.mono (by decide)) rfl (LamX.lamS_by (by with_unfolding_all rfl)) rfl (fun _ _ _ _ _ => rfl) (fun A outer s H E f c' hr => (pd_call (ok_rounds_to T) (hr.mono (by decide)) rfl T.g_rounds_to T.F_rounds_to.kp (b_rounds_to_0 T) (fun _ => dvs_nil) (ad_cons (pd_varS 2) (ad_cons (pd_ix (pd_var 2) pd_int) (ad_cons pd_str ad_nil)))))) (pd_tup (ad_cons pd_str (ad_cons pd_str ad_nil)))))))))))))
end
end L68
namespace L68
open PySem PySem.Spec PyProof.Rows L2 DL
section
variable {K : PySem.W.Frag} {mg : Str → Option Value}
def mkT [TabC] {h : Heap} (X : K.In h) (G : h.Ns mainGlobals mg) {c_NoBack : Addr} {c_NoText : Addr} {c_NoCard : Addr} {c_Twice : Addr} {c_NoName : Addr} {c_NoShare : Addr} {c_NoAbility : Addr} {c_NoHalf : Addr} {c_NoCourse : Addr} {c_StrokeError : Addr} {f_law_draw : Addr} {od_law_draw an_law_draw : Option Addr} {sl_law_draw : Array (Option Value)} {oc_law_draw kV_law_draw dc_law_draw pm_law_draw cd_law_draw ct_law_draw : Value} {f_law_begun : Addr} {od_law_begun an_law_begun : Option Addr} {sl_law_begun : Array (Option Value)} {oc_law_begun kV_law_begun dc_law_begun pm_law_begun cd_law_begun ct_law_begun : Value} {f_places_of : Addr} {od_places_of an_places_of : Option Addr} {sl_places_of : Array (Option Value)} {oc_places_of kV_places_of dc_places_of pm_places_of cd_places_of ct_places_of : Value} {f_by_twos : Addr} {od_by_twos an_by_twos : Option Addr} {sl_by_twos : Array (Option Value)} {oc_by_twos kV_by_twos dc_by_twos pm_by_twos cd_by_twos ct_by_twos : Value} {f_draw_up : Addr} {od_draw_up an_draw_up : Option Addr} {sl_draw_up : Array (Option Value)} {oc_draw_up kV_draw_up dc_draw_up pm_draw_up cd_draw_up ct_draw_up : Value} {f_law_stronger : Addr} {od_law_stronger an_law_stronger : Option Addr} {sl_law_stronger : Array (Option Value)} {oc_law_stronger kV_law_stronger dc_law_stronger pm_law_stronger cd_law_stronger ct_law_stronger : Value} {f_NoName_init_m : Addr} {od_NoName_init_m an_NoName_init_m : Option Addr} {sl_NoName_init_m : Array (Option Value)} {oc_NoName_init_m kV_NoName_init_m dc_NoName_init_m pm_NoName_init_m cd_NoName_init_m ct_NoName_init_m : Value} {f_play_on : Addr} {od_play_on an_play_on : Option Addr} {sl_play_on : Array (Option Value)} {oc_play_on kV_play_on dc_play_on pm_play_on cd_play_on ct_play_on : Value} {f_rounds_to : Addr} {od_rounds_to an_rounds_to : Option Addr} {sl_rounds_to : Array (Option Value)} {oc_rounds_to kV_rounds_to dc_rounds_to pm_rounds_to cd_rounds_to ct_rounds_to : Value} {f_law_class : Addr} {od_law_class an_law_class : Option Addr} {sl_law_class : Array (Option Value)} {oc_law_class kV_law_class dc_law_class pm_law_class cd_law_class ct_law_class : Value} {f_law_heard : Addr} {od_law_heard an_law_heard : Option Addr} {sl_law_heard : Array (Option Value)} {oc_law_heard kV_law_heard dc_law_heard pm_law_heard cd_law_heard ct_law_heard : Value} {f_law_round_of : Addr} {od_law_round_of an_law_round_of : Option Addr} {sl_law_round_of : Array (Option Value)} {oc_law_round_of kV_law_round_of dc_law_round_of pm_law_round_of cd_law_round_of ct_law_round_of : Value} {f_law : Addr} {od_law an_law : Option Addr} {sl_law : Array (Option Value)} {oc_law kV_law dc_law pm_law ct_law : Value} {cc_law pl_law : Addr} {ce_law : Value} {cdd_law : Option Addr} {cvs_law : Array Value} {csl_law : Array (Option Value)} (tb : TabC.tb pl_law = some lawQ)
    (cC_NoBack : PySem.W.nsIn K mainGlobals "NoBack" = some (some (.ref c_NoBack)))
    (cC_NoText : PySem.W.nsIn K mainGlobals "NoText" = some (some (.ref c_NoText)))
    (cC_NoCard : PySem.W.nsIn K mainGlobals "NoCard" = some (some (.ref c_NoCard)))
    (cC_Twice : PySem.W.nsIn K mainGlobals "Twice" = some (some (.ref c_Twice)))
    (cC_NoName : PySem.W.nsIn K mainGlobals "NoName" = some (some (.ref c_NoName)))
    (cC_NoShare : PySem.W.nsIn K mainGlobals "NoShare" = some (some (.ref c_NoShare)))
    (cC_NoAbility : PySem.W.nsIn K mainGlobals "NoAbility" = some (some (.ref c_NoAbility)))
    (cC_NoHalf : PySem.W.nsIn K mainGlobals "NoHalf" = some (some (.ref c_NoHalf)))
    (cC_NoCourse : PySem.W.nsIn K mainGlobals "NoCourse" = some (some (.ref c_NoCourse)))
    (cC_StrokeError : PySem.W.nsIn K mainGlobals "StrokeError" = some (some (.ref c_StrokeError)))
    (a_law_draw : PySem.W.nsIn K mainGlobals "_law_draw" = some (some (.ref f_law_draw)))
    (l_law_draw : K.lookup f_law_draw = some ⟨oc_law_draw, od_law_draw, .func (PySem.W.fnOf "_law_draw" "_law_draw" (defArgs s_law_draw) (defBody s_law_draw) (defScope s_law_draw) .none kV_law_draw dc_law_draw pm_law_draw an_law_draw cd_law_draw ct_law_draw), sl_law_draw⟩)
    (c_law_draw : PySem.W.codeIn K cd_law_draw "_law_draw" = true)
    (k_law_draw : PySem.W.keepIn K (.ref f_law_draw) = true)
    (a_law_begun : PySem.W.nsIn K mainGlobals "_law_begun" = some (some (.ref f_law_begun)))
    (l_law_begun : K.lookup f_law_begun = some ⟨oc_law_begun, od_law_begun, .func (PySem.W.fnOf "_law_begun" "_law_begun" (defArgs s_law_begun) (defBody s_law_begun) (defScope s_law_begun) .none kV_law_begun dc_law_begun pm_law_begun an_law_begun cd_law_begun ct_law_begun), sl_law_begun⟩)
    (c_law_begun : PySem.W.codeIn K cd_law_begun "_law_begun" = true)
    (k_law_begun : PySem.W.keepIn K (.ref f_law_begun) = true)
    (a_places_of : PySem.W.nsIn K mainGlobals "places_of" = some (some (.ref f_places_of)))
    (l_places_of : K.lookup f_places_of = some ⟨oc_places_of, od_places_of, .func (PySem.W.fnOf "places_of" "places_of" (defArgs s_places_of) (defBody s_places_of) (defScope s_places_of) .none kV_places_of dc_places_of pm_places_of an_places_of cd_places_of ct_places_of), sl_places_of⟩)
    (c_places_of : PySem.W.codeIn K cd_places_of "places_of" = true)
    (k_places_of : PySem.W.keepIn K (.ref f_places_of) = true)
    (a_by_twos : PySem.W.nsIn K mainGlobals "by_twos" = some (some (.ref f_by_twos)))
    (l_by_twos : K.lookup f_by_twos = some ⟨oc_by_twos, od_by_twos, .func (PySem.W.fnOf "by_twos" "by_twos" (defArgs s_by_twos) (defBody s_by_twos) (defScope s_by_twos) .none kV_by_twos dc_by_twos pm_by_twos an_by_twos cd_by_twos ct_by_twos), sl_by_twos⟩)
    (c_by_twos : PySem.W.codeIn K cd_by_twos "by_twos" = true)
    (k_by_twos : PySem.W.keepIn K (.ref f_by_twos) = true)
    (a_draw_up : PySem.W.nsIn K mainGlobals "draw_up" = some (some (.ref f_draw_up)))
    (l_draw_up : K.lookup f_draw_up = some ⟨oc_draw_up, od_draw_up, .func (PySem.W.fnOf "draw_up" "draw_up" (defArgs s_draw_up) (defBody s_draw_up) (defScope s_draw_up) .none kV_draw_up dc_draw_up pm_draw_up an_draw_up cd_draw_up ct_draw_up), sl_draw_up⟩)
    (c_draw_up : PySem.W.codeIn K cd_draw_up "draw_up" = true)
    (k_draw_up : PySem.W.keepIn K (.ref f_draw_up) = true)
    (a_law_stronger : PySem.W.nsIn K mainGlobals "_law_stronger" = some (some (.ref f_law_stronger)))
    (l_law_stronger : K.lookup f_law_stronger = some ⟨oc_law_stronger, od_law_stronger, .func (PySem.W.fnOf "_law_stronger" "_law_stronger" (defArgs s_law_stronger) (defBody s_law_stronger) (defScope s_law_stronger) .none kV_law_stronger dc_law_stronger pm_law_stronger an_law_stronger cd_law_stronger ct_law_stronger), sl_law_stronger⟩)
    (c_law_stronger : PySem.W.codeIn K cd_law_stronger "_law_stronger" = true)
    (k_law_stronger : PySem.W.keepIn K (.ref f_law_stronger) = true)
    (a_NoName_init_m : PySem.W.findIn K (.ref c_NoName) "__init__" = some (some (.ref f_NoName_init_m)))
    (l_NoName_init_m : K.lookup f_NoName_init_m = some ⟨oc_NoName_init_m, od_NoName_init_m, .func (PySem.W.fnOf "__init__" "NoName.__init__" (defArgs s_NoName_init_m) (defBody s_NoName_init_m) (defScope s_NoName_init_m) .none kV_NoName_init_m dc_NoName_init_m pm_NoName_init_m an_NoName_init_m cd_NoName_init_m ct_NoName_init_m), sl_NoName_init_m⟩)
    (c_NoName_init_m : PySem.W.codeIn K cd_NoName_init_m "NoName.__init__" = true)
    (k_NoName_init_m : PySem.W.keepIn K (.ref f_NoName_init_m) = true)
    (a_play_on : PySem.W.nsIn K mainGlobals "play_on" = some (some (.ref f_play_on)))
    (l_play_on : K.lookup f_play_on = some ⟨oc_play_on, od_play_on, .func (PySem.W.fnOf "play_on" "play_on" (defArgs s_play_on) (defBody s_play_on) (defScope s_play_on) .none kV_play_on dc_play_on pm_play_on an_play_on cd_play_on ct_play_on), sl_play_on⟩)
    (c_play_on : PySem.W.codeIn K cd_play_on "play_on" = true)
    (k_play_on : PySem.W.keepIn K (.ref f_play_on) = true)
    (a_rounds_to : PySem.W.nsIn K mainGlobals "rounds_to" = some (some (.ref f_rounds_to)))
    (l_rounds_to : K.lookup f_rounds_to = some ⟨oc_rounds_to, od_rounds_to, .func (PySem.W.fnOf "rounds_to" "rounds_to" (defArgs s_rounds_to) (defBody s_rounds_to) (defScope s_rounds_to) .none kV_rounds_to dc_rounds_to pm_rounds_to an_rounds_to cd_rounds_to ct_rounds_to), sl_rounds_to⟩)
    (c_rounds_to : PySem.W.codeIn K cd_rounds_to "rounds_to" = true)
    (k_rounds_to : PySem.W.keepIn K (.ref f_rounds_to) = true)
    (a_law_class : PySem.W.nsIn K mainGlobals "_law_class" = some (some (.ref f_law_class)))
    (l_law_class : K.lookup f_law_class = some ⟨oc_law_class, od_law_class, .func (PySem.W.fnOf "_law_class" "_law_class" (defArgs s_law_class) (defBody s_law_class) (defScope s_law_class) .none kV_law_class dc_law_class pm_law_class an_law_class cd_law_class ct_law_class), sl_law_class⟩)
    (c_law_class : PySem.W.codeIn K cd_law_class "_law_class" = true)
    (k_law_class : PySem.W.keepIn K (.ref f_law_class) = true)
    (a_law_heard : PySem.W.nsIn K mainGlobals "_law_heard" = some (some (.ref f_law_heard)))
    (l_law_heard : K.lookup f_law_heard = some ⟨oc_law_heard, od_law_heard, .func (PySem.W.fnOf "_law_heard" "_law_heard" (defArgs s_law_heard) (defBody s_law_heard) (defScope s_law_heard) .none kV_law_heard dc_law_heard pm_law_heard an_law_heard cd_law_heard ct_law_heard), sl_law_heard⟩)
    (c_law_heard : PySem.W.codeIn K cd_law_heard "_law_heard" = true)
    (k_law_heard : PySem.W.keepIn K (.ref f_law_heard) = true)
    (a_law_round_of : PySem.W.nsIn K mainGlobals "_law_round_of" = some (some (.ref f_law_round_of)))
    (l_law_round_of : K.lookup f_law_round_of = some ⟨oc_law_round_of, od_law_round_of, .func (PySem.W.fnOf "_law_round_of" "_law_round_of" (defArgs s_law_round_of) (defBody s_law_round_of) (defScope s_law_round_of) .none kV_law_round_of dc_law_round_of pm_law_round_of an_law_round_of cd_law_round_of ct_law_round_of), sl_law_round_of⟩)
    (c_law_round_of : PySem.W.codeIn K cd_law_round_of "_law_round_of" = true)
    (k_law_round_of : PySem.W.keepIn K (.ref f_law_round_of) = true)
    (a_law : PySem.W.nsIn K mainGlobals "law" = some (some (.ref f_law)))
    (l_law : K.lookup f_law = some ⟨oc_law, od_law, .func (PySem.W.fnOf "law" "law" (defArgs s_law) (defBody s_law) (defScope s_law) .none kV_law dc_law pm_law an_law (.ref cc_law) ct_law), sl_law⟩)
    (c_law : PySem.W.codeIn K (.ref cc_law) "law" = true)
    (k_law : PySem.W.keepIn K (.ref f_law) = true)
    (xc_NoName : XcC K c_NoName)
    (ex_NoName : PySem.W.exmOne K (.ref c_NoName) (.ref c_StrokeError) = some true)
    (ki_NoName_NoAbility : PySem.W.kitOne K (.ref c_NoName) (.ref c_NoAbility) = some false)
    (ki_NoName_NoBack : PySem.W.kitOne K (.ref c_NoName) (.ref c_NoBack) = some false)
    (ki_NoName_NoCard : PySem.W.kitOne K (.ref c_NoName) (.ref c_NoCard) = some false)
    (ki_NoName_NoCourse : PySem.W.kitOne K (.ref c_NoName) (.ref c_NoCourse) = some false)
    (ki_NoName_NoHalf : PySem.W.kitOne K (.ref c_NoName) (.ref c_NoHalf) = some false)
    (ki_NoName_NoName : PySem.W.kitOne K (.ref c_NoName) (.ref c_NoName) = some true)
    (ki_NoName_NoShare : PySem.W.kitOne K (.ref c_NoName) (.ref c_NoShare) = some false)
    (ki_NoName_NoText : PySem.W.kitOne K (.ref c_NoName) (.ref c_NoText) = some false)
    (ki_NoName_Twice : PySem.W.kitOne K (.ref c_NoName) (.ref c_Twice) = some false)
    (ki_NoName_ValueError : PySem.W.kitOne K (.ref c_NoName) (.type "ValueError") = some true)
    (xf_NoName_name : XfC K c_NoName ∧ PySem.W.findIn K (.ref c_NoName) "name" = some none)
    (ox_NoName : OexC K c_NoName)
    (nf_NoName : PySem.W.findIn K (.ref c_NoName) "name" = some none)
    (ti_NoName : PySem.W.typeIn K (.ref f_NoName_init_m) = some (.type "function"))
    (cx_law : K.lookup cc_law = some ⟨ce_law, cdd_law, .fields cvs_law, csl_law⟩)
    (cy_law : cvs_law[11]? = some (.ref pl_law))
    (cn_law : K.lookup pl_law = none)
    (ch_law : PySem.W.codeHdIn K cc_law pl_law = true)
    (z_ValueError : PySem.W.nsIn K mainGlobals "ValueError" = some none)
    (z_isinstance : PySem.W.nsIn K mainGlobals "isinstance" = some none)
    (z_len : PySem.W.nsIn K mainGlobals "len" = some none)
    (z_list : PySem.W.nsIn K mainGlobals "list" = some none)
    (z_min : PySem.W.nsIn K mainGlobals "min" = some none)
    (z_range : PySem.W.nsIn K mainGlobals "range" = some none)
    (z_sorted : PySem.W.nsIn K mainGlobals "sorted" = some none)
    (z_str : PySem.W.nsIn K mainGlobals "str" = some none)
    (z_sum : PySem.W.nsIn K mainGlobals "sum" = some none)
    (z_tuple : PySem.W.nsIn K mainGlobals "tuple" = some none)
    (z_zip : PySem.W.nsIn K mainGlobals "zip" = some none)
    : Txt K mg where
  C_StrokeError := c_StrokeError
  gC_StrokeError := PySem.W.mg_of X G cC_StrokeError
  C_NoCourse := c_NoCourse
  gC_NoCourse := PySem.W.mg_of X G cC_NoCourse
  C_NoHalf := c_NoHalf
  gC_NoHalf := PySem.W.mg_of X G cC_NoHalf
  C_NoAbility := c_NoAbility
  gC_NoAbility := PySem.W.mg_of X G cC_NoAbility
  C_NoShare := c_NoShare
  gC_NoShare := PySem.W.mg_of X G cC_NoShare
  C_NoName := c_NoName
  gC_NoName := PySem.W.mg_of X G cC_NoName
  C_Twice := c_Twice
  gC_Twice := PySem.W.mg_of X G cC_Twice
  C_NoCard := c_NoCard
  gC_NoCard := PySem.W.mg_of X G cC_NoCard
  C_NoText := c_NoText
  gC_NoText := PySem.W.mg_of X G cC_NoText
  C_NoBack := c_NoBack
  gC_NoBack := PySem.W.mg_of X G cC_NoBack
  xc_NoName := xc_NoName
  ex_NoName := ex_NoName
  ki_NoName_NoAbility := ki_NoName_NoAbility
  ki_NoName_NoBack := ki_NoName_NoBack
  ki_NoName_NoCard := ki_NoName_NoCard
  ki_NoName_NoCourse := ki_NoName_NoCourse
  ki_NoName_NoHalf := ki_NoName_NoHalf
  ki_NoName_NoName := ki_NoName_NoName
  ki_NoName_NoShare := ki_NoName_NoShare
  ki_NoName_NoText := ki_NoName_NoText
  ki_NoName_Twice := ki_NoName_Twice
  ki_NoName_ValueError := ki_NoName_ValueError
  xf_NoName_name := xf_NoName_name
  ox_NoName := ox_NoName
  ic_NoName := a_NoName_init_m
  nf_NoName := nf_NoName
  ti_NoName := ti_NoName
  cc_law := cc_law
  pl_law := pl_law
  code_law := rfl
  tb_law := tb
  a_law_draw := f_law_draw
  d_law_draw := _
  F_law_draw := ⟨⟨_, _, _, _, _, _, _, _, _, _, rfl, l_law_draw, c_law_draw, .inl ⟨rfl, rfl⟩, .inl rfl⟩, k_law_draw⟩
  g_law_draw := PySem.W.mg_of X G a_law_draw
  a_law_begun := f_law_begun
  d_law_begun := _
  F_law_begun := ⟨⟨_, _, _, _, _, _, _, _, _, _, rfl, l_law_begun, c_law_begun, .inl ⟨rfl, rfl⟩, .inl rfl⟩, k_law_begun⟩
  g_law_begun := PySem.W.mg_of X G a_law_begun
  a_places_of := f_places_of
  d_places_of := _
  F_places_of := ⟨⟨_, _, _, _, _, _, _, _, _, _, rfl, l_places_of, c_places_of, .inl ⟨rfl, rfl⟩, .inl rfl⟩, k_places_of⟩
  g_places_of := PySem.W.mg_of X G a_places_of
  a_by_twos := f_by_twos
  d_by_twos := _
  F_by_twos := ⟨⟨_, _, _, _, _, _, _, _, _, _, rfl, l_by_twos, c_by_twos, .inl ⟨rfl, rfl⟩, .inl rfl⟩, k_by_twos⟩
  g_by_twos := PySem.W.mg_of X G a_by_twos
  a_draw_up := f_draw_up
  d_draw_up := _
  F_draw_up := ⟨⟨_, _, _, _, _, _, _, _, _, _, rfl, l_draw_up, c_draw_up, .inl ⟨rfl, rfl⟩, .inl rfl⟩, k_draw_up⟩
  g_draw_up := PySem.W.mg_of X G a_draw_up
  a_law_stronger := f_law_stronger
  d_law_stronger := _
  F_law_stronger := ⟨⟨_, _, _, _, _, _, _, _, _, _, rfl, l_law_stronger, c_law_stronger, .inl ⟨rfl, rfl⟩, .inl rfl⟩, k_law_stronger⟩
  g_law_stronger := PySem.W.mg_of X G a_law_stronger
  a_NoName_init_m := f_NoName_init_m
  d_NoName_init_m := _
  F_NoName_init_m := ⟨⟨_, _, _, _, _, _, _, _, _, _, rfl, l_NoName_init_m, c_NoName_init_m, .inl ⟨rfl, rfl⟩, .inl rfl⟩, k_NoName_init_m⟩
  a_play_on := f_play_on
  d_play_on := _
  F_play_on := ⟨⟨_, _, _, _, _, _, _, _, _, _, rfl, l_play_on, c_play_on, .inl ⟨rfl, rfl⟩, .inl rfl⟩, k_play_on⟩
  g_play_on := PySem.W.mg_of X G a_play_on
  a_rounds_to := f_rounds_to
  d_rounds_to := _
  F_rounds_to := ⟨⟨_, _, _, _, _, _, _, _, _, _, rfl, l_rounds_to, c_rounds_to, .inl ⟨rfl, rfl⟩, .inl rfl⟩, k_rounds_to⟩
  g_rounds_to := PySem.W.mg_of X G a_rounds_to
  a_law_class := f_law_class
  d_law_class := _
  F_law_class := ⟨⟨_, _, _, _, _, _, _, _, _, _, rfl, l_law_class, c_law_class, .inl ⟨rfl, rfl⟩, .inl rfl⟩, k_law_class⟩
  g_law_class := PySem.W.mg_of X G a_law_class
  a_law_heard := f_law_heard
  d_law_heard := _
  F_law_heard := ⟨⟨_, _, _, _, _, _, _, _, _, _, rfl, l_law_heard, c_law_heard, .inl ⟨rfl, rfl⟩, .inl rfl⟩, k_law_heard⟩
  g_law_heard := PySem.W.mg_of X G a_law_heard
  a_law_round_of := f_law_round_of
  d_law_round_of := _
  F_law_round_of := ⟨⟨_, _, _, _, _, _, _, _, _, _, rfl, l_law_round_of, c_law_round_of, .inl ⟨rfl, rfl⟩, .inl rfl⟩, k_law_round_of⟩
  g_law_round_of := PySem.W.mg_of X G a_law_round_of
  a_law := f_law
  d_law := _
  F_law := ⟨⟨_, _, _, _, _, _, _, _, _, _, rfl, l_law, c_law, .inl ⟨rfl, rfl⟩, .inl rfl⟩, k_law⟩
  g_law := PySem.W.mg_of X G a_law
  n_ValueError := PySem.W.mg_none_of X G z_ValueError
  n_isinstance := PySem.W.mg_none_of X G z_isinstance
  n_len := PySem.W.mg_none_of X G z_len
  n_list := PySem.W.mg_none_of X G z_list
  n_min := PySem.W.mg_none_of X G z_min
  n_range := PySem.W.mg_none_of X G z_range
  n_sorted := PySem.W.mg_none_of X G z_sorted
  n_str := PySem.W.mg_none_of X G z_str
  n_sum := PySem.W.mg_none_of X G z_sum
  n_tuple := PySem.W.mg_none_of X G z_tuple
  n_zip := PySem.W.mg_none_of X G z_zip
end
theorem all_mk {l : PySem.W.OpenLaw} {w : World} {K : PySem.W.Frag} {h : Heap} {mg : Str → Option Value} {fa : Addr} (X : K.In h) (G : h.Ns mainGlobals mg) (hfa : mg "law" = some (.ref fa)) (own : ∀ fb : Addr, mg "law" = some (.ref fb) → LamX.OwnTab K fb h) (hτ : ∀ ns : List Int, ns.length ≤ 63 → t_law (rhoL N_law.length ns) nokx KL)
    {c_NoBack : Addr} {c_NoText : Addr} {c_NoCard : Addr} {c_Twice : Addr} {c_NoName : Addr} {c_NoShare : Addr} {c_NoAbility : Addr} {c_NoHalf : Addr} {c_NoCourse : Addr} {c_StrokeError : Addr} {f_law_draw : Addr} {od_law_draw an_law_draw : Option Addr} {sl_law_draw : Array (Option Value)} {oc_law_draw kV_law_draw dc_law_draw pm_law_draw cd_law_draw ct_law_draw : Value} {f_law_begun : Addr} {od_law_begun an_law_begun : Option Addr} {sl_law_begun : Array (Option Value)} {oc_law_begun kV_law_begun dc_law_begun pm_law_begun cd_law_begun ct_law_begun : Value} {f_places_of : Addr} {od_places_of an_places_of : Option Addr} {sl_places_of : Array (Option Value)} {oc_places_of kV_places_of dc_places_of pm_places_of cd_places_of ct_places_of : Value} {f_by_twos : Addr} {od_by_twos an_by_twos : Option Addr} {sl_by_twos : Array (Option Value)} {oc_by_twos kV_by_twos dc_by_twos pm_by_twos cd_by_twos ct_by_twos : Value} {f_draw_up : Addr} {od_draw_up an_draw_up : Option Addr} {sl_draw_up : Array (Option Value)} {oc_draw_up kV_draw_up dc_draw_up pm_draw_up cd_draw_up ct_draw_up : Value} {f_law_stronger : Addr} {od_law_stronger an_law_stronger : Option Addr} {sl_law_stronger : Array (Option Value)} {oc_law_stronger kV_law_stronger dc_law_stronger pm_law_stronger cd_law_stronger ct_law_stronger : Value} {f_NoName_init_m : Addr} {od_NoName_init_m an_NoName_init_m : Option Addr} {sl_NoName_init_m : Array (Option Value)} {oc_NoName_init_m kV_NoName_init_m dc_NoName_init_m pm_NoName_init_m cd_NoName_init_m ct_NoName_init_m : Value} {f_play_on : Addr} {od_play_on an_play_on : Option Addr} {sl_play_on : Array (Option Value)} {oc_play_on kV_play_on dc_play_on pm_play_on cd_play_on ct_play_on : Value} {f_rounds_to : Addr} {od_rounds_to an_rounds_to : Option Addr} {sl_rounds_to : Array (Option Value)} {oc_rounds_to kV_rounds_to dc_rounds_to pm_rounds_to cd_rounds_to ct_rounds_to : Value} {f_law_class : Addr} {od_law_class an_law_class : Option Addr} {sl_law_class : Array (Option Value)} {oc_law_class kV_law_class dc_law_class pm_law_class cd_law_class ct_law_class : Value} {f_law_heard : Addr} {od_law_heard an_law_heard : Option Addr} {sl_law_heard : Array (Option Value)} {oc_law_heard kV_law_heard dc_law_heard pm_law_heard cd_law_heard ct_law_heard : Value} {f_law_round_of : Addr} {od_law_round_of an_law_round_of : Option Addr} {sl_law_round_of : Array (Option Value)} {oc_law_round_of kV_law_round_of dc_law_round_of pm_law_round_of cd_law_round_of ct_law_round_of : Value} {f_law : Addr} {od_law an_law : Option Addr} {sl_law : Array (Option Value)} {oc_law kV_law dc_law pm_law ct_law : Value} {cc_law pl_law : Addr} {ce_law : Value} {cdd_law : Option Addr} {cvs_law : Array Value} {csl_law : Array (Option Value)}
    (cC_NoBack : PySem.W.nsIn K mainGlobals "NoBack" = some (some (.ref c_NoBack)))
    (cC_NoText : PySem.W.nsIn K mainGlobals "NoText" = some (some (.ref c_NoText)))
    (cC_NoCard : PySem.W.nsIn K mainGlobals "NoCard" = some (some (.ref c_NoCard)))
    (cC_Twice : PySem.W.nsIn K mainGlobals "Twice" = some (some (.ref c_Twice)))
    (cC_NoName : PySem.W.nsIn K mainGlobals "NoName" = some (some (.ref c_NoName)))
    (cC_NoShare : PySem.W.nsIn K mainGlobals "NoShare" = some (some (.ref c_NoShare)))
    (cC_NoAbility : PySem.W.nsIn K mainGlobals "NoAbility" = some (some (.ref c_NoAbility)))
    (cC_NoHalf : PySem.W.nsIn K mainGlobals "NoHalf" = some (some (.ref c_NoHalf)))
    (cC_NoCourse : PySem.W.nsIn K mainGlobals "NoCourse" = some (some (.ref c_NoCourse)))
    (cC_StrokeError : PySem.W.nsIn K mainGlobals "StrokeError" = some (some (.ref c_StrokeError)))
    (a_law_draw : PySem.W.nsIn K mainGlobals "_law_draw" = some (some (.ref f_law_draw)))
    (l_law_draw : K.lookup f_law_draw = some ⟨oc_law_draw, od_law_draw, .func (PySem.W.fnOf "_law_draw" "_law_draw" (defArgs s_law_draw) (defBody s_law_draw) (defScope s_law_draw) .none kV_law_draw dc_law_draw pm_law_draw an_law_draw cd_law_draw ct_law_draw), sl_law_draw⟩)
    (c_law_draw : PySem.W.codeIn K cd_law_draw "_law_draw" = true)
    (k_law_draw : PySem.W.keepIn K (.ref f_law_draw) = true)
    (a_law_begun : PySem.W.nsIn K mainGlobals "_law_begun" = some (some (.ref f_law_begun)))
    (l_law_begun : K.lookup f_law_begun = some ⟨oc_law_begun, od_law_begun, .func (PySem.W.fnOf "_law_begun" "_law_begun" (defArgs s_law_begun) (defBody s_law_begun) (defScope s_law_begun) .none kV_law_begun dc_law_begun pm_law_begun an_law_begun cd_law_begun ct_law_begun), sl_law_begun⟩)
    (c_law_begun : PySem.W.codeIn K cd_law_begun "_law_begun" = true)
    (k_law_begun : PySem.W.keepIn K (.ref f_law_begun) = true)
    (a_places_of : PySem.W.nsIn K mainGlobals "places_of" = some (some (.ref f_places_of)))
    (l_places_of : K.lookup f_places_of = some ⟨oc_places_of, od_places_of, .func (PySem.W.fnOf "places_of" "places_of" (defArgs s_places_of) (defBody s_places_of) (defScope s_places_of) .none kV_places_of dc_places_of pm_places_of an_places_of cd_places_of ct_places_of), sl_places_of⟩)
    (c_places_of : PySem.W.codeIn K cd_places_of "places_of" = true)
    (k_places_of : PySem.W.keepIn K (.ref f_places_of) = true)
    (a_by_twos : PySem.W.nsIn K mainGlobals "by_twos" = some (some (.ref f_by_twos)))
    (l_by_twos : K.lookup f_by_twos = some ⟨oc_by_twos, od_by_twos, .func (PySem.W.fnOf "by_twos" "by_twos" (defArgs s_by_twos) (defBody s_by_twos) (defScope s_by_twos) .none kV_by_twos dc_by_twos pm_by_twos an_by_twos cd_by_twos ct_by_twos), sl_by_twos⟩)
    (c_by_twos : PySem.W.codeIn K cd_by_twos "by_twos" = true)
    (k_by_twos : PySem.W.keepIn K (.ref f_by_twos) = true)
    (a_draw_up : PySem.W.nsIn K mainGlobals "draw_up" = some (some (.ref f_draw_up)))
    (l_draw_up : K.lookup f_draw_up = some ⟨oc_draw_up, od_draw_up, .func (PySem.W.fnOf "draw_up" "draw_up" (defArgs s_draw_up) (defBody s_draw_up) (defScope s_draw_up) .none kV_draw_up dc_draw_up pm_draw_up an_draw_up cd_draw_up ct_draw_up), sl_draw_up⟩)
    (c_draw_up : PySem.W.codeIn K cd_draw_up "draw_up" = true)
    (k_draw_up : PySem.W.keepIn K (.ref f_draw_up) = true)
    (a_law_stronger : PySem.W.nsIn K mainGlobals "_law_stronger" = some (some (.ref f_law_stronger)))
    (l_law_stronger : K.lookup f_law_stronger = some ⟨oc_law_stronger, od_law_stronger, .func (PySem.W.fnOf "_law_stronger" "_law_stronger" (defArgs s_law_stronger) (defBody s_law_stronger) (defScope s_law_stronger) .none kV_law_stronger dc_law_stronger pm_law_stronger an_law_stronger cd_law_stronger ct_law_stronger), sl_law_stronger⟩)
    (c_law_stronger : PySem.W.codeIn K cd_law_stronger "_law_stronger" = true)
    (k_law_stronger : PySem.W.keepIn K (.ref f_law_stronger) = true)
    (a_NoName_init_m : PySem.W.findIn K (.ref c_NoName) "__init__" = some (some (.ref f_NoName_init_m)))
    (l_NoName_init_m : K.lookup f_NoName_init_m = some ⟨oc_NoName_init_m, od_NoName_init_m, .func (PySem.W.fnOf "__init__" "NoName.__init__" (defArgs s_NoName_init_m) (defBody s_NoName_init_m) (defScope s_NoName_init_m) .none kV_NoName_init_m dc_NoName_init_m pm_NoName_init_m an_NoName_init_m cd_NoName_init_m ct_NoName_init_m), sl_NoName_init_m⟩)
    (c_NoName_init_m : PySem.W.codeIn K cd_NoName_init_m "NoName.__init__" = true)
    (k_NoName_init_m : PySem.W.keepIn K (.ref f_NoName_init_m) = true)
    (a_play_on : PySem.W.nsIn K mainGlobals "play_on" = some (some (.ref f_play_on)))
    (l_play_on : K.lookup f_play_on = some ⟨oc_play_on, od_play_on, .func (PySem.W.fnOf "play_on" "play_on" (defArgs s_play_on) (defBody s_play_on) (defScope s_play_on) .none kV_play_on dc_play_on pm_play_on an_play_on cd_play_on ct_play_on), sl_play_on⟩)
    (c_play_on : PySem.W.codeIn K cd_play_on "play_on" = true)
    (k_play_on : PySem.W.keepIn K (.ref f_play_on) = true)
    (a_rounds_to : PySem.W.nsIn K mainGlobals "rounds_to" = some (some (.ref f_rounds_to)))
    (l_rounds_to : K.lookup f_rounds_to = some ⟨oc_rounds_to, od_rounds_to, .func (PySem.W.fnOf "rounds_to" "rounds_to" (defArgs s_rounds_to) (defBody s_rounds_to) (defScope s_rounds_to) .none kV_rounds_to dc_rounds_to pm_rounds_to an_rounds_to cd_rounds_to ct_rounds_to), sl_rounds_to⟩)
    (c_rounds_to : PySem.W.codeIn K cd_rounds_to "rounds_to" = true)
    (k_rounds_to : PySem.W.keepIn K (.ref f_rounds_to) = true)
    (a_law_class : PySem.W.nsIn K mainGlobals "_law_class" = some (some (.ref f_law_class)))
    (l_law_class : K.lookup f_law_class = some ⟨oc_law_class, od_law_class, .func (PySem.W.fnOf "_law_class" "_law_class" (defArgs s_law_class) (defBody s_law_class) (defScope s_law_class) .none kV_law_class dc_law_class pm_law_class an_law_class cd_law_class ct_law_class), sl_law_class⟩)
    (c_law_class : PySem.W.codeIn K cd_law_class "_law_class" = true)
    (k_law_class : PySem.W.keepIn K (.ref f_law_class) = true)
    (a_law_heard : PySem.W.nsIn K mainGlobals "_law_heard" = some (some (.ref f_law_heard)))
    (l_law_heard : K.lookup f_law_heard = some ⟨oc_law_heard, od_law_heard, .func (PySem.W.fnOf "_law_heard" "_law_heard" (defArgs s_law_heard) (defBody s_law_heard) (defScope s_law_heard) .none kV_law_heard dc_law_heard pm_law_heard an_law_heard cd_law_heard ct_law_heard), sl_law_heard⟩)
    (c_law_heard : PySem.W.codeIn K cd_law_heard "_law_heard" = true)
    (k_law_heard : PySem.W.keepIn K (.ref f_law_heard) = true)
    (a_law_round_of : PySem.W.nsIn K mainGlobals "_law_round_of" = some (some (.ref f_law_round_of)))
    (l_law_round_of : K.lookup f_law_round_of = some ⟨oc_law_round_of, od_law_round_of, .func (PySem.W.fnOf "_law_round_of" "_law_round_of" (defArgs s_law_round_of) (defBody s_law_round_of) (defScope s_law_round_of) .none kV_law_round_of dc_law_round_of pm_law_round_of an_law_round_of cd_law_round_of ct_law_round_of), sl_law_round_of⟩)
    (c_law_round_of : PySem.W.codeIn K cd_law_round_of "_law_round_of" = true)
    (k_law_round_of : PySem.W.keepIn K (.ref f_law_round_of) = true)
    (a_law : PySem.W.nsIn K mainGlobals "law" = some (some (.ref f_law)))
    (l_law : K.lookup f_law = some ⟨oc_law, od_law, .func (PySem.W.fnOf "law" "law" (defArgs s_law) (defBody s_law) (defScope s_law) .none kV_law dc_law pm_law an_law (.ref cc_law) ct_law), sl_law⟩)
    (c_law : PySem.W.codeIn K (.ref cc_law) "law" = true)
    (k_law : PySem.W.keepIn K (.ref f_law) = true)
    (xc_NoName : XcC K c_NoName)
    (ex_NoName : PySem.W.exmOne K (.ref c_NoName) (.ref c_StrokeError) = some true)
    (ki_NoName_NoAbility : PySem.W.kitOne K (.ref c_NoName) (.ref c_NoAbility) = some false)
    (ki_NoName_NoBack : PySem.W.kitOne K (.ref c_NoName) (.ref c_NoBack) = some false)
    (ki_NoName_NoCard : PySem.W.kitOne K (.ref c_NoName) (.ref c_NoCard) = some false)
    (ki_NoName_NoCourse : PySem.W.kitOne K (.ref c_NoName) (.ref c_NoCourse) = some false)
    (ki_NoName_NoHalf : PySem.W.kitOne K (.ref c_NoName) (.ref c_NoHalf) = some false)
    (ki_NoName_NoName : PySem.W.kitOne K (.ref c_NoName) (.ref c_NoName) = some true)
    (ki_NoName_NoShare : PySem.W.kitOne K (.ref c_NoName) (.ref c_NoShare) = some false)
    (ki_NoName_NoText : PySem.W.kitOne K (.ref c_NoName) (.ref c_NoText) = some false)
    (ki_NoName_Twice : PySem.W.kitOne K (.ref c_NoName) (.ref c_Twice) = some false)
    (ki_NoName_ValueError : PySem.W.kitOne K (.ref c_NoName) (.type "ValueError") = some true)
    (xf_NoName_name : XfC K c_NoName ∧ PySem.W.findIn K (.ref c_NoName) "name" = some none)
    (ox_NoName : OexC K c_NoName)
    (nf_NoName : PySem.W.findIn K (.ref c_NoName) "name" = some none)
    (ti_NoName : PySem.W.typeIn K (.ref f_NoName_init_m) = some (.type "function"))
    (cx_law : K.lookup cc_law = some ⟨ce_law, cdd_law, .fields cvs_law, csl_law⟩)
    (cy_law : cvs_law[11]? = some (.ref pl_law))
    (cn_law : K.lookup pl_law = none)
    (ch_law : PySem.W.codeHdIn K cc_law pl_law = true)
    (z_ValueError : PySem.W.nsIn K mainGlobals "ValueError" = some none)
    (z_isinstance : PySem.W.nsIn K mainGlobals "isinstance" = some none)
    (z_len : PySem.W.nsIn K mainGlobals "len" = some none)
    (z_list : PySem.W.nsIn K mainGlobals "list" = some none)
    (z_min : PySem.W.nsIn K mainGlobals "min" = some none)
    (z_range : PySem.W.nsIn K mainGlobals "range" = some none)
    (z_sorted : PySem.W.nsIn K mainGlobals "sorted" = some none)
    (z_str : PySem.W.nsIn K mainGlobals "str" = some none)
    (z_sum : PySem.W.nsIn K mainGlobals "sum" = some none)
    (z_tuple : PySem.W.nsIn K mainGlobals "tuple" = some none)
    (z_zip : PySem.W.nsIn K mainGlobals "zip" = some none)
    : ∃ (cs : List (Addr × Addr × Str)) (fd : FuncData), (∀ p ∈ cs, h.get? p.2.1 = some { cls := .none, data := .fields #[] }) ∧ (∀ p ∈ cs, K.lookup p.2.1 = none) ∧ (∀ p ∈ cs, PySem.W.CodeHd h p.1 p.2.1) ∧ (∀ (s : Shared) (u : Value), BindsTo s fd ⟨[u], []⟩ [("_law_script", u)]) ∧
        ∀ base : Heap, K.In base → base.Ns mainGlobals mg → (∀ p ∈ cs, LamX.TabB base mg p.1 p.2.1) → FnOk l.prog w K mg base (L2.CX l.prog w) 6 fa fd ["_law_script"] (@spLaw (tabOf cs) K) := by
  have e := hfa.symm.trans (PySem.W.mg_of X G a_law)
  cases e
  refine ⟨[(cc_law, pl_law, lawQ)], PySem.W.fnOf "law" "law" (defArgs s_law) (defBody s_law) (defScope s_law) .none kV_law dc_law pm_law an_law (.ref cc_law) ct_law, fun p hp => ?_, fun p hp => ?_, fun p hp => ?_, fun s v => .of_eq rfl, fun base _ _ hTB => ?_⟩
  · cases List.mem_singleton.mp hp; exact own _ hfa _ _ _ _ _ _ _ _ l_law rfl rfl cx_law cy_law
  · cases List.mem_singleton.mp hp; exact cn_law
  · cases List.mem_singleton.mp hp; exact PySem.W.codeHd_of_K X ch_law
  · exact @ok_law (tabOf [(cc_law, pl_law, lawQ)]) _ _ _ _ _ (@mkT _ _ (tabOf [(cc_law, pl_law, lawQ)]) _ X G _ _ _ _ _ _ _ _ _ _ _ _ _ _ _ _ _ _ _ _ _ _ _ _ _ _ _ _ _ _ _ _ _ _ _ _ _ _ _ _ _ _ _ _ _ _ _ _ _ _ _ _ _ _ _ _ _ _ _ _ _ _ _ _ _ _ _ _ _ _ _ _ _ _ _ _ _ _ _ _ _ _ _ _ _ _ _ _ _ _ _ _ _ _ _ _ _ _ _ _ _ _ _ _ _ _ _ _ _ _ _ _ _ _ _ _ _ _ _ _ _ _ _ _ _ _ _ _ _ _ _ _ _ _ _ _ _ _ _ _ _ _ _ _ _ (by show (List.find? (fun (p : Addr × Addr × Str) => p.2.1 == pl_law) [(cc_law, pl_law, lawQ)]).map (·.2.2) = some lawQ; simp) cC_NoBack cC_NoText cC_NoCard cC_Twice cC_NoName cC_NoShare cC_NoAbility cC_NoHalf cC_NoCourse cC_StrokeError a_law_draw l_law_draw c_law_draw k_law_draw a_law_begun l_law_begun c_law_begun k_law_begun a_places_of l_places_of c_places_of k_places_of a_by_twos l_by_twos c_by_twos k_by_twos a_draw_up l_draw_up c_draw_up k_draw_up a_law_stronger l_law_stronger c_law_stronger k_law_stronger a_NoName_init_m l_NoName_init_m c_NoName_init_m k_NoName_init_m a_play_on l_play_on c_play_on k_play_on a_rounds_to l_rounds_to c_rounds_to k_rounds_to a_law_class l_law_class c_law_class k_law_class a_law_heard l_law_heard c_law_heard k_law_heard a_law_round_of l_law_round_of c_law_round_of k_law_round_of a_law l_law c_law k_law xc_NoName ex_NoName ki_NoName_NoAbility ki_NoName_NoBack ki_NoName_NoCard ki_NoName_NoCourse ki_NoName_NoHalf ki_NoName_NoName ki_NoName_NoShare ki_NoName_NoText ki_NoName_Twice ki_NoName_ValueError xf_NoName_name ox_NoName nf_NoName ti_NoName cx_law cy_law cn_law ch_law z_ValueError z_isinstance z_len z_list z_min z_range z_sorted z_str z_sum z_tuple z_zip) (hTB _ List.mem_cons_self) hτ
end L68
set_option maxHeartbeats 4000000
namespace L68
open PySem PySem.Spec PyProof.Rows L2 DL CS
local macro_rules | `(tactic| sizeOf_list_dec) => `(tactic| with_reducible first
  | (refine x_varP (by with_unfolding_all rfl) ?_) | (refine x_var (by with_unfolding_all rfl) ?_) | (refine x_varS (by with_unfolding_all rfl) ?_)
  | (refine x_C ?_) | (refine x_op ?_) | (refine x_un ?_) | (refine x_sub ?_)
  | (refine x_mul (by first | with_unfolding_all decide | (unfold CMul; omega)) ?_) | (refine x_mult (by first | with_unfolding_all decide | (unfold CMul; omega)) ?_)
  | (refine x_div (by unfold CDivN; omega) ?_) | (refine x_mod (by omega) ?_) | (refine x_add ?_) | (refine x_lt ?_) | (refine x_ltI ?_) | (refine x_leI ?_) | (refine x_gtI ?_) | (refine x_geI ?_)
  | (refine x_is ?_) | (refine x_notis ?_) | (refine x_neg ?_) | (refine x_eqI ?_) | (refine x_neI ?_)
  | (refine x_dtestK ?_) | (refine x_testK ?_) | (refine x_and ?_) | (refine x_or ?_) | (refine x_not ?_) | (refine x_dif ?_)
  | (refine x_T ?_) | (refine x_F ?_) | (refine x_nT ?_) | (refine x_nF ?_)
  | (refine x_nil ?_) | (refine x_cons ?_) | (refine x_cntK ?_) | (refine x_lens (by with_unfolding_all rfl) ?_)
  | (refine x_tupK ?_) | (refine x_tupD (by first | with_unfolding_all decide | (simp only [BIG, List.length_cons, List.length_nil]; omega)) ?_) | (refine x_tupPD (by first | with_unfolding_all decide | (simp only [BIG, List.length_cons, List.length_nil]; omega)) ?_) | (refine x_lstK ?_) | (refine x_lstD (by first | with_unfolding_all decide | (simp only [BIG, List.length_cons, List.length_nil]; omega)) ?_)
  | (refine x_dct ?_) | (refine x_fzS ?_) | (refine x_fzOwn ?_) | (refine x_val ?_)
  | (refine x_callK ?_) | (refine x_callD (by first | (dsimp only [pickD_cons, pickD_nil, List.cons_append, List.nil_append, List.append_nil, gD0, gDs]; done) | (dsimp only [pickD_cons, pickD_nil, List.cons_append, List.nil_append, List.append_nil, gD0, gDs]; exact rfl)) ?_)
  | (refine x_bc ?_) | (refine x_min2 ?_) | (refine x_max2 ?_)
  | (refine x_seq ?_) | (refine x_next ?_) | (refine x_brk ?_) | (refine x_cont ?_) | (refine x_drop ?_) | (refine x_ret ?_) | (refine x_retN ?_) | (refine x_if ?_)
  | (refine x_asgK ?_) | (refine x_setK (by first | (dsimp only [List.set_cons_zero, List.set_cons_succ]; done) | (dsimp only [List.set_cons_zero, List.set_cons_succ]; exact rfl)) ?_)
  | (refine x_asgT ?_) | (refine x_gN (by first | (dsimp only [List.set_cons_zero, List.set_cons_succ]; done) | (dsimp only [List.set_cons_zero, List.set_cons_succ]; exact rfl)) ?_) | (refine x_gsN ?_) | (refine x_gsC ?_) | (refine x_gT (by with_unfolding_all rfl) ?_)
  | (refine x_mNil ?_) | (refine x_mCons ?_) | (refine x_parK ?_) | (refine x_parD (by with_unfolding_all rfl) (by first | (dsimp only [setS, List.set_cons_zero, List.set_cons_succ]; done) | (dsimp only [setS, List.set_cons_zero, List.set_cons_succ]; exact rfl)) ?_)
  | (refine x_for ?_) | (refine x_rg1 ?_) | (refine x_rg2 ?_) | (refine x_rg1K (by omega) ?_) | (refine x_rg2K (by omega) ?_)
  | (refine x_andV ?_) | (refine x_orV ?_) | (refine x_notV ?_) | (refine x_andK ?_) | (refine x_orK ?_) | (refine x_notK ?_)
  | (refine x_addI ?_) | (refine x_ixL (by with_unfolding_all rfl) ?_) | (refine x_ixT (by with_unfolding_all rfl) ?_) | (refine x_slT ?_) | (refine x_oNo ?_) | (refine x_oInt ?_) | (refine x_oIntK ?_)
  | (refine x_vbc ?_) | (refine x_lenT ?_) | (refine x_lenL ?_) | (refine x_lenO1 (by with_unfolding_all rfl) ?_) | (refine x_lenO2 ?_) | (refine x_ixO1 (by with_unfolding_all rfl) ?_) | (refine x_ixO2 ?_)
  | (refine x_mt (by with_unfolding_all rfl) ?_) | (refine x_fld ?_) | (refine x_fldS ?_) | (refine x_fldP (by with_unfolding_all rfl) ?_) | (refine x_fldSK (by with_unfolding_all rfl) ?_) | (refine x_fldK (by with_unfolding_all rfl) ?_) | (refine x_selfS ?_)
  | (refine x_selfK (by with_unfolding_all rfl) (by with_unfolding_all decide) (by first | (dsimp only [List.set_cons_zero, List.set_cons_succ, List.cons_append, List.nil_append]; done) | (dsimp only [List.set_cons_zero, List.set_cons_succ, List.cons_append, List.nil_append]; exact rfl)) ?_)
  | (refine x_endI (by with_unfolding_all rfl) ?_) | (refine x_lenI ?_) | (refine x_lenK2 ?_) | (refine x_isi_NoneType_int ?_) | (refine x_isi_NoneType_bool ?_) | (refine x_isi_NoneType_str ?_) | (refine x_isi_NoneType_tuple ?_) | (refine x_isi_NoneType_list ?_) | (refine x_isi_bool_int ?_) | (refine x_isi_bool_bool ?_) | (refine x_isi_bool_str ?_) | (refine x_isi_bool_tuple ?_) | (refine x_isi_bool_list ?_) | (refine x_isi_int_int ?_) | (refine x_isi_int_bool ?_) | (refine x_isi_int_str ?_) | (refine x_isi_int_tuple ?_) | (refine x_isi_int_list ?_) | (refine x_isi_str_int ?_) | (refine x_isi_str_bool ?_) | (refine x_isi_str_str ?_) | (refine x_isi_str_tuple ?_) | (refine x_isi_str_list ?_) | (refine x_isi_tuple_int ?_) | (refine x_isi_tuple_bool ?_) | (refine x_isi_tuple_str ?_) | (refine x_isi_tuple_tuple ?_) | (refine x_isi_tuple_list ?_) | (refine x_isi_list_int ?_) | (refine x_isi_list_bool ?_) | (refine x_isi_list_str ?_) | (refine x_isi_list_tuple ?_) | (refine x_isi_list_list ?_)
  | (refine x_tupleT ?_) | (refine x_sumT ?_) | (refine x_sumL ?_) | (refine x_allL ?_) | (refine x_intI ?_) | (refine x_intB ?_) | (refine x_abs ?_) | (refine x_divmod (by omega) ?_)
  | (refine x_lcS ?_) | (refine x_lcK (by with_unfolding_all rfl) (by first | (dsimp only [wipeR, List.set_cons_zero, List.set_cons_succ]; done) | (dsimp only [wipeR, List.set_cons_zero, List.set_cons_succ]; exact rfl)) ?_) | (refine x_iseqS ?_) | (refine x_iseqD ?_) | (refine x_itupS ?_) | (refine x_itupD ?_) | (refine x_chain ?_) | (refine x_chK ?_)
  | (refine x_rgL1 ?_) | (refine x_rgL2 ?_) | (refine x_rg1LK (by omega) ?_) | (refine x_rg2LK (by omega) ?_)
  | (refine x_sfz (by first | (simp only [fzR, S.toD, List.getElem?_cons_zero, List.getElem?_cons_succ, List.set_cons_zero, List.set_cons_succ]; done) | (simp only [fzR, S.toD, List.getElem?_cons_zero, List.getElem?_cons_succ, List.set_cons_zero, List.set_cons_succ]; exact rfl)) ?_)
  | (refine x_gaddI ?_) | (refine x_aug (by with_unfolding_all rfl) ?_) | (refine x_augK (by with_unfolding_all rfl) ?_) | (refine x_setVK (by first | (dsimp only [List.set_cons_zero, List.set_cons_succ]; done) | (dsimp only [List.set_cons_zero, List.set_cons_succ]; exact rfl)) ?_) | (refine x_augIx (by with_unfolding_all rfl) ?_)
  | (refine x_strS ?_) | (refine x_strI (by first | assumption | (unfold Sm; omega)) ?_) | (refine x_fmt ?_) | (refine x_fmtS ?_) | (refine x_fmtI (by first | assumption | (unfold Sm; omega)) ?_) | (refine x_joined ?_) | (refine x_js0 ?_) | (refine x_js ?_)
  | (refine x_tru ?_) | (refine x_truK (by with_unfolding_all rfl) ?_) | (refine x_bk ?_) | (refine x_bkK ?_) | (refine x_bkv ?_) | (refine x_bkvK ?_) | (refine x_revT ?_) | (refine x_revL ?_) | (refine x_revTK (by first | with_unfolding_all decide | (simp only [BIG, List.length_cons, List.length_nil]; omega)) ?_) | (refine x_revLK (by first | with_unfolding_all decide | (simp only [BIG, List.length_cons, List.length_nil]; omega)) ?_)
  | (refine x_cat ?_) | (refine x_catK ?_) | (refine x_rep ?_) | (refine x_repK ?_) | (refine x_pow (by decide) ?_)
  | (refine x_mv ?_) | (refine x_mvT ?_) | (refine x_isLst ?_) | (refine x_isPtp ?_) | (refine x_mvK ?_) | (refine x_mvtK ?_)
  | (refine x_zpS ?_) | (refine x_zp ?_) | (refine x_zpNT ?_) | (refine x_zpNL ?_) | (refine x_enm ?_) | (refine x_enmK ?_) | (refine x_enmT ?_) | (refine x_enmTK ?_) | (refine x_gTp (by with_unfolding_all rfl) ?_)
  | (refine x_isXb true (by decide +kernel) (by decide +kernel) ?_) | (refine x_isXb false (by decide +kernel) (by decide +kernel) ?_) | (refine x_fldX ?_) | (refine x_fldXK (by decide +kernel) (by with_unfolding_all rfl) ?_)
  | (refine x_zpQ ?_) | (refine x_raise0 ?_) | (refine x_raise ?_) | (refine x_raiseK ?_) | (refine x_hVal ?_) | (refine x_hExc (by decide +kernel) rfl ?_) | (refine x_try ?_) | (refine x_tryX (by decide +kernel) (by decide +kernel) ?_)
  | (refine x_heard (by first | (dsimp only [hideR, List.map_cons, List.map_nil]; done) | (dsimp only [hideR, List.map_cons, List.map_nil]; exact rfl)) ?_))
def lad : Nat → List Int
  | 0 => [1, 2]
  | k + 1 => (lad k).flatMap fun p => [p, 2 * ((2 ^ (k + 1) : Nat) : Int) + 1 - p]
theorem flat2_len {α β : Type} (f g : α → β) : ∀ l : List α, (l.flatMap fun p => [f p, g p]).length = 2 * l.length
  | [] => rfl
  | x :: l => by
    rw [List.flatMap_cons, List.length_append, flat2_len f g l]
    simp only [List.length_cons, List.length_nil]
    omega
theorem lad_len : ∀ k, (lad k).length = 2 ^ (k + 1)
  | 0 => rfl
  | k + 1 => by
    unfold lad
    rw [flat2_len (fun p => p), lad_len k, Nat.pow_succ 2 (k + 1), Nat.mul_comm]
theorem lad_bd : ∀ k, ∀ p ∈ lad k, 1 ≤ p ∧ p ≤ ((2 ^ (k + 1) : Nat) : Int)
  | 0, p, h => by
    rcases List.mem_cons.mp h with rfl | h
    · decide
    · rw [List.mem_singleton.mp h]
      decide
  | k + 1, p, h => by
    unfold lad at h
    obtain ⟨x, hx, hp⟩ := List.mem_flatMap.mp h
    have := lad_bd k x hx
    rw [Nat.pow_succ 2 (k + 1)]
    rcases List.mem_cons.mp hp with rfl | hp
    · omega
    · rw [List.mem_singleton.mp hp]
      omega
theorem lad_nodup : ∀ k, (lad k).Nodup
  | 0 => by decide
  | k + 1 => by
    unfold lad
    have hb := lad_bd k
    have ih := lad_nodup k
    generalize ((2 ^ (k + 1) : Nat) : Int) = N at *
    generalize lad k = l at *
    induction l with
    | nil => exact List.nodup_nil
    | cons x l i2 =>
      have hx := hb x (List.mem_cons_self ..)
      have ih := List.nodup_cons.mp ih
      rw [List.flatMap_cons]
      have key : ∀ y ∈ l.flatMap (fun p => [p, 2 * N + 1 - p]), y ≠ x ∧ y ≠ 2 * N + 1 - x := fun y hy => by
        obtain ⟨z, hz, hp⟩ := List.mem_flatMap.mp hy
        have hzb := hb z (List.mem_cons_of_mem _ hz)
        have hne : z ≠ x := fun e => ih.1 (e ▸ hz)
        rcases List.mem_cons.mp hp with rfl | hp
        · omega
        · rw [List.mem_singleton.mp hp]
          omega
      refine List.nodup_cons.mpr ⟨fun hm => ?_, List.nodup_cons.mpr ⟨fun hm => (key _ hm).2 rfl, i2 ih.2 (fun p hp => hb p (List.mem_cons_of_mem _ hp))⟩⟩
      rcases List.mem_cons.mp hm with h | h
      · omega
      · exact (key _ h).1 rfl
def oS : Option Str → D
  | none => .non
  | some s => .str s
abbrev Pr := Option Str × Option Str
def prD (p : Pr) : D := .tup [oS p.1, oS p.2]
def nms (p : Pr) : List Str := p.1.toList ++ p.2.toList
def twos {α : Type} : List α → List (α × α)
  | [] => []
  | [_] => []
  | a :: b :: r => (a, b) :: twos r
theorem twos_len {α : Type} : ∀ l : List α, (twos l).length = l.length / 2
  | [] => by simp [twos]
  | [_] => by simp [twos]
  | a :: b :: r => by
    show (twos r).length + 1 = _
    rw [twos_len r]
    simp only [List.length_cons]
    omega
theorem twos_map {α β : Type} (f : α → β) : ∀ l : List α, twos (l.map f) = (twos l).map fun p => (f p.1, f p.2)
  | [] => rfl
  | [_] => rfl
  | a :: b :: r => by
    show (f a, f b) :: twos (r.map f) = (f a, f b) :: (twos r).map _
    rw [twos_map f r]
theorem twos_flat {α β : Type} (f g : α → β) : ∀ l : List α, twos (l.flatMap fun p => [f p, g p]) = l.map fun p => (f p, g p)
  | [] => rfl
  | x :: l => by
    show (f x, g x) :: twos (l.flatMap fun p => [f p, g p]) = _
    rw [twos_flat f g l]
    rfl
theorem twos_range (l : List D) : ((List.range (l.length / 2)).map fun i => D.tup [l.getD (2 * i) .non, l.getD (2 * i + 1) .non]) = (twos l).map fun p => D.tup [p.1, p.2] := by
  match l with
  | [] => rfl
  | [_] => simp [twos]
  | a :: b :: r =>
    have ih := twos_range r
    show _ = D.tup [a, b] :: (twos r).map fun p => D.tup [p.1, p.2]
    rw [← ih, show (a :: b :: r).length / 2 = r.length / 2 + 1 by simp only [List.length_cons]; omega, List.range_succ_eq_map, List.map_cons, List.map_map]
    congr 1
theorem stp2 (n : Nat) : stp 0 ((n : Int) - 1) 2 = n / 2 := by
  unfold stp
  split <;> omega
theorem in_pair (a x y : Option Str) : inV (vOf (oS a)) ([oS x, oS y].map vOf) = (decide (x = a) || decide (y = a)) := by
  cases a <;> cases x <;> cases y <;> simp [inV, eqV, vOf, oS] <;> rfl
theorem mem_nms {a : Str} {p : Pr} : a ∈ nms p ↔ p.1 = some a ∨ p.2 = some a := by
  obtain ⟨x, y⟩ := p
  cases x <;> cases y <;> simp [nms, eq_comm]
theorem twos_sub : ∀ l : List (Option Str), ((twos l).flatMap nms).Sublist (l.filterMap id)
  | [] => .slnil
  | [a] => List.nil_sublist _
  | a :: b :: r => by
    show (nms (a, b) ++ (twos r).flatMap nms).Sublist _
    have ih := twos_sub r
    cases a <;> cases b <;> simp [nms] <;> exact ih
theorem won_nodup {P : List Pr} {won : List Str} (h : All2 (fun p w => w ∈ nms p) P won) (hn : (P.flatMap nms).Nodup) : won.Nodup ∧ ∀ w ∈ won, w ∈ P.flatMap nms := by
  induction h with
  | nil => exact ⟨List.nodup_nil, fun _ h => h⟩
  | @cons p w P won hw _ ih =>
    rw [List.flatMap_cons] at *
    obtain ⟨n1, n2, n3⟩ := List.nodup_append.mp hn
    obtain ⟨i1, i2⟩ := ih n2
    refine ⟨List.nodup_cons.mpr ⟨fun hm => n3 w hw w (i2 w hm) rfl, i1⟩, fun x hx => ?_⟩
    rcases List.mem_cons.mp hx with rfl | hx
    · exact List.mem_append_left _ hw
    · exact List.mem_append_right _ (i2 x hx)
def seat (ns : List Str) (p : Int) : Option Str := ns[(p - 1).toNat]?
structure Inv (P : List Pr) : Prop where
  some : ∀ p ∈ P, nms p ≠ []
  nd : (P.flatMap nms).Nodup
  nz : ("z" : Str) ∉ P.flatMap nms
theorem inv_next {P : List Pr} {won : List Str} (h : All2 (fun p w => w ∈ nms p) P won) (I : Inv P) : Inv (twos (won.map some)) := by
  obtain ⟨q1, q2⟩ := won_nodup h I.nd
  have hs := twos_sub (won.map some)
  have e : (won.map some).filterMap id = won := by
    rw [List.filterMap_map]
    exact List.filterMap_some
  rw [e] at hs
  refine ⟨fun p hp => ?_, hs.nodup q1, fun hz => I.nz (q2 _ (hs.subset hz))⟩
  rw [twos_map] at hp
  obtain ⟨x, _, rfl⟩ := List.mem_map.mp hp
  simp [nms]
theorem inv_first {ns : List Str} {k : Nat} (hn : ns.Nodup) (hz : ("z" : Str) ∉ ns) (h1 : 1 ≤ ns.length) (hk : k = 0 ∨ 2 ^ k < ns.length) : Inv (twos ((lad k).map (seat ns))) := by
  have hs := twos_sub ((lad k).map (seat ns))
  have e : ((lad k).map (seat ns)).filterMap id = (lad k).filterMap (seat ns) := by rw [List.filterMap_map]; rfl
  rw [e] at hs
  have nd : ((lad k).filterMap (seat ns)).Nodup := by
    refine List.pairwise_filterMap.mpr ((lad_nodup k).imp_of_mem fun {a b} ha hb ne x hx y hy exy => ?_)
    subst exy
    have ba := lad_bd k a ha
    have bb := lad_bd k b hb
    unfold seat at hx hy
    obtain ⟨l1, e1⟩ := List.getElem?_eq_some_iff.mp hx
    obtain ⟨l2, e2⟩ := List.getElem?_eq_some_iff.mp hy
    have := (List.pairwise_iff_getElem.mp hn)
    rcases Nat.lt_trichotomy (a - 1).toNat (b - 1).toNat with h | h | h
    · exact this _ _ l1 l2 h (e1.trans e2.symm)
    · exact ne (by omega)
    · exact this _ _ l2 l1 h (e2.trans e1.symm)
  refine ⟨fun p hp => ?_, hs.nodup nd, fun h => ?_⟩
  · have key : ∀ p : Int, 1 ≤ p → p ≤ (ns.length : Nat) → seat ns p ≠ none := fun p a b z => by
      unfold seat at z
      have := List.getElem?_eq_none_iff.mp z
      omega
    rw [twos_map] at hp
    obtain ⟨x, hx, rfl⟩ := List.mem_map.mp hp
    have hx1 : seat ns x.1 ≠ none := by
      match k, hk, hx with
      | 0, _, hx =>
        have hx : x ∈ [((1 : Int), (2 : Int))] := hx
        rw [List.mem_singleton.mp hx]
        exact key 1 (by omega) (by omega)
      | k + 1, hk, hx =>
        unfold lad at hx
        rw [twos_flat (fun p => p) (fun p => 2 * ((2 ^ (k + 1) : Nat) : Int) + 1 - p)] at hx
        obtain ⟨y, hy, rfl⟩ := List.mem_map.mp hx
        have := lad_bd k y hy
        exact key y this.1 (by omega)
    intro z
    cases e : seat ns x.1 with
    | none => exact hx1 e
    | some s => simp [nms, e] at z
  · obtain ⟨a, ha, hx⟩ := List.mem_filterMap.mp (hs.subset h)
    exact hz (List.mem_of_getElem? hx)
theorem k_uniq {n a b : Nat} (ha : a = 0 ∨ 2 ^ a < n) (hb : n ≤ 2 ^ (b + 1)) : a ≤ b := by
  rcases ha with rfl | ha
  · omega
  · have := (Nat.pow_lt_pow_iff_right (a := 2) (by omega)).mp (Nat.lt_of_lt_of_le ha hb)
    omega
theorem plns_pr : ∀ (n : Nat) (l : List Pr), plns (n + 1) (l.map prD) = true
  | _, [] => rfl
  | n, o :: l => by
    rw [List.map_cons]
    unfold plns
    rw [plns_pr n l, Bool.and_true]
    obtain ⟨a, b⟩ := o
    cases a <;> cases b <;> cases n <;> rfl
def hlf : Nat → List Int
  | 0 => [1]
  | k + 1 => lad k
theorem lad_hlf : ∀ k, lad k = (hlf k).flatMap fun p => [p, 2 * ((2 ^ k : Nat) : Int) + 1 - p]
  | 0 => by decide
  | k + 1 => rfl
theorem hlf_len : ∀ k, (hlf k).length = 2 ^ k
  | 0 => rfl
  | k + 1 => lad_len k
theorem hlf_bd : ∀ k, ∀ p ∈ hlf k, 1 ≤ p ∧ p ≤ ((2 ^ k : Nat) : Int)
  | 0, p, h => by rw [List.mem_singleton.mp h]; decide
  | k + 1, p, h => lad_bd k p h
def pairsK (ns : List Str) (k : Nat) : List Pr := (hlf k).map fun p => (seat ns p, seat ns (2 * ((2 ^ k : Nat) : Int) + 1 - p))
theorem pairsK_eq (ns : List Str) (k : Nat) : twos ((lad k).map (seat ns)) = pairsK ns k := by
  rw [twos_map, lad_hlf, twos_flat (fun p => p) (fun p => 2 * ((2 ^ k : Nat) : Int) + 1 - p), List.map_map]
  rfl
def nameAt (ns : List Str) (p : Int) : Str := ns.getD (p - 1).toNat ""
theorem seat_name {ns : List Str} {p : Int} (h1 : 1 ≤ p) (h2 : p ≤ (ns.length : Nat)) : seat ns p = some (nameAt ns p) := by
  unfold seat nameAt
  rw [List.getD_eq_getElem?_getD, List.getElem?_eq_getElem (by omega)]
  rfl
theorem seat_none {ns : List Str} {p : Int} (h2 : (ns.length : Nat) < p) : seat ns p = none := by
  unfold seat
  rw [List.getElem?_eq_none_iff]
  omega
def wonK (ns : List Str) (k : Nat) : List Str := (hlf k).map (nameAt ns)
theorem wonK_next (ns : List Str) (k : Nat) (h : 2 ^ (k + 1) ≤ ns.length) : twos ((wonK ns (k + 1)).map some) = pairsK ns k := by
  rw [← pairsK_eq]
  congr 1
  unfold wonK hlf
  rw [List.map_map]
  refine List.map_congr_left fun p hp => ?_
  have := lad_bd k p hp
  exact (seat_name this.1 (by omega)).symm
theorem wonK_ok (ns : List Str) (k : Nat) (h : 2 ^ k ≤ ns.length) : All2 (fun p w => w ∈ nms p) (pairsK ns k) (wonK ns k) := by
  unfold pairsK wonK
  have hb := hlf_bd k
  generalize hlf k = l at *
  induction l with
  | nil => exact .nil
  | cons p l ih =>
    refine .cons ?_ (ih fun q hq => hb q (List.mem_cons_of_mem _ hq))
    have := hb p (List.mem_cons_self ..)
    exact mem_nms.mpr (.inl (seat_name this.1 (by omega)))
theorem hlf_sorted : ∀ k, k ≤ 5 → (CS.srt ((hlf k).map fun p => p - 1)).map D.int = rng 0 (2 ^ k) := by
  intro k hk
  have key : ∀ k, k < 6 → ((List.range (2 ^ k)).map fun (i : Nat) => (i : Int)).Perm ((hlf k).map fun p => p - 1) := by decide +kernel
  have hs : ((List.range (2 ^ k)).map fun (i : Nat) => (i : Int)).Pairwise (· ≤ ·) := by
    refine List.pairwise_map.mpr ((List.pairwise_lt_range (n := 2 ^ k)).imp fun {a b} h => ?_)
    omega
  rw [← CS.srt_of (key k (by omega)) hs, List.map_map]
  unfold rng
  refine List.map_congr_left fun i _ => ?_
  show D.int (i : Int) = D.int (0 + (i : Int))
  rw [Int.zero_add]
inductive Rd : Nat → Nat → Nat → Prop
  | same (x : Nat) : Rd x x 0
  | step {x y r : Nat} : x ≠ y → Rd (x / 2) (y / 2) r → Rd x y (r + 1)
theorem Rd.ex : ∀ (n x y : Nat), x ≤ n → y ≤ n → ∃ r, Rd x y r
  | 0, x, y, hx, hy => ⟨0, by rw [show x = 0 by omega, show y = 0 by omega]; exact .same 0⟩
  | n + 1, x, y, hx, hy => by
    by_cases h : x = y
    · subst h; exact ⟨0, .same x⟩
    · obtain ⟨r, hr⟩ := Rd.ex n (x / 2) (y / 2) (by omega) (by omega)
      exact ⟨r + 1, .step h hr⟩
theorem Rd.symm {x y r : Nat} (h : Rd x y r) : Rd y x r := by
  induction h with
  | same x => exact .same x
  | step ne _ ih => exact .step (Ne.symm ne) ih
theorem twos_get {α : Type} : ∀ (l : List α) (h : Nat) (a b : α), l[2 * h]? = some a → l[2 * h + 1]? = some b → (twos l)[h]? = some (a, b)
  | [], h, a, b, e, _ => by simp at e
  | [x], h, a, b, e, e2 => by
    have := (List.getElem?_eq_some_iff.mp e2).1
    simp at this
  | x :: y :: r, 0, a, b, e, e2 => by
    have e : some x = some a := e
    have e2 : some y = some b := e2
    cases e
    cases e2
    simp [twos]
  | x :: y :: r, h + 1, a, b, e, e2 => by
    have e : r[2 * h]? = some a := e
    have e2 : r[2 * h + 1]? = some b := e2
    simp only [twos, List.getElem?_cons_succ]
    exact twos_get r h a b e e2
theorem nd_idx : ∀ (P : List Pr), (P.flatMap nms).Nodup → ∀ (i j : Nat) (p q : Pr) (w : Str), P[i]? = some p → P[j]? = some q → w ∈ nms p → w ∈ nms q → i = j
  | [], _, i, j, p, q, w, h, _, _, _ => by simp at h
  | x :: P, hn, i, j, p, q, w, hi, hj, hp, hq => by
    rw [List.flatMap_cons] at hn
    obtain ⟨n1, n2, n3⟩ := List.nodup_append.mp hn
    match i, j with
    | 0, 0 => rfl
    | 0, j + 1 =>
      have hi : some x = some p := hi
      have hj : P[j]? = some q := hj
      cases hi
      exact absurd rfl (n3 w hp w (List.mem_flatMap.mpr ⟨q, List.mem_of_getElem? hj, hq⟩))
    | i + 1, 0 =>
      have hi : P[i]? = some p := hi
      have hj : some x = some q := hj
      cases hj
      exact absurd rfl (n3 w hq w (List.mem_flatMap.mpr ⟨p, List.mem_of_getElem? hi, hp⟩))
    | i + 1, j + 1 =>
      rw [nd_idx P n2 i j p q w hi hj hp hq]
theorem deq_pr (p : Pr) (a b : Str) : deq (prD p) (.tup [.str a, .str b]) = decide (p = (some a, some b)) := by
  obtain ⟨x, y⟩ := p
  cases x with
  | none => cases y <;> simp [deq, prD, oS, toPy, toPys, PyData.eqv, PyData.eqvAll]
  | some x => cases y with
    | none => simp [deq, prD, oS, toPy, toPys, PyData.eqv, PyData.eqvAll]
    | some y =>
      show ((x == a) && ((y == b) && true)) = _
      rw [Bool.eq_iff_iff]
      simp
theorem any_pr (P : List Pr) (a b : Str) : ((P.map prD).any fun z => deq z (.tup [.str a, .str b])) = decide ((some a, some b) ∈ P) := by
  rw [List.any_map]
  induction P with
  | nil => rfl
  | cons p P ih =>
    rw [List.any_cons, ih]
    show (deq (prD p) _ || _) = _
    rw [deq_pr]
    by_cases h : p = (some a, some b)
    · subst h; simp
    · simp [h, Ne.symm h]
theorem v_twos (os : List (Option Str)) (sd : D) (hs : sd = .tup (os.map oS) ∨ sd = .lst (os.map oS)) (hl : os.length ≤ 1000) {kx : XD → Prop} {k : D → Prop} (h : k (.tup ((twos os).map prD))) : m_by_twos [sd] kx k := by
  have e2 : (List.range (os.length / 2)).map (fun i => D.tup [(os.map oS).getD (2 * i) .non, (os.map oS).getD (2 * i + 1) .non]) = (twos os).map prD := by
    have := twos_range (os.map oS)
    rw [List.length_map] at this
    rw [this, twos_map, List.map_map]
    rfl
  refine go_by_twos ?_
  unfold body_by_twos
  rcases hs with rfl | rfl
  all_goals
    repeat sizeOf_list_dec
    refine x_rg3 ?_
    repeat sizeOf_list_dec
    rw [List.length_map]
    refine x_rg3K ⟨by omega, by omega, by omega, by omega, by omega, by omega, by rw [stp2]; unfold BIG; omega⟩ ?_
    rw [stp2]
    repeat sizeOf_list_dec
    unfold rngC
    refine x_lc_mapA (α := Nat) (fun i => .tup [(os.map oS).getD (2 * i) .non, (os.map oS).getD (2 * i + 1) .non]) (fun i hi A hA => ?_) ?_
    · have hi := List.mem_range.mp hi
      have q1 : (os.map oS)[2 * i]? = some ((os.map oS).getD (2 * i) .non) := by rw [List.getD_eq_getElem?_getD, List.getElem?_eq_getElem (by rw [List.length_map]; omega)]; rfl
      have q2 : (os.map oS)[2 * i + 1]? = some ((os.map oS).getD (2 * i + 1) .non) := by rw [List.getD_eq_getElem?_getD, List.getElem?_eq_getElem (by rw [List.length_map]; omega)]; rfl
      have z1 := CS.atI_nat q1
      have z2 := CS.atI_nat q2
      rw [show (((2 * i : Nat) : Int)) = 0 + (i : Int) * 2 by omega] at z1
      rw [show (((2 * i + 1 : Nat) : Int)) = 0 + (i : Int) * 2 + 1 by omega] at z2
      repeat sizeOf_list_dec
      first | refine x_ixT z1 ?_ | refine x_ixL z1 ?_
      repeat sizeOf_list_dec
      first | refine x_ixT z2 ?_ | refine x_ixL z2 ?_
      repeat sizeOf_list_dec
      exact ⟨rfl, hA⟩
    rw [e2]
    repeat sizeOf_list_dec
    refine x_tupleL (by rw [List.length_map, twos_len]; unfold BIG; omega) ?_
    exact h
theorem v_places (n : Nat) (hn : n ≤ 64) {kx : XD → Prop} {kd : D → Prop} (h : ∀ k, (k = 0 ∨ 2 ^ k < n) → n ≤ 2 ^ (k + 1) → kd (.lst ((lad k).map D.int))) : m_places_of [.int (n : Nat)] kx kd := by
  refine go_places_of ?_
  unfold body_places_of
  repeat sizeOf_list_dec
  refine x_while (fun m ρ => ∃ (j : Nat) (a2 a3 : S), m = n - 2 ^ (j + 1) ∧ (j = 0 ∨ 2 ^ j < n) ∧ ρ = [.val (.int (n : Nat)), .val (.lst ((lad j).map D.int)), a2, a3]) ⟨0, _, _, rfl, .inl rfl, rfl⟩ ?_
  rintro m ρ P ⟨j, a2, a3, hm, hj, rfl⟩ hP -
  have hll := lad_len j
  have hpw := Nat.pow_succ 2 (j + 1)
  have hpz := Nat.two_pow_pos (j + 1)
  repeat sizeOf_list_dec
  rw [List.length_map, hll]
  refine x_iteD (fun c => ?_) (fun c => ?_)
  · have c : 2 ^ (j + 1) < n := by omega
    unfold lp_places_of_2
    repeat sizeOf_list_dec
    refine x_for_pre (f := D.int) (l := lad j) (fun pre ρ => ∃ a3 : S, ρ = [.val (.int (n : Nat)), .val (.lst ((lad j).map D.int)), .own ((pre.flatMap fun p => [p, 2 * ((2 ^ (j + 1) : Nat) : Int) + 1 - p]).map D.int), a3]) ⟨_, rfl⟩ ?_ ?_
    · rintro ρ ⟨a3, rfl⟩
      repeat sizeOf_list_dec
      refine hP (n - 2 ^ (j + 1 + 1)) _ (by omega) ⟨j + 1, _, _, rfl, .inr c, rfl⟩
    · rintro pre p post ρ P2 hpp ⟨a3, rfl⟩ hP2
      have hpl : pre.length ≤ 64 := by
        have := congrArg List.length hpp
        rw [hll, List.length_append] at this
        omega
      have hP2 := fun a3 => hP2 _ ⟨a3, rfl⟩
      rw [List.flatMap_append, List.map_append] at hP2
      unfold lp_places_of_1
      repeat sizeOf_list_dec
      rw [List.length_map, hll]
      repeat sizeOf_list_dec
      refine x_extend rfl (by rw [List.length_map, flat2_len (fun p => p)]; simp only [List.length_cons, List.length_nil]; unfold BIG; omega) rfl ?_
      exact hP2 _
  · unfold tl_places_of_1
    repeat sizeOf_list_dec
    exact h j hj (by omega)
theorem v_draw_up (ns : List Str) (hn : ns.length ≤ 64) {kx : XD → Prop} {kd : D → Prop} (h : ∀ k, (k = 0 ∨ 2 ^ k < ns.length) → ns.length ≤ 2 ^ (k + 1) → kd (.tup ((twos ((lad k).map (seat ns))).map prD))) : m_draw_up [.tup (ns.map D.str)] kx kd := by
  refine go_draw_up ?_
  unfold body_draw_up
  repeat sizeOf_list_dec
  rw [List.length_map]
  refine v_places ns.length hn fun k hk1 hk2 => ?_
  have hll := lad_len k
  have hkb : 2 ^ (k + 1) ≤ 128 := by
    have := Nat.pow_succ 2 k
    rcases hk1 with rfl | hk1
    · decide
    · omega
  repeat sizeOf_list_dec
  refine x_lc_mapA (f := D.int) (l := lad k) (fun p => oS (seat ns p)) (fun p hp A hA => ?_) ?_
  · have hb := lad_bd k p hp
    repeat sizeOf_list_dec
    rw [List.length_map]
    refine x_iteD (fun c => ?_) (fun c => ?_)
    · have hl : (p - 1).toNat < ns.length := by omega
      have e : seat ns p = some ns[(p - 1).toNat] := by unfold seat; rw [List.getElem?_eq_getElem hl]
      rw [e] at hA
      have z := CS.atI_nat (ds := ns.map D.str) (j := (p - 1).toNat) (d := .str ns[(p - 1).toNat]) (by rw [List.getElem?_map, List.getElem?_eq_getElem hl]; rfl)
      rw [show (((p - 1).toNat : Nat) : Int) = p - 1 by omega] at z
      repeat sizeOf_list_dec
      refine x_ixT z ?_
      exact ⟨rfl, hA⟩
    · have e : seat ns p = none := by unfold seat; rw [List.getElem?_eq_none_iff]; omega
      rw [e] at hA
      repeat sizeOf_list_dec
      exact ⟨rfl, hA⟩
  rw [show ((lad k).map fun p => oS (seat ns p)) = ((lad k).map (seat ns)).map oS by rw [List.map_map]; rfl]
  repeat sizeOf_list_dec
  refine v_twos _ _ (.inr rfl) (by rw [List.length_map, hll]; omega) ?_
  repeat sizeOf_list_dec
  exact h k hk1 hk2
theorem x_nin_pr {x y : Option Str} (o : Option Str) {d : D} {kd : D → Prop} (e : d = oS o) (h : kd (.bl (!(decide (x = o) || decide (y = o))))) : gNin d (.tup [oS x, oS y]) kd := by
  subst e
  exact x_ninC _ (by cases o <;> rfl) (by cases x <;> cases y <;> rfl) (in_pair o x y) h
theorem v_play_ok (P : List Pr) (won : List Str) (hw : All2 (fun p w => w ∈ nms p) P won) (hl : P.length ≤ 100) {kx : XD → Prop} {kd : D → Prop} (h : kd (.tup ((twos (won.map some)).map prD))) : m_play_on [.tup (P.map prD), .tup (won.map D.str)] kx kd := by
  have hlen : P.length = won.length := by clear h hl; induction hw with | nil => rfl | cons _ _ ih => simp [ih]
  have hz : ∀ p ∈ P.zip won, p.2 ∈ nms p.1 := by
    clear h hl hlen
    induction hw with
    | nil => intro p hp; cases hp
    | cons h1 _ ih =>
      intro p hp
      rcases List.mem_cons.mp hp with rfl | hp
      · exact h1
      · exact ih p hp
  refine go_play_on ?_
  unfold body_play_on
  repeat sizeOf_list_dec
  refine x_zpTT (by rw [List.length_map, List.length_map, hlen]) ?_
  rw [zipD_maps]
  refine x_for_pre (f := fun p : Pr × Str => DL.pairD (prD p.1) (D.str p.2)) (l := P.zip won) (fun pre ρ => ∃ a2 a3 : S, ρ = [.val (.tup (P.map prD)), .val (.tup (won.map D.str)), a2, a3]) ⟨_, _, rfl⟩ ?_ ?_
  · rintro ρ ⟨a2, a3, rfl⟩
    repeat sizeOf_list_dec
    rw [show won.map D.str = (won.map some).map oS by rw [List.map_map]; rfl]
    refine v_twos _ _ (.inl rfl) (by rw [List.length_map]; omega) ?_
    exact h
  · rintro pre ⟨⟨x, y⟩, w⟩ post ρ P2 hpp ⟨a2, a3, rfl⟩ hP2
    have hm := hz ((x, y), w) (by rw [hpp]; simp)
    have hm := mem_nms.mp hm
    unfold lp_play_on_1 DL.pairD prD
    repeat sizeOf_list_dec
    refine x_F ?_
    repeat sizeOf_list_dec
    refine x_nin_pr (some w) rfl ?_
    rw [show (decide (x = some w) || decide (y = some w)) = true by rcases hm with h | h <;> simp at h <;> simp [h]]
    repeat sizeOf_list_dec
    exact hP2 _ ⟨_, _, rfl⟩
theorem hv {ρ : Rho} {kx : KX} {k : KE} {d : D} (h : k (.tup [.str "told", d]) ρ) : hRest tr_law_heard ρ kx k [.un, .val .non, .val d, .un, .un] := by
  refine x_hRest ?_
  unfold tr_law_heard
  repeat sizeOf_list_dec
  refine x_T ?_
  repeat sizeOf_list_dec
  exact h
theorem vc_NoName {fs : List Str} {xs : List D} {kx : XD → Prop} {k : D → Prop} (h : k (.str "no name")) : m_law_class [.exc "NoName" fs xs] kx k := by
  refine go_law_class ?_
  unfold body_law_class
  repeat sizeOf_list_dec
  refine x_catL (by decide) ?_
  repeat sizeOf_list_dec
  refine x_catL (by decide) ?_
  repeat sizeOf_list_dec
  refine x_countC 1 rfl rfl rfl ?_
  repeat sizeOf_list_dec
  refine x_F ?_
  repeat sizeOf_list_dec
  refine x_catL (by decide) ?_
  repeat sizeOf_list_dec
  refine x_indexC 4 (.bl true) rfl rfl (by rfl) (by rfl) (by rfl) ?_
  refine x_ixL (by with_unfolding_all rfl) ?_
  exact h
theorem hx_NoName {ρ : Rho} {kx : KX} {k : KE} {d : D} (h : k (.tup [.str "no name", d]) ρ) : hRest tr_law_heard ρ kx k [.un, .val (.exc "NoName" ["name"] [d]), .val .non, .un, .un] := by
  refine x_hRest ?_
  unfold tr_law_heard
  repeat sizeOf_list_dec
  refine x_F ?_
  repeat sizeOf_list_dec
  refine vc_NoName ?_
  repeat sizeOf_list_dec
  refine x_inC false rfl rfl (by decide +kernel) ?_
  repeat sizeOf_list_dec
  refine x_inC true rfl rfl (by decide +kernel) ?_
  repeat sizeOf_list_dec
  exact h
theorem flat_strs : ∀ l : List Str, (l.map D.str).all flatD = true
  | [] => rfl
  | x :: l => by rw [List.map_cons, List.all_cons, flat_strs l]; rfl
theorem eqf_str (a b : Str) : eqf (.str a) (.str b) = (a == b) := rfl
theorem x_indexS {l : List Str} {a : Str} {j : Nat} {kd : D → Prop} (hn : l.Nodup) (h1 : l[j]? = some a) (h : kd (.int (j : Nat))) : gIndexF (l.map D.str) (.str a) kd := by
  refine ⟨rfl, flat_strs l, j, .str a, by rw [List.getElem?_map, h1]; rfl, by rw [eqf_str]; simp, fun m z' hm hz => ?_, h⟩
  rw [List.getElem?_map] at hz
  obtain ⟨b, hb, rfl⟩ := Option.map_eq_some_iff.mp hz
  rw [eqf_str]
  obtain ⟨l1, e1⟩ := List.getElem?_eq_some_iff.mp h1
  obtain ⟨l2, e2⟩ := List.getElem?_eq_some_iff.mp hb
  have := (List.pairwise_iff_getElem.mp hn) m j l2 l1 hm
  rw [e1, e2] at this
  simpa using this
theorem name_get {ns : List Str} {p : Int} (h1 : 1 ≤ p) (h2 : p ≤ (ns.length : Nat)) : ns[(p - 1).toNat]? = some (nameAt ns p) := seat_name h1 h2
theorem v_stronger (ns : List Str) (nd : ns.Nodup) (hl : ns.length ≤ 64) (k : Nat) (hk : 2 ^ k ≤ ns.length) {kx : XD → Prop} {kd : D → Prop} (h : kd (.tup ((wonK ns k).map D.str))) : m_law_stronger [.ptp (ns.map D.str), .tup ((pairsK ns k).map prD)] kx kd := by
  refine go_law_stronger ?_
  unfold body_law_stronger
  have hpl : (pairsK ns k).length = 2 ^ k := by unfold pairsK; rw [List.length_map, hlf_len]
  have hp0 := Nat.two_pow_pos k
  repeat sizeOf_list_dec
  rw [List.length_map, hpl]
  unfold pairsK
  rw [List.map_map]
  repeat sizeOf_list_dec
  refine x_for_pre (f := fun p : Int => prD (seat ns p, seat ns (2 * ((2 ^ k : Nat) : Int) + 1 - p))) (l := hlf k) (fun pre ρ => ∃ a4 a5 a6 : S, ρ = [.val (.ptp (ns.map D.str)), .val (.tup ((hlf k).map fun p : Int => prD (seat ns p, seat ns (2 * ((2 ^ k : Nat) : Int) + 1 - p)))), .own ((pre.map (nameAt ns)).map D.str), .val (.int (2 * ((2 ^ k : Nat) : Int))), a4, a5, a6, .un]) ⟨_, _, _, rfl⟩ ?_ ?_
  · rintro ρ ⟨a4, a5, a6, rfl⟩
    repeat sizeOf_list_dec
    refine x_tupleL (by rw [List.length_map, List.length_map, hlf_len]; unfold BIG; omega) ?_
    exact h
  · rintro pre p post ρ P2 hpp ⟨a4, a5, a6, rfl⟩ hP2
    have hb := hlf_bd k p (by rw [hpp]; simp)
    have hP2 := fun a4 a5 a6 => hP2 _ ⟨a4, a5, a6, rfl⟩
    rw [List.map_append, List.map_append] at hP2
    have hprl : pre.length ≤ 64 := by
      have := congrArg List.length hpp
      rw [hlf_len, List.length_append] at this
      omega
    generalize hN : ((2 ^ k : Nat) : Int) = N at *
    have es := seat_name (ns := ns) (p := p) (by omega) (by omega)
    unfold lp_law_stronger_1 prD
    repeat sizeOf_list_dec
    refine x_lc_filterA (l := [p, 2 * N + 1 - p]) (f := fun p => oS (seat ns p)) (fun q : Int => decide (q ≤ ((ns.length : Nat) : Int))) (fun q => .int q) (fun q hq A B hA hB => ?_) ?_
    · have hq1 : 1 ≤ q := by
        rcases List.mem_cons.mp hq with rfl | hq
        · omega
        · rw [List.mem_singleton.mp hq]; omega
      by_cases c : q ≤ (ns.length : Nat)
      · have hA := hA (decide_eq_true c)
        rw [seat_name hq1 c]
        unfold oS
        repeat sizeOf_list_dec
        refine ⟨rfl, x_nF ?_⟩
        repeat sizeOf_list_dec
        refine x_indexS nd (name_get hq1 c) ?_
        repeat sizeOf_list_dec
        rw [show (((q - 1).toNat : Nat) : Int) + 1 = q by omega]
        exact ⟨rfl, hA⟩
      · have hB := hB (decide_eq_false c)
        rw [seat_none (by omega)]
        unfold oS
        repeat sizeOf_list_dec
        exact ⟨rfl, x_nT hB⟩
    have hname := name_get (ns := ns) (p := p) (by omega) (by omega)
    have z := CS.atI_nat (ds := ns.map D.str) (j := (p - 1).toNat) (d := .str (nameAt ns p)) (by rw [List.getElem?_map, hname]; rfl)
    rw [show (((p - 1).toNat : Nat) : Int) = p - 1 by omega] at z
    by_cases c : 2 * N + 1 - p ≤ (ns.length : Nat)
    · rw [show [p, 2 * N + 1 - p].filter (fun q : Int => decide (q ≤ ((ns.length : Nat) : Int))) = [p, 2 * N + 1 - p] by
        rw [List.filter_cons, if_pos (decide_eq_true (by omega)), List.filter_cons, if_pos (decide_eq_true c)]
        rfl]
      repeat sizeOf_list_dec
      refine x_yes (by simp) ?_
      repeat sizeOf_list_dec
      refine x_noN (by simp only [List.sum_cons, List.sum_nil]; omega) ?_
      repeat sizeOf_list_dec
      refine x_no (by simp) ?_
      repeat sizeOf_list_dec
      refine x_minAL (by simp) fun mm q1 q2 => ?_
      have em : mm = p := by
        have := q2 p (by simp)
        simp at q1
        omega
      subst em
      repeat sizeOf_list_dec
      refine x_ixT z ?_
      repeat sizeOf_list_dec
      refine x_append rfl (by rw [List.length_map, List.length_map]; unfold BIG; omega) rfl ?_
      exact hP2 _ _ _
    · rw [show [p, 2 * N + 1 - p].filter (fun q : Int => decide (q ≤ ((ns.length : Nat) : Int))) = [p] by
        rw [List.filter_cons, if_pos (decide_eq_true (by omega)), List.filter_cons, if_neg (by simpa using c)]
        rfl]
      repeat sizeOf_list_dec
      refine x_no (by simp) ?_
      repeat sizeOf_list_dec
      refine x_yes (by simp) ?_
      repeat sizeOf_list_dec
      rw [List.length_map]
      refine x_no (by omega) ?_
      repeat sizeOf_list_dec
      refine x_minAL (by simp) fun mm q1 q2 => ?_
      have em : mm = p := by
        have := q2 p (by simp)
        simp at q1
        omega
      subst em
      repeat sizeOf_list_dec
      refine x_ixT z ?_
      repeat sizeOf_list_dec
      refine x_append rfl (by rw [List.length_map, List.length_map]; unfold BIG; omega) rfl ?_
      exact hP2 _ _ _
theorem inV_strs (a : Str) : ∀ l : List Str, inV (vOf (.str a)) ((l.map D.str).map vOf) = decide (a ∈ l)
  | [] => rfl
  | b :: l => by
    rw [List.map_cons, List.map_cons]
    show ((b == a) || inV (vOf (.str a)) ((l.map D.str).map vOf)) = _
    rw [inV_strs a l, Bool.eq_iff_iff, Bool.or_eq_true, beq_iff_eq, decide_eq_true_eq, decide_eq_true_eq, List.mem_cons]
    exact ⟨fun h => h.elim (fun h => .inl h.symm) .inr, fun h => h.elim (fun h => .inl h.symm) .inr⟩
theorem x_nin_strs {a : Str} {l : List Str} {kd : D → Prop} (h : kd (.bl (!decide (a ∈ l)))) : gNin (.str a) (.tup (l.map D.str)) kd := x_ninC _ rfl (flat_strs l) (inV_strs a l) h
theorem x_in_strs {a : Str} {l : List Str} {kd : D → Prop} (h : kd (.bl (decide (a ∈ l)))) : gIn (.str a) (.tup (l.map D.str)) kd := x_inC _ rfl (flat_strs l) (inV_strs a l) h
theorem x_forC {γ : TGd} {tb : TDS} {d : D} {ds : List D} {ρ : Rho} {kx : KX} {k : KS} (h : γ d ρ fun ρ1 => tb ρ1 kx { nx := fun ρ' => forD γ tb ds ρ' kx k, ct := fun ρ' => forD γ tb ds ρ' kx k, bk := k.nx, rt := k.rt }) : forD γ tb (d :: ds) ρ kx k := h
theorem x_forN {γ : TGd} {tb : TDS} {ρ : Rho} {kx : KX} {k : KS} (h : k.nx ρ) : forD γ tb [] ρ kx k := h
theorem x_indexN {l : List Int} {a : Int} {j : Nat} {kd : D → Prop} (hn : l.Nodup) (h1 : l[j]? = some a) (h : kd (.int (j : Nat))) : gIndexF (l.map D.int) (.int a) kd := x_indexI h1 (fun m hm e => by
  obtain ⟨l1, e1⟩ := List.getElem?_eq_some_iff.mp h1
  obtain ⟨l2, e2⟩ := List.getElem?_eq_some_iff.mp e
  exact (List.pairwise_iff_getElem.mp hn) m j l2 l1 hm (e2.trans e1.symm)) h
theorem v_rounds_no (ns : List Str) (a b : Str) (c : Str) (hab : a ∉ ns ∧ c = a ∨ a ∈ ns ∧ b ∉ ns ∧ c = b) {kx : XD → Prop} {kd : D → Prop} (h : kx ⟨"NoName", ["name"], [.str c]⟩) : m_rounds_to [.ptp (ns.map D.str), .str a, .str b] kx kd := by
  refine go_rounds_to ?_
  unfold body_rounds_to
  repeat sizeOf_list_dec
  refine x_forC ?_
  unfold lp_rounds_to_1
  repeat sizeOf_list_dec
  refine x_nin_strs ?_
  rcases hab with ⟨h1, rfl⟩ | ⟨h1, h2, rfl⟩
  · rw [decide_eq_false h1]
    repeat sizeOf_list_dec
    exact h
  · rw [decide_eq_true h1]
    repeat sizeOf_list_dec
    refine x_forC ?_
    repeat sizeOf_list_dec
    refine x_nin_strs ?_
    rw [decide_eq_false h2]
    repeat sizeOf_list_dec
    exact h
theorem v_rounds (ns : List Str) (nd : ns.Nodup) (hl : ns.length ≤ 64) (k : Nat) (hk1 : k = 0 ∨ 2 ^ k < ns.length) (hk2 : ns.length ≤ 2 ^ (k + 1)) (a b : Str) (i1 i2 x y r : Nat) (ha : ns[i1]? = some a) (hb : ns[i2]? = some b) (hx : (lad k)[x]? = some ((i1 : Int) + 1)) (hy : (lad k)[y]? = some ((i2 : Int) + 1)) (hr : Rd x y r) {kx : XD → Prop} {kd : D → Prop} (h : kd (.int (r : Nat))) : m_rounds_to [.ptp (ns.map D.str), .str a, .str b] kx kd := by
  have ma := List.mem_of_getElem? ha
  have mb := List.mem_of_getElem? hb
  refine go_rounds_to ?_
  unfold body_rounds_to
  repeat sizeOf_list_dec
  refine x_forC ?_
  unfold lp_rounds_to_1
  repeat sizeOf_list_dec
  refine x_nin_strs ?_
  rw [decide_eq_true ma]
  repeat sizeOf_list_dec
  refine x_forC ?_
  repeat sizeOf_list_dec
  refine x_nin_strs ?_
  rw [decide_eq_true mb]
  repeat sizeOf_list_dec
  refine x_forN ?_
  repeat sizeOf_list_dec
  rw [List.length_map]
  refine v_places ns.length hl fun k' q1 q2 => ?_
  have ek : k' = k := by
    have := k_uniq q1 hk2
    have := k_uniq hk1 q2
    omega
  subst ek
  repeat sizeOf_list_dec
  refine x_indexS nd ha ?_
  repeat sizeOf_list_dec
  refine x_indexN (lad_nodup _) hx ?_
  repeat sizeOf_list_dec
  refine x_indexS nd hb ?_
  repeat sizeOf_list_dec
  refine x_indexN (lad_nodup _) hy ?_
  repeat sizeOf_list_dec
  refine x_while (fun m ρ => ∃ (x y c : Nat), Rd x y m ∧ c + m = r ∧ ρ = [.val (.ptp (ns.map D.str)), .val (.str a), .val (.str b), .val (.str b), .val (.lst ((lad k').map D.int)), .val (.int (x : Nat)), .val (.int (y : Nat)), .val (.int (c : Nat))]) ⟨x, y, 0, hr, by omega, rfl⟩ ?_
  rintro m ρ P ⟨x, y, c, hr, hc, rfl⟩ hP -
  repeat sizeOf_list_dec
  cases hr with
  | same x =>
    refine x_noN rfl ?_
    unfold tl_rounds_to_1
    repeat sizeOf_list_dec
    rw [show c = r by omega]
    exact h
  | @step _ _ m' ne hr =>
    refine x_yesN (by omega) ?_
    unfold lp_rounds_to_2
    repeat sizeOf_list_dec
    rw [Int.fdiv_eq_ediv_of_nonneg _ (by omega), Int.fdiv_eq_ediv_of_nonneg _ (by omega)]
    refine hP m' _ (by omega) ⟨x / 2, y / 2, c + 1, hr, by omega, ?_⟩
    rw [show ((x : Int) / 2) = ((x / 2 : Nat) : Int) by omega, show ((y : Int) / 2) = ((y / 2 : Nat) : Int) by omega, show ((c : Int) + 1) = ((c + 1 : Nat) : Int) by omega]
theorem all2_snoc {α β : Type} {R : α → β → Prop} {as : List α} {bs : List β} {a : α} {b : β} (h : All2 R as bs) (h2 : R a b) : All2 R (as ++ [a]) (bs ++ [b]) := by
  induction h with
  | nil => exact .cons h2 .nil
  | cons h _ ih => exact .cons h ih
theorem all2_len {α β : Type} {R : α → β → Prop} {as : List α} {bs : List β} (h : All2 R as bs) : as.length = bs.length := by
  induction h with
  | nil => rfl
  | cons _ _ ih => simp [ih]
theorem all2_get {α β : Type} {R : α → β → Prop} {as : List α} {bs : List β} (h : All2 R as bs) : ∀ (i : Nat) (a : α) (b : β), as[i]? = some a → bs[i]? = some b → R a b := by
  induction h with
  | nil => intro i a b h; cases h
  | @cons a0 b0 as bs h _ ih =>
    intro i a b ha hb
    match i with
    | 0 =>
      have ha : some a0 = some a := ha
      have hb : some b0 = some b := hb
      cases ha
      cases hb
      exact h
    | i + 1 => exact ih i a b ha hb
theorem flt_nms (x y : Option Str) : ([x, y].filter fun o => o.isSome).map oS = (nms (x, y)).map D.str := by
  cases x <;> cases y <;> rfl
theorem nms_len (p : Pr) : (nms p).length ≤ 2 := by
  obtain ⟨x, y⟩ := p
  cases x <;> cases y <;> simp [nms]
theorem plns_strs : ∀ (n : Nat) (l : List Str), plns n (l.map D.str) = true
  | _, [] => rfl
  | n, o :: l => by
    rw [List.map_cons]
    unfold plns
    rw [plns_strs n l, Bool.and_true]
    cases n <;> rfl
def chs (a b : Str) (l : List Str) : List Str := if (l.filter fun w => decide (w ∈ [a, b])) = [] then l else l.filter fun w => decide (w ∈ [a, b])
theorem chs_mem {a b w : Str} {l : List Str} (h : w ∈ chs a b l) : w ∈ l ∧ (a ∈ l ∨ b ∈ l → w = a ∨ w = b) := by
  unfold chs at h
  by_cases e : (l.filter fun w => decide (w ∈ [a, b])) = []
  · rw [if_pos e] at h
    refine ⟨h, fun q => ?_⟩
    have key : ∀ c, c ∈ l → c ∈ [a, b] → False := fun c h1 h2 => by
      have : c ∈ l.filter fun w => decide (w ∈ [a, b]) := List.mem_filter.mpr ⟨h1, decide_eq_true h2⟩
      rw [e] at this
      cases this
    rcases q with q | q
    · exact (key a q (by simp)).elim
    · exact (key b q (by simp)).elim
  · rw [if_neg e] at h
    obtain ⟨h1, h2⟩ := List.mem_filter.mp h
    have h2 := of_decide_eq_true h2
    exact ⟨h1, fun _ => by simpa using h2⟩
theorem chs_pos {a b : Str} {l : List Str} (h : l ≠ []) : 1 ≤ (chs a b l).length ∧ (chs a b l).length ≤ l.length := by
  unfold chs
  by_cases e : (l.filter fun w => decide (w ∈ [a, b])) = []
  · rw [if_pos e]
    exact ⟨List.length_pos_iff.mpr h, Nat.le_refl _⟩
  · rw [if_neg e]
    exact ⟨List.length_pos_iff.mpr e, List.length_filter_le _ _⟩
theorem all2_imp {α β : Type} {R S : α → β → Prop} {as : List α} {bs : List β} (h : All2 R as bs) (f : ∀ a b, R a b → S a b) : All2 S as bs := by
  induction h with
  | nil => exact .nil
  | cons h _ ih => exact .cons (f _ _ h) ih
theorem next_at {P : List Pr} {won : List Str} {a b : Str} {X j : Nat} (hw : All2 (fun p w => w ∈ nms p ∧ (a ∈ nms p ∨ b ∈ nms p → w = a ∨ w = b)) P won) (hl : P.length = 2 ^ (j + 1)) (c : Str) (hc : c = a ∨ c = b) (p : Pr) (hp : P[X]? = some p) (hm : c ∈ nms p) (ho : ∀ d, d ∈ nms p → d = a ∨ d = b → d = c) : ∃ q, (twos (won.map some))[X / 2]? = some q ∧ c ∈ nms q := by
  have hwl := all2_len hw
  obtain ⟨hX, _⟩ := List.getElem?_eq_some_iff.mp hp
  have hXw : X < won.length := by omega
  obtain ⟨g1, g2⟩ := all2_get hw X p won[X] hp (List.getElem?_eq_getElem hXw)
  have hwc : won[X] = c := by
    refine ho _ g1 (g2 ?_)
    rcases hc with rfl | rfl
    · exact .inl hm
    · exact .inr hm
  have hp2 := Nat.pow_succ 2 j
  have e1 : (won.map some)[2 * (X / 2)]? = some (some won[2 * (X / 2)]) := by rw [List.getElem?_map, List.getElem?_eq_getElem (by omega)]; rfl
  have e2 : (won.map some)[2 * (X / 2) + 1]? = some (some won[2 * (X / 2) + 1]) := by rw [List.getElem?_map, List.getElem?_eq_getElem (by omega)]; rfl
  refine ⟨_, twos_get _ _ _ _ e1 e2, mem_nms.mpr ?_⟩
  rcases (by omega : X = 2 * (X / 2) ∨ X = 2 * (X / 2) + 1) with h | h
  · left
    show some won[2 * (X / 2)] = some c
    rw [← hwc]
    congr 1
    congr 1
    exact h.symm
  · right
    show some won[2 * (X / 2) + 1] = some c
    rw [← hwc]
    congr 1
    congr 1
    exact h.symm
theorem tail_of {ns : List Int} {s2 s3 s4 s5 s6 s8 s10 : S} {kx : KX} {n b c : Rho → Prop} {r : D → Rho → Prop} (L : List Str) (hL : 1 ≤ L.length ∧ L.length ≤ 2) (won : List Str) (hwl : won.length ≤ 100)
    (hn : ∀ w ∈ L, n [.val (.scr ns), .val .town, s2, s3, s4, s5, s6, .val (.tup ((won ++ [w]).map D.str)), s8, .val (.lst (L.map D.str)), s10, .un]) :
    tl_law_round_of_1 [.val (.scr ns), .val .town, s2, s3, s4, s5, s6, .val (.tup (won.map D.str)), s8, .val (.lst (L.map D.str)), s10, .un] kx ⟨n, r, b, c⟩ := by
  unfold tl_law_round_of_1
  repeat sizeOf_list_dec
  rw [List.length_map]
  refine x_draw (by omega) fun v l u => ?_
  have hvl : v.toNat < L.length := by omega
  have hn := hn _ (List.getElem_mem hvl)
  rw [List.map_append] at hn
  have z1 := CS.atI_nat (ds := L.map D.str) (j := v.toNat) (d := .str L[v.toNat]) (by rw [List.getElem?_map, List.getElem?_eq_getElem hvl]; rfl)
  rw [show ((v.toNat : Nat) : Int) = v by omega] at z1
  repeat sizeOf_list_dec
  refine x_ixL z1 ?_
  repeat sizeOf_list_dec
  refine x_addT (by simp only [List.length_map, List.length_singleton]; unfold BIG; omega) ?_
  repeat sizeOf_list_dec
  exact hn
theorem v_round_of {ns : List Int} (nm : List Str) (nd : nm.Nodup) (nz : ("z" : Str) ∉ nm) (hl : nm.length ≤ 41) (k : Nat) (hk1 : k = 0 ∨ 2 ^ k < nm.length) (hk2 : nm.length ≤ 2 ^ (k + 1)) (a b : Str) (hab : a ≠ b) (i1 i2 x y r : Nat) (ha : nm[i1]? = some a) (hb : nm[i2]? = some b) (hx : (lad k)[x]? = some ((i1 : Int) + 1)) (hy : (lad k)[y]? = some ((i2 : Int) + 1)) (hr : Rd (x / 2) (y / 2) r) {kx : XD → Prop} {kd : D → Prop} (h : kd (.int ((r + 1 : Nat) : Int))) : m_law_round_of [.scr ns, .town, .tup (nm.map D.str), .str a, .str b] kx kd := by
  have ma := List.mem_of_getElem? ha
  have h1 : 1 ≤ nm.length := by have := (List.getElem?_eq_some_iff.mp ha).1; omega
  have hk5 : k ≤ 5 := k_uniq hk1 (b := 5) (by omega)
  have hpw := Nat.pow_succ 2 k
  have hll := lad_len k
  refine go_law_round_of ?_
  unfold body_law_round_of
  repeat sizeOf_list_dec
  refine v_draw_up nm (by omega) fun k' q1 q2 => ?_
  have ek : k' = k := by
    have := k_uniq q1 hk2
    have := k_uniq hk1 q2
    omega
  subst ek
  have I0 := inv_first (k := k') nd nz h1 hk1
  have hol : (twos ((lad k').map (seat nm))).length = 2 ^ k' := by rw [twos_len, List.length_map, hll]; omega
  have at0 : ∀ (c : Str) (i x : Nat), nm[i]? = some c → (lad k')[x]? = some ((i : Int) + 1) → ∃ q, (twos ((lad k').map (seat nm)))[x / 2]? = some q ∧ c ∈ nms q := fun c i x hi hx => by
    obtain ⟨hxl, _⟩ := List.getElem?_eq_some_iff.mp hx
    have e1 : ((lad k').map (seat nm))[2 * (x / 2)]? = some (seat nm (lad k')[2 * (x / 2)]) := by rw [List.getElem?_map, List.getElem?_eq_getElem (by omega)]; rfl
    have e2 : ((lad k').map (seat nm))[2 * (x / 2) + 1]? = some (seat nm (lad k')[2 * (x / 2) + 1]) := by rw [List.getElem?_map, List.getElem?_eq_getElem (by omega)]; rfl
    have es : seat nm ((i : Int) + 1) = some c := by unfold seat; rw [show ((i : Int) + 1 - 1).toNat = i by omega]; exact hi
    refine ⟨_, twos_get _ _ _ _ e1 e2, mem_nms.mpr ?_⟩
    have hv : ((lad k').map (seat nm))[x]? = some (some c) := by rw [List.getElem?_map, hx]; exact congrArg some es
    rcases (by omega : x = 2 * (x / 2) ∨ x = 2 * (x / 2) + 1) with h | h
    · left
      rw [h, e1] at hv
      exact Option.some.inj hv
    · right
      rw [h, e2] at hv
      exact Option.some.inj hv
  have a0 := at0 a i1 x ha hx
  have b0 := at0 b i2 y hb hy
  have hkp : 2 ^ k' ≤ 2 ^ 5 := Nat.pow_le_pow_right (by omega) hk5
  generalize twos ((lad k').map (seat nm)) = P0 at *
  repeat sizeOf_list_dec
  refine x_while (fun m ρ => ∃ (P : List Pr) (X Y c j : Nat) (a7 a8 a9 a10 : S), Inv P ∧ P.length = 2 ^ j ∧ P.length ≤ 32 ∧ (∃ p, P[X]? = some p ∧ a ∈ nms p) ∧ (∃ q, P[Y]? = some q ∧ b ∈ nms q) ∧ Rd X Y m ∧ c + m = r + 1 ∧
    ρ = [.val (.scr ns), .val .town, .val (.tup (nm.map D.str)), .val (.str a), .val (.str b), .val (.tup (P.map prD)), .val (.int (c : Nat)), a7, a8, a9, a10, .un]) ⟨P0, x / 2, y / 2, 1, k', _, _, _, _, I0, hol, by omega, a0, b0, hr, by omega, rfl⟩ ?_
  clear a0 b0 hr hol I0 at0
  rintro m ρ Q ⟨P, X, Y, c, j, a7, a8, a9, a10, I, hj, hPl, ⟨p, hp, hpa⟩, ⟨q, hq, hqb⟩, hr, hc, rfl⟩ hQ -
  have hpln : pln 9 (.tup (P.map prD)) = true := plns_pr 7 _
  repeat sizeOf_list_dec
  refine x_ninDC _ rfl hpln (any_pr P a b) ?_
  cases hr with
  | same X =>
    rw [hp] at hq
    cases hq
    have hpm := List.mem_of_getElem? hp
    have key : p = (some a, some b) ∨ p = (some b, some a) := by
      obtain ⟨u, v⟩ := p
      have e1 := mem_nms.mp hpa
      have e2 := mem_nms.mp hqb
      simp only at e1 e2
      rcases e1 with e1 | e1 <;> rcases e2 with e2 | e2
      · rw [e1] at e2; cases e2; exact (hab rfl).elim
      · left; rw [e1, e2]
      · right; rw [e1, e2]
      · rw [e1] at e2; cases e2; exact (hab rfl).elim
    rcases key with rfl | rfl
    · rw [decide_eq_true hpm]
      repeat sizeOf_list_dec
      unfold tl_law_round_of_2
      repeat sizeOf_list_dec
      rw [show c = r + 1 by omega]
      exact h
    · refine x_iteN (fun z => ?_) (fun z => ?_)
      · repeat sizeOf_list_dec
        unfold tl_law_round_of_2
        repeat sizeOf_list_dec
        rw [show c = r + 1 by omega]
        exact h
      · repeat sizeOf_list_dec
        refine x_ninDC _ rfl hpln (any_pr P b a) ?_
        rw [decide_eq_true hpm]
        repeat sizeOf_list_dec
        unfold tl_law_round_of_2
        repeat sizeOf_list_dec
        rw [show c = r + 1 by omega]
        exact h
  | @step _ _ m' ne hr =>
    have out : ∀ u v : Str, (u = a ∧ v = b ∨ u = b ∧ v = a) → (some u, some v) ∉ P := fun u v huv hm => by
      obtain ⟨i, hi⟩ := List.mem_iff_getElem?.mp hm
      have m1 : u ∈ nms (some u, some v) := mem_nms.mpr (.inl rfl)
      have m2 : v ∈ nms (some u, some v) := mem_nms.mpr (.inr rfl)
      rcases huv with ⟨rfl, rfl⟩ | ⟨rfl, rfl⟩
      · exact ne ((nd_idx P I.nd X i _ _ _ hp hi hpa m1).trans (nd_idx P I.nd Y i _ _ _ hq hi hqb m2).symm)
      · exact ne ((nd_idx P I.nd X i _ _ _ hp hi hpa m2).trans (nd_idx P I.nd Y i _ _ _ hq hi hqb m1).symm)
    rw [decide_eq_false (out a b (.inl ⟨rfl, rfl⟩))]
    repeat sizeOf_list_dec
    refine x_ninDC _ rfl hpln (any_pr P b a) ?_
    rw [decide_eq_false (out b a (.inr ⟨rfl, rfl⟩))]
    repeat sizeOf_list_dec
    unfold lp_law_round_of_2
    repeat sizeOf_list_dec
    refine x_for_pre (f := prD) (l := P) (fun pre ρ => ∃ (won : List Str) (a8 a9 a10 : S), All2 (fun p w => w ∈ nms p ∧ (a ∈ nms p ∨ b ∈ nms p → w = a ∨ w = b)) pre won ∧ ρ = [.val (.scr ns), .val .town, .val (.tup (nm.map D.str)), .val (.str a), .val (.str b), .val (.tup (P.map prD)), .val (.int (c : Nat)), .val (.tup (won.map D.str)), a8, a9, a10, .un]) ⟨[], _, _, _, .nil, rfl⟩ ?_ ?_
    · rintro ρ ⟨won, a8, a9, a10, hw, rfl⟩
      have hw2 := all2_imp hw fun p w h => h.1
      repeat sizeOf_list_dec
      refine v_play_ok P won hw2 (by omega) ?_
      repeat sizeOf_list_dec
      have hjj : ∃ j', j = j' + 1 := by
        cases j with
        | zero =>
          have z1 := (List.getElem?_eq_some_iff.mp hp).1
          have z2 := (List.getElem?_eq_some_iff.mp hq).1
          have : P.length = 1 := hj
          exact (ne (by omega)).elim
        | succ j' => exact ⟨j', rfl⟩
      obtain ⟨j', rfl⟩ := hjj
      have hpj := Nat.pow_succ 2 j'
      have hwl := all2_len hw
      have noa : ∀ d, d ∈ nms p → d = a ∨ d = b → d = a := fun d h1 h2 => by
        rcases h2 with rfl | rfl
        · rfl
        · exact (ne (nd_idx P I.nd X Y _ _ _ hp hq h1 hqb)).elim
      have nob : ∀ d, d ∈ nms q → d = a ∨ d = b → d = b := fun d h1 h2 => by
        rcases h2 with rfl | rfl
        · exact (ne (nd_idx P I.nd X Y _ _ _ hp hq hpa h1)).elim
        · rfl
      refine hQ m' _ (by omega) ⟨twos (won.map some), X / 2, Y / 2, c + 1, j', _, _, _, _, inv_next hw2 I, by rw [twos_len, List.length_map]; omega, by rw [twos_len, List.length_map]; omega, next_at hw hj a (.inl rfl) p hp hpa noa, next_at hw hj b (.inr rfl) q hq hqb nob, hr, by omega, rfl⟩
    · rintro pre ⟨u, v⟩ post ρ Q2 hpp ⟨won, a8, a9, a10, hw, rfl⟩ hQ2
      have hne := I.some (u, v) (by rw [hpp]; simp)
      have hnl := nms_len (u, v)
      have hwl := all2_len hw
      have hpl : pre.length ≤ 32 := by
        have := congrArg List.length hpp
        rw [List.length_append] at this
        omega
      have hQ2 := fun w a8 a9 a10 hw2 => hQ2 _ ⟨won ++ [w], a8, a9, a10, all2_snoc hw hw2, rfl⟩
      unfold lp_law_round_of_1 prD
      repeat sizeOf_list_dec
      refine x_lc_filterA (l := [u, v]) (f := oS) (fun o => o.isSome) oS (fun o ho A B hA hB => ?_) ?_
      · cases o with
        | none =>
          unfold oS
          repeat sizeOf_list_dec
          exact ⟨rfl, x_nT (hB rfl)⟩
        | some w =>
          unfold oS
          repeat sizeOf_list_dec
          refine ⟨rfl, x_nF ?_⟩
          repeat sizeOf_list_dec
          exact ⟨rfl, hA rfl⟩
      rw [flt_nms]
      have hcm := fun w => chs_mem (a := a) (b := b) (w := w) (l := nms (u, v))
      have hcp := chs_pos (a := a) (b := b) hne
      generalize hF : nms (u, v) = F at *
      repeat sizeOf_list_dec
      refine x_lc_filterA (l := F) (f := D.str) (fun w => decide (w ∈ [a, b])) D.str (fun w hw A B hA hB => ?_) ?_
      · repeat sizeOf_list_dec
        refine x_in_strs (l := [a, b]) ?_
        refine ⟨rfl, ?_⟩
        refine x_iteD (fun z => ?_) (fun z => ?_)
        · repeat sizeOf_list_dec
          exact ⟨rfl, hA (decide_eq_true z)⟩
        · exact hB (decide_eq_false z)
      have fin := fun (L : List Str) (hL : L = chs a b F) (s10 : S) (bq cq : Rho → Prop) (rq : D → Rho → Prop) => tail_of (b := bq) (c := cq) (r := rq) (ns := ns) (s2 := .val (.tup (nm.map D.str))) (s3 := .val (.str a)) (s4 := .val (.str b)) (s5 := .val (.tup (P.map prD))) (s6 := .val (.int (c : Nat))) (s8 := .val (.tup [oS u, oS v])) (s10 := s10) (kx := fun x _ => kx x) (n := Q2) L (by rw [hL]; omega) won (by omega) (fun w hw => hQ2 w _ _ _ (by rw [hL] at hw; exact hcm w hw))
      by_cases e : (F.filter fun w => decide (w ∈ [a, b])) = []
      · rw [e]
        repeat sizeOf_list_dec
        refine x_neRefl rfl ?_
        repeat sizeOf_list_dec
        exact fin F (by unfold chs; rw [if_pos e]) _ _ _ _
      · have hch : (F.filter fun w => decide (w ∈ [a, b])) = chs a b F := by unfold chs; rw [if_neg e]
        obtain ⟨g, G, hG⟩ := List.exists_cons_of_ne_nil e
        rw [hG] at hch ⊢
        repeat sizeOf_list_dec
        refine x_neC false (plns_strs 8 _) rfl rfl ?_
        repeat sizeOf_list_dec
        exact fin _ hch _ _ _ _
theorem atI_neg {ds : List D} {t : Int} {d : D} (h1 : t < 0) (h2 : -(ds.length : Int) ≤ t) (h : ds[(t + (ds.length : Int)).toNat]? = some d) : atI ds t = some d := by
  unfold atI ixN
  rw [if_neg (by omega), if_pos (by omega)]
  exact h
theorem lad_all : ∀ k, k < 6 → ∀ i, i < 2 ^ (k + 1) → ((i : Nat) : Int) + 1 ∈ lad k := by decide +kernel
theorem law_step {ns : List Int} {nm : List Str} {k : Nat} (nd : nm.Nodup) (nz : ("z" : Str) ∉ nm) (h2 : 2 ≤ nm.length) (hl : nm.length ≤ 41) (hk1 : k = 0 ∨ 2 ^ k < nm.length) (hk2 : nm.length ≤ 2 ^ (k + 1)) {a3 a4 a5 a6 a7 a8 a9 : S} {n b c : Rho → Prop} {r : D → Rho → Prop}
    (hn : ∀ a7 a8 a9, n [.val (.scr ns), .val .town, .val (.ptp (nm.map D.str)), a3, a4, a5, a6, a7, a8, a9, .un, .un]) :
    lp_law_2 [.val (.scr ns), .val .town, .val (.ptp (nm.map D.str)), a3, a4, a5, a6, a7, a8, a9, .un, .un] nokx ⟨n, r, b, c⟩ := by
  unfold lp_law_2
  repeat sizeOf_list_dec
  rw [List.length_map]
  refine x_draw (by omega) fun v1 l1 u1 => ?_
  have hv1 : v1.toNat < nm.length := by omega
  have z1 := CS.atI_nat (ds := nm.map D.str) (j := v1.toNat) (d := .str nm[v1.toNat]) (by rw [List.getElem?_map, List.getElem?_eq_getElem hv1]; rfl)
  rw [show ((v1.toNat : Nat) : Int) = v1 by omega] at z1
  repeat sizeOf_list_dec
  refine x_ixT z1 ?_
  repeat sizeOf_list_dec
  refine x_indexS nd (List.getElem?_eq_getElem hv1) ?_
  repeat sizeOf_list_dec
  rw [List.length_map]
  refine x_draw (by omega) fun v2 l2 u2 => ?_
  obtain ⟨i2, hi2, hne, z2⟩ : ∃ (i2 : Nat) (hi : i2 < nm.length), v1.toNat ≠ i2 ∧ atI (nm.map D.str) (((v1.toNat : Nat) : Int) - 1 - v2) = some (.str nm[i2]) := by
    by_cases c : 0 ≤ v1 - 1 - v2
    · refine ⟨(v1 - 1 - v2).toNat, by omega, by omega, ?_⟩
      rw [show ((v1.toNat : Nat) : Int) - 1 - v2 = (((v1 - 1 - v2).toNat : Nat) : Int) by omega]
      exact CS.atI_nat (by rw [List.getElem?_map, List.getElem?_eq_getElem (by omega)]; rfl)
    · refine ⟨(v1 - 1 - v2 + (nm.length : Int)).toNat, by omega, by omega, ?_⟩
      refine atI_neg (by omega) (by rw [List.length_map]; omega) ?_
      rw [List.length_map, show (((v1.toNat : Nat) : Int) - 1 - v2 + (nm.length : Int)).toNat = (v1 - 1 - v2 + (nm.length : Int)).toNat by omega, List.getElem?_map, List.getElem?_eq_getElem (by omega)]
      rfl
  repeat sizeOf_list_dec
  refine x_ixT z2 ?_
  repeat sizeOf_list_dec
  have hab : nm[v1.toNat] ≠ nm[i2] := fun e => by
    have q := List.pairwise_iff_getElem.mp nd
    rcases Nat.lt_or_gt_of_ne hne with h | h
    · exact q _ _ hv1 hi2 h e
    · exact q _ _ hi2 hv1 h e.symm
  have hk5 : k ≤ 5 := k_uniq hk1 (b := 5) (by omega)
  have inl : ∀ i : Nat, i < nm.length → ∃ x : Nat, (lad k)[x]? = some ((i : Int) + 1) := fun i hi =>
    List.mem_iff_getElem?.mp (lad_all k (by omega) i (by omega))
  obtain ⟨x, hx⟩ := inl _ hv1
  obtain ⟨y, hy⟩ := inl _ hi2
  have hxy : x ≠ y := fun e => by
    rw [e, hy] at hx
    have := Option.some.inj hx
    omega
  obtain ⟨r', hr⟩ := Rd.ex (x + y) (x / 2) (y / 2) (by omega) (by omega)
  refine v_rounds nm nd (by omega) k hk1 hk2 _ _ _ _ x y (r' + 1) (List.getElem?_eq_getElem hv1) (List.getElem?_eq_getElem hi2) hx hy (.step hxy hr) ?_
  repeat sizeOf_list_dec
  refine v_round_of nm nd nz hl k hk1 hk2 _ _ hab _ _ x y r' (List.getElem?_eq_getElem hv1) (List.getElem?_eq_getElem hi2) hx hy hr ?_
  repeat sizeOf_list_dec
  refine x_noN rfl ?_
  repeat sizeOf_list_dec
  refine v_rounds nm nd (by omega) k hk1 hk2 _ _ _ _ y x (r' + 1) (List.getElem?_eq_getElem hi2) (List.getElem?_eq_getElem hv1) hy hx (.step (Ne.symm hxy) hr.symm) ?_
  repeat sizeOf_list_dec
  refine x_noN rfl ?_
  repeat sizeOf_list_dec
  exact hn _ _ _
theorem names_ok (n : Nat) (hn : n ≤ 41) : (((List.range n).map fun i => ("n" : Str) ++ Str.ofString (toString ((i : Nat) : Int)))).Nodup ∧ ∀ c ∈ [("z" : Str), "y"], c ∉ ((List.range n).map fun i => ("n" : Str) ++ Str.ofString (toString ((i : Nat) : Int))) := by
  have key : ((List.range 41).map fun i => ("n" : Str) ++ Str.ofString (toString ((i : Nat) : Int))).Nodup ∧ ∀ c ∈ [("z" : Str), "y"], c ∉ ((List.range 41).map fun i => ("n" : Str) ++ Str.ofString (toString ((i : Nat) : Int))) := by decide +kernel
  obtain ⟨k1, k2⟩ := key
  have hs : (List.range n).Sublist (List.range 41) := List.range_sublist.mpr hn
  have hs := hs.map fun i => ("n" : Str) ++ Str.ofString (toString ((i : Nat) : Int))
  exact ⟨hs.nodup k1, fun c hc h => k2 c hc (hs.subset h)⟩
theorem plns_ints : ∀ (n : Nat) (l : List Int), plns n (l.map D.int) = true
  | _, [] => rfl
  | n, o :: l => by
    rw [List.map_cons]
    unfold plns
    rw [plns_ints n l, Bool.and_true]
    cases n <;> rfl
theorem law_holds : ∀ ns : List Int, ns.length ≤ 63 → t_law (rhoL N_law.length ns) nokx KL := by
  intro ns hn
  unfold t_law
  repeat sizeOf_list_dec
  refine x_draw (by decide) fun v2 l2 u2 => ?_
  repeat sizeOf_list_dec
  obtain ⟨n, en⟩ : ∃ n : Nat, 2 + v2 = (n : Int) := ⟨(2 + v2).toNat, by omega⟩
  rw [en, Int.toNat_natCast]
  have hn20 : 2 ≤ n ∧ n ≤ 40 := by omega
  obtain ⟨nd, nz⟩ := names_ok n (by omega)
  have hnl : ((List.range n).map fun i => ("n" : Str) ++ Str.ofString (toString ((i : Nat) : Int))).length = n := by simp
  unfold rng
  repeat sizeOf_list_dec
  refine x_lc_mapA (α := Nat) (fun i => .str (("n" : Str) ++ Str.ofString (toString ((i : Nat) : Int)))) (fun i hi A hA => ?_) ?_
  · have hi := List.mem_range.mp hi
    rw [Int.zero_add]
    repeat sizeOf_list_dec
    refine x_addS (by have := len10 (i := (i : Int)) (by unfold Sm; omega); have : ("n" : Str).length = 1 := rfl; unfold BIG; omega) ?_
    exact ⟨rfl, hA⟩
  rw [show ((List.range n).map fun i => D.str (("n" : Str) ++ Str.ofString (toString ((i : Nat) : Int)))) = ((List.range n).map fun i => ("n" : Str) ++ Str.ofString (toString ((i : Nat) : Int))).map D.str by rw [List.map_map]; rfl]
  generalize ((List.range n).map fun i => ("n" : Str) ++ Str.ofString (toString ((i : Nat) : Int))) = nm at *
  have nzz := nz "z" (by simp)
  have nzy := nz "y" (by simp)
  repeat sizeOf_list_dec
  refine x_tupleLP (by rw [List.length_map, hnl]; unfold BIG; omega) ?_
  repeat sizeOf_list_dec
  refine v_draw_up nm (by omega) fun k hk1 hk2 => ?_
  have hk5 : k ≤ 5 := k_uniq hk1 (b := 5) (by omega)
  have hk0 : 2 ^ k ≤ nm.length := by
    rcases hk1 with rfl | h
    · rw [Nat.pow_zero]; omega
    · omega
  rw [pairsK_eq]
  repeat sizeOf_list_dec
  rw [List.length_map]
  refine x_while (fun m ρ => ∃ (a3 a4 a5 : S), ((∃ k', m = k' + 1 ∧ 2 ^ k' ≤ nm.length ∧ k' ≤ 5 ∧ a3 = .val (.tup ((pairsK nm k').map prD))) ∨ (m = 0 ∧ a3 = .val (.tup []) ∧ a4 = .val (.int 1))) ∧ ρ = [.val (.scr ns), .val .town, .val (.ptp (nm.map D.str)), a3, a4, a5, .un, .un, .un, .un, .un, .un]) ⟨_, _, _, .inl ⟨k, rfl, hk0, hk5, rfl⟩, rfl⟩ ?_
  rintro m ρ Q ⟨a3, a4, a5, hJ, rfl⟩ hQ -
  rcases hJ with ⟨k', rfl, hk', hk5', rfl⟩ | ⟨rfl, rfl, rfl⟩
  · have hpl : (pairsK nm k').length = 2 ^ k' := by unfold pairsK; rw [List.length_map, hlf_len]
    have hne : pairsK nm k' ≠ [] := fun z => by rw [z] at hpl; have := Nat.two_pow_pos k'; simp at hpl; omega
    repeat sizeOf_list_dec
    obtain ⟨p0, P0, hP⟩ := List.exists_cons_of_ne_nil hne
    refine x_neC false (plns_pr 7 _) rfl (by rw [hP]; rfl) ?_
    unfold lp_law_1
    repeat sizeOf_list_dec
    refine v_stronger nm nd (by omega) k' hk' ?_
    repeat sizeOf_list_dec
    refine x_F ?_
    repeat sizeOf_list_dec
    rw [show (wonK nm k').map D.str = (hlf k').map fun p => D.str (nameAt nm p) by unfold wonK; rw [List.map_map]; rfl]
    repeat sizeOf_list_dec
    refine x_lc_mapA (l := hlf k') (f := fun p => D.str (nameAt nm p)) (fun p => .int (p - 1)) (fun p hp A hA => ?_) ?_
    · have hb := hlf_bd k' p hp
      repeat sizeOf_list_dec
      refine x_indexS nd (name_get (p := p) (by omega) (by omega)) ?_
      repeat sizeOf_list_dec
      rw [show (((p - 1).toNat : Nat) : Int) = p - 1 by omega]
      exact ⟨rfl, hA⟩
    rw [show ((hlf k').map fun p => D.str (nameAt nm p)) = (wonK nm k').map D.str by unfold wonK; rw [List.map_map]; rfl]
    rw [show ((hlf k').map fun p => D.int (p - 1)) = ((hlf k').map fun p => p - 1).map D.int by rw [List.map_map]; rfl]
    have hs := hlf_sorted k' hk5'
    have hpk : 2 ^ k' ≤ 2 ^ 5 := Nat.pow_le_pow_right (by omega) hk5'
    repeat sizeOf_list_dec
    refine x_srtL (by rw [List.length_map, hlf_len]; unfold BIG; omega) ?_
    repeat sizeOf_list_dec
    rw [List.length_map, hpl]
    repeat sizeOf_list_dec
    rw [Int.toNat_natCast, ← hs]
    refine x_neRefl (plns_ints 8 _) ?_
    repeat sizeOf_list_dec
    refine v_play_ok (pairsK nm k') (wonK nm k') (wonK_ok nm k' hk') (by omega) ?_
    repeat sizeOf_list_dec
    cases k' with
    | zero => exact hQ 0 _ (by omega) ⟨_, _, _, .inr ⟨rfl, rfl, rfl⟩, rfl⟩
    | succ k' =>
      have hpp := Nat.pow_succ 2 k'
      rw [wonK_next nm k' hk']
      exact hQ (k' + 1) _ (by omega) ⟨_, _, _, .inl ⟨k', rfl, by omega, by omega, rfl⟩, rfl⟩
  · repeat sizeOf_list_dec
    refine x_neRefl rfl ?_
    repeat sizeOf_list_dec
    unfold tl_law_1
    repeat sizeOf_list_dec
    refine x_for_rng (fun _ ρ => ∃ a5 a6 a7 a8 a9 : S, ρ = [.val (.scr ns), .val .town, .val (.ptp (nm.map D.str)), .val (.tup []), .val (.int 1), a5, a6, a7, a8, a9, .un, .un]) ⟨_, _, _, _, _, rfl⟩ ?_ ?_
    · rintro ρ ⟨a5, a6, a7, a8, a9, rfl⟩
      repeat sizeOf_list_dec
      refine v_rounds_no nm "y" "z" "y" (.inl ⟨nzy, rfl⟩) ?_
      repeat sizeOf_list_dec
      refine hx_NoName ?_
      repeat sizeOf_list_dec
      refine x_neRefl rfl ?_
      repeat sizeOf_list_dec
      refine x_yes rfl ?_
      have h0 : 0 < nm.length := by omega
      repeat sizeOf_list_dec
      refine x_ixT (CS.atI_nat (ds := nm.map D.str) (j := 0) (d := .str nm[0]) (by rw [List.getElem?_map, List.getElem?_eq_getElem h0]; rfl)) ?_
      repeat sizeOf_list_dec
      refine v_rounds_no nm nm[0] "z" "z" (.inr ⟨List.getElem_mem h0, nzz, rfl⟩) ?_
      repeat sizeOf_list_dec
      refine hx_NoName ?_
      repeat sizeOf_list_dec
      refine x_eqRefl rfl ?_
      rfl
    · rintro i ρ P hi ⟨a5, a6, a7, a8, a9, rfl⟩ hP
      repeat sizeOf_list_dec
      refine law_step nd nzz (by omega) (by omega) hk1 hk2 fun a7 a8 a9 => ?_
      exact hP _ ⟨_, _, _, _, _, rfl⟩
end L68
open L68 in
open PySem PySem.W PyProof.Rows L2 in
set_option maxRecDepth 100000 in
set_option maxHeartbeats 0 in
theorem PySem.Challenge.cw_strokesgiven_k68_whole_the_strongest_mee_holds : PySem.Challenge.rw_strokesgiven_k68_whole_the_strongest_mee.Holds := by
  w_on; o_law; k_head; (case hw => w_witness2)
  k_fill
  refine DL.walkLT (l := PySem.Challenge.rw_strokesgiven_k68_whole_the_strongest_mee) (k := 6) ⟨rfl, by decide, by decide⟩ rfl rfl (fun w h Y => by first | exact PySem.W.kIn_of Y | exact PySem.W.km_in_of Y) ?F
  case F =>
    intro w mg fa h KX G hmg own
    refine' L68.all_mk KX G hmg (fun fb hfb => own "law" fb (by with_unfolding_all rfl) hfb) L68.law_holds ?cC_NoBack ?cC_NoText ?cC_NoCard ?cC_Twice ?cC_NoName ?cC_NoShare ?cC_NoAbility ?cC_NoHalf ?cC_NoCourse ?cC_StrokeError ?a_law_draw ?l_law_draw ?c_law_draw ?k_law_draw ?a_law_begun ?l_law_begun ?c_law_begun ?k_law_begun ?a_places_of ?l_places_of ?c_places_of ?k_places_of ?a_by_twos ?l_by_twos ?c_by_twos ?k_by_twos ?a_draw_up ?l_draw_up ?c_draw_up ?k_draw_up ?a_law_stronger ?l_law_stronger ?c_law_stronger ?k_law_stronger ?a_NoName_init_m ?l_NoName_init_m ?c_NoName_init_m ?k_NoName_init_m ?a_play_on ?l_play_on ?c_play_on ?k_play_on ?a_rounds_to ?l_rounds_to ?c_rounds_to ?k_rounds_to ?a_law_class ?l_law_class ?c_law_class ?k_law_class ?a_law_heard ?l_law_heard ?c_law_heard ?k_law_heard ?a_law_round_of ?l_law_round_of ?c_law_round_of ?k_law_round_of ?a_law ?l_law ?c_law ?k_law ?xc_NoName ?ex_NoName ?ki_NoName_NoAbility ?ki_NoName_NoBack ?ki_NoName_NoCard ?ki_NoName_NoCourse ?ki_NoName_NoHalf ?ki_NoName_NoName ?ki_NoName_NoShare ?ki_NoName_NoText ?ki_NoName_Twice ?ki_NoName_ValueError ?xf_NoName_name ?ox_NoName ?nf_NoName ?ti_NoName ?cx_law ?cy_law ?cn_law ?ch_law ?z_ValueError ?z_isinstance ?z_len ?z_list ?z_min ?z_range ?z_sorted ?z_str ?z_sum ?z_tuple ?z_zip
    (case cC_NoBack => k_is)
    (case cC_NoText => k_is)
    (case cC_NoCard => k_is)
    (case cC_Twice => k_is)
    (case cC_NoName => k_is)
    (case cC_NoShare => k_is)
    (case cC_NoAbility => k_is)
    (case cC_NoHalf => k_is)
    (case cC_NoCourse => k_is)
    (case cC_StrokeError => k_is)
    (case a_law_draw => k_is)
    (case l_law_draw => k_is)
    (case c_law_draw => k_is)
    (case k_law_draw => k_is)
    (case a_law_begun => k_is)
    (case l_law_begun => k_is)
    (case c_law_begun => k_is)
    (case k_law_begun => k_is)
    (case a_places_of => k_is)
    (case l_places_of => k_is)
    (case c_places_of => k_is)
    (case k_places_of => k_is)
    (case a_by_twos => k_is)
    (case l_by_twos => k_is)
    (case c_by_twos => k_is)
    (case k_by_twos => k_is)
    (case a_draw_up => k_is)
    (case l_draw_up => k_is)
    (case c_draw_up => k_is)
    (case k_draw_up => k_is)
    (case a_law_stronger => k_is)
    (case l_law_stronger => k_is)
    (case c_law_stronger => k_is)
    (case k_law_stronger => k_is)
    (case a_NoName_init_m => k_is)
    (case l_NoName_init_m => k_is)
    (case c_NoName_init_m => k_is)
    (case k_NoName_init_m => k_is)
    (case a_play_on => k_is)
    (case l_play_on => k_is)
    (case c_play_on => k_is)
    (case k_play_on => k_is)
    (case a_rounds_to => k_is)
    (case l_rounds_to => k_is)
    (case c_rounds_to => k_is)
    (case k_rounds_to => k_is)
    (case a_law_class => k_is)
    (case l_law_class => k_is)
    (case c_law_class => k_is)
    (case k_law_class => k_is)
    (case a_law_heard => k_is)
    (case l_law_heard => k_is)
    (case c_law_heard => k_is)
    (case k_law_heard => k_is)
    (case a_law_round_of => k_is)
    (case l_law_round_of => k_is)
    (case c_law_round_of => k_is)
    (case k_law_round_of => k_is)
    (case a_law => k_is)
    (case l_law => k_is)
    (case c_law => k_is)
    (case k_law => k_is)
    (case xc_NoName => exact ⟨(show PySem.W.isClsIn _ _ = true by k_is), by k_is, by k_is, by k_is, by k_is, by k_is, by k_is, by k_is, by k_is⟩)
    (case ex_NoName => exact DL.exm_own (by k_is) (by k_is) (by k_is) (by k_is))
    (case ki_NoName_NoAbility => exact DL.kit_other (by decide) (by k_is) (by k_is) (by k_is))
    (case ki_NoName_NoBack => exact DL.kit_other (by decide) (by k_is) (by k_is) (by k_is))
    (case ki_NoName_NoCard => exact DL.kit_other (by decide) (by k_is) (by k_is) (by k_is))
    (case ki_NoName_NoCourse => exact DL.kit_other (by decide) (by k_is) (by k_is) (by k_is))
    (case ki_NoName_NoHalf => exact DL.kit_other (by decide) (by k_is) (by k_is) (by k_is))
    (case ki_NoName_NoName => exact DL.kit_self)
    (case ki_NoName_NoShare => exact DL.kit_other (by decide) (by k_is) (by k_is) (by k_is))
    (case ki_NoName_NoText => exact DL.kit_other (by decide) (by k_is) (by k_is) (by k_is))
    (case ki_NoName_Twice => exact DL.kit_other (by decide) (by k_is) (by k_is) (by k_is))
    (case ki_NoName_ValueError => exact DL.kit_type (by decide +kernel) (by k_is))
    (case xf_NoName_name => exact ⟨⟨by k_is, by k_is, by k_is, by k_is⟩, by k_is⟩)
    (case ox_NoName => exact ⟨⟨_, _, _, _, _, _, _, _, _, _, _, _, _, _, _, by k_is, by decide +kernel⟩, by k_is, by k_is, by k_is, by k_is⟩)
    (case nf_NoName => k_is)
    (case ti_NoName => k_is)
    (case cx_law => k_is)
    (case cy_law => rfl)
    (case cn_law => first | rfl | kernel_rfl)
    (case ch_law => first | kernel_rfl | decide +kernel)
    (case z_ValueError => k_is)
    (case z_isinstance => k_is)
    (case z_len => k_is)
    (case z_list => k_is)
    (case z_min => k_is)
    (case z_range => k_is)
    (case z_sorted => k_is)
    (case z_str => k_is)
    (case z_sum => k_is)
    (case z_tuple => k_is)
    (case z_zip => k_is)
